/- The law of CoreRoot. -/
import Derived.Test.YtkjnijddbiconaaGreatDoorC9
import Derived.Test.YtkjnijddbiconaaGreatDoorD3T
namespace Go.Proofs.YtkjnijddbiconaaGreatDoor.Ev
open Go
set_option linter.unusedVariables false
set_option linter.unusedSimpArgs false
set_option maxRecDepth 100000
set_option maxHeartbeats 1000000
def frm (a : ByteArray) : ByteArray := match strEq a ⟨#[]⟩ with
  | true => ⟨#[45]⟩
  | false => a
def lnS (e : Elem kc) : ByteArray := ⟨#[10]⟩ ++ e.1 ++ ⟨#[32]⟩ ++ dec e.2.1 ++ ⟨#[32]⟩ ++ frm e.2.2.1 ++ ⟨#[32]⟩ ++ ptrT (hom e).1 (hom e).2.1 (hom e).2.2.1
def lnP (e : Elem k3) : ByteArray := ⟨#[10, 46, 32]⟩ ++ ptrT e.1 e.2.1 e.2.2.1
def rtS (s : List (Elem kc)) : ByteArray := s.foldl (fun o e => o ++ lnS e) ⟨#[114, 111, 111, 116]⟩
def rtP (s : List (Elem kc)) (p : List (Elem k3)) : ByteArray := p.foldl (fun o e => o ++ lnP e) (rtS s)
def rootT (s : List (Elem kc)) (p : List (Elem k3)) : ByteArray := match (allB s.length fun i => setV (atC s i)) && (allB p.length fun i => rOk (atP p i)) with
  | true => rtP s p
  | false => ByteArray.empty
def g165 : G1
  | [.val (.string a)], [], k => k ⟨.val (.string (frm a)), [], []⟩
  | _, _, _ => False
def g95 : G1
  | [.agg us], [], k => match coreOf us with
    | some c => br (smB' c) (k ⟨.val (.string (rootT c.2.1 c.2.2.2.1)), [], []⟩) False
    | none => False
  | _, _, _ => False
theorem ptrT_size (a b c : Int) : (ptrT a b c).size ≤ 1000000 := by
  unfold ptrT
  split
  · exact Nat.zero_le _
  · rename_i h1
    split
    · show 1 ≤ 1000000
      omega
    · obtain ⟨r1, r2, r3⟩ := ptr_range h1
      have s1 := dec_size (n := a) (by omega) (by omega)
      have s2 := dec_size (n := b) (by omega) (by omega)
      have s3 := dec_size (n := c) (by omega) (by omega)
      rw [ByteArray.size_append, ByteArray.size_append, ByteArray.size_append, ByteArray.size_append]
      show (dec a).size + 1 + (dec b).size + 1 + (dec c).size ≤ _
      omega
theorem rtS_next (s : List (Elem kc)) {i : Nat} (hi : i < s.length) : rtS (s.take (i + 1)) = rtS (s.take i) ++ lnS (atC s i) := by
  unfold rtS
  rw [take_next s (edflt kc) hi, List.foldl_append]
  rfl
theorem rtP_next (s : List (Elem kc)) (p : List (Elem k3)) {i : Nat} (hi : i < p.length) : rtP s (p.take (i + 1)) = rtP s (p.take i) ++ lnP (atP p i) := by
  unfold rtP
  rw [take_next p (edflt k3) hi, List.foldl_append]
  rfl
theorem root_s {s : List (Elem kc)} {p : List (Elem k3)} {i : Nat} (hi : i < s.length) (h : setV (atC s i) = false) : rootT s p = ByteArray.empty := by
  unfold rootT
  rw [allB_f (n := s.length) (p := fun i => setV (atC s i)) hi h]
  rfl
theorem root_p {s : List (Elem kc)} {p : List (Elem k3)} {i : Nat} (hi : i < p.length) (h : rOk (atP p i) = false) : rootT s p = ByteArray.empty := by
  unfold rootT
  rw [allB_f (n := p.length) (p := fun i => rOk (atP p i)) hi h, Bool.and_false]
theorem root_t {s : List (Elem kc)} {p : List (Elem k3)} (h1 : ∀ i, i < s.length → setV (atC s i) = true) (h2 : ∀ i, i < p.length → rOk (atP p i) = true) : rootT s p = rtP s p := by
  unfold rootT
  rw [allB_t h1, allB_t h2]
  rfl
theorem frm_size {a : ByteArray} (h : a.size ≤ 1048576) : (frm a).size ≤ 1048576 := by
  unfold frm
  split
  · show 1 ≤ _
    omega
  · exact h
theorem kd_sz (k : Int) (h : k = 1 ∨ k = 2) : 1 ≤ k ∧ k ≤ 2 ∧ (dec k).size ≤ 2 := by
  have := dec_size (n := k) (by omega) (by omega)
  omega
theorem nameOk_sz6 {a : ByteArray} (h : nameOk a = true) : a.size ≤ 6 := by
  unfold nameOk at h
  simp only [Bool.and_eq_true, decide_eq_true_eq] at h
  omega
theorem setV_szs {e : Elem kc} (h : setV e = true) (hs : smC e = true) : ∃ k : Int, k = e.2.1 ∧ (1 ≤ k ∧ k ≤ 2 ∧ (dec k).size ≤ 2) ∧ e.1.size ≤ 6 ∧ (frm e.2.2.1).size ≤ 1048576 ∧ e.2.2.1.size ≤ 1048576 ∧ (ptrT (hom e).1 (hom e).2.1 (hom e).2.2.1).size ≤ 1000000 := by
  unfold setV at h
  unfold smC at hs
  simp only [Bool.and_eq_true, Bool.or_eq_true, decide_eq_true_eq, beq_iff_eq] at h hs
  exact ⟨e.2.1, rfl, kd_sz _ h.1.1.2, nameOk_sz6 h.1.1.1.1, frm_size hs.2, hs.2, ptrT_size _ _ _⟩
noncomputable def G165 : Gk := gk []
theorem hg165 : HG Tryz.prog G165 := hg_nil
theorem e165 (L : Lp) (R : Option Res → Prop) (a : ByteArray) : (bodyP Ef G165 L Tryz.f165 [.val (.string a)] [] R) = (
    br (strEq a { data := #[] }) (R (some { av := vS { data := #[45] }, obs := [], outs := [] })) (R (some { av := vS a, obs := [], outs := [] }))) := by kernel_rfl
theorem h165 : G1Ok Tryz.prog 165 g165 := by
  intro args obs k h
  unfold g165 at h
  split at h
  · rename_i k a
    refine ⟨_, ctr_fn okf hg165 Tryz.func165 (by kernel_rfl) (by kernel_rfl) (by kernel_rfl) fun C => ?_, h⟩
    rw [e165]
    refine br_intro (fun h => ?_) (fun h => ?_) <;> show _ = _ <;> unfold frm <;> rw [h]
  · exact h.elim
noncomputable def E95 : Env := Ef.of Tryz.f95
noncomputable def G95 : Gk := gk [(108, g108), (164, g164p), (165, g165), (166, g166), (109, g195)]
noncomputable def lp95 (n : Nat) : Code := (loopOf n (codeOf Tryz.f95)).getD .skip
noncomputable def ct95 (L : Lp) (R : Option Res → Prop) (n : Nat) : Kt := contOf E95 G95 L n (codeOf Tryz.f95) (endK E95 Tryz.f95.results.toList R)
noncomputable def rk95 (L : Lp) (R : Option Res → Prop) (n : Nat) (N : St → Prop) : Kt := rk (jof E95 (lp95 n)) N (ct95 L R n)
noncomputable def LOOP95 (L : Lp) (R : Option Res → Prop) (n : Nat) (st : St) : Prop := L (lp95 n) st (ct95 L R n)
theorem hg95 : HG Tryz.prog G95 := (hg_cons h108 (hg_cons h164p (hg_cons h165 (hg_cons h166 (hg_cons h109 hg_nil)))))
theorem okf95 : Ok Tryz.prog E95 := okf.of Tryz.f95
theorem e95 (L : Lp) (R : Option Res → Prop) (x : Int) (s : List (Elem kc)) (d p : List (Elem k3)) (b : Bool) (f : List (Elem ki)) (n : Int) : (bodyP Ef G95 L Tryz.f95 [coreAV x s d p b f n] [] R) = (
    LOOP95 L R 3 { tm := [vJ, AV.ptr 0 0, vJ, vS { data := #[114, 111, 111, 116] }, vI 0, vJ, vJ, vJ, vJ, vJ, vJ, vJ, vJ, vJ, vJ, vJ, vJ, vJ, vJ, vJ, vJ, vJ, vJ, vJ, vJ, vJ, vJ, vJ, vJ, vJ, vJ, vJ, vJ, vJ, vJ, vJ, vJ, vJ, vJ, vJ, vJ, vJ, vJ, vJ, vJ, vJ, vJ, vJ, vJ, vJ, vJ, vJ, vJ, vJ, vJ, vJ, vJ, vJ, vJ, vJ, vJ, vJ, vJ, vJ, vJ, vJ, vJ, vJ, vJ, vJ, vJ, vJ, vJ, vJ, vJ], ob := [(0, AO.box [vI x, AV.rsl kc s, AV.rsl k3 d, AV.rsl k3 p, vB b, AV.rsl ki f, vI n])], nx := 1000000, ps := [] }) := by kernel_rfl
def st95 (x : Int) (s : List (Elem kc)) (d p : List (Elem k3)) (b : Bool) (f : List (Elem ki)) (n : Int) (o : ByteArray) (i : Int) : St :=  ⟨[vJ, AV.ptr 0 0, vJ, .val (.string o), .val (.int .i64 i), vJ, vJ, vJ, vJ, vJ, vJ, vJ, vJ, vJ, vJ, vJ, vJ, vJ, vJ, vJ, vJ, vJ, vJ, vJ, vJ, vJ, vJ, vJ, vJ, vJ, vJ, vJ, vJ, vJ, vJ, vJ, vJ, vJ, vJ, vJ, vJ, vJ, vJ, vJ, vJ, vJ, vJ, vJ, vJ, vJ, vJ, vJ, vJ, vJ, vJ, vJ, vJ, vJ, vJ, vJ, vJ, vJ, vJ, vJ, vJ, vJ, vJ, vJ, vJ, vJ, vJ, vJ, vJ, vJ, vJ], [(0, AO.box [vI x, AV.rsl kc s, AV.rsl k3 d, AV.rsl k3 p, vB b, AV.rsl ki f, vI n])], 1000000, []⟩
theorem b95 (L : Lp) (R : Option Res → Prop) (N : St → Prop) (x : Int) (s : List (Elem kc)) (d p : List (Elem k3)) (b : Bool) (f : List (Elem ki)) (n : Int) (o : ByteArray) (i : Int) : (evP E95 G95 L (lp95 3) (st95 x s d p b f n o i) (rk95 L R 3 N)) = (
    br (decide (i < (↑s.length : Int))) (br (decide (0 ≤ i ∧ i < (↑s.length : Int))) (br (smC (s.getD i.toNat (edflt kc))) (br (!setV (s.getD i.toNat (edflt kc))) (R (some { av := vS { data := #[] }, obs := [], outs := [] })) (br (decide (o.size + 1 ≤ 9223372036854775807)) (br (decide ((o ++ { data := #[10] }).size + ByteArray.size (s.getD i.toNat (edflt kc)).fst ≤ 9223372036854775807)) (br (decide ((o ++ { data := #[10] } ++ (s.getD i.toNat (edflt kc)).fst).size + 1 ≤ 9223372036854775807)) (br (decide (0 ≤ (s.getD i.toNat (edflt kc)).snd.fst ∧ (s.getD i.toNat (edflt kc)).snd.fst ≤ 9223372036854775807)) (br (decide ((o ++ { data := #[10] } ++ (s.getD i.toNat (edflt kc)).fst ++ { data := #[32] }).size + (dec (s.getD i.toNat (edflt kc)).snd.fst).size ≤ 9223372036854775807)) (br (decide ((o ++ { data := #[10] } ++ (s.getD i.toNat (edflt kc)).fst ++ { data := #[32] } ++ dec (s.getD i.toNat (edflt kc)).snd.fst).size + 1 ≤ 9223372036854775807)) (br (decide ((o ++ { data := #[10] } ++ (s.getD i.toNat (edflt kc)).fst ++ { data := #[32] } ++ dec (s.getD i.toNat (edflt kc)).snd.fst ++ { data := #[32] }).size + (frm (s.getD i.toNat (edflt kc)).snd.snd.fst).size ≤ 9223372036854775807)) (br (decide ((o ++ { data := #[10] } ++ (s.getD i.toNat (edflt kc)).fst ++ { data := #[32] } ++ dec (s.getD i.toNat (edflt kc)).snd.fst ++ { data := #[32] } ++ frm (s.getD i.toNat (edflt kc)).snd.snd.fst).size + 1 ≤ 9223372036854775807)) (br (decide ((o ++ { data := #[10] } ++ (s.getD i.toNat (edflt kc)).fst ++ { data := #[32] } ++ dec (s.getD i.toNat (edflt kc)).snd.fst ++ { data := #[32] } ++ frm (s.getD i.toNat (edflt kc)).snd.snd.fst ++ { data := #[32] }).size + (ptrT (s.getD i.toNat (edflt kc)).snd.snd.snd.snd.snd.snd.snd.snd.snd.snd.snd.snd.snd.snd.snd.snd.snd.snd.snd.snd.snd.snd.snd.snd.snd.snd.snd.fst (s.getD i.toNat (edflt kc)).snd.snd.snd.snd.snd.snd.snd.snd.snd.snd.snd.snd.snd.snd.snd.snd.snd.snd.snd.snd.snd.snd.snd.snd.snd.snd.snd.snd.fst (s.getD i.toNat (edflt kc)).snd.snd.snd.snd.snd.snd.snd.snd.snd.snd.snd.snd.snd.snd.snd.snd.snd.snd.snd.snd.snd.snd.snd.snd.snd.snd.snd.snd.snd.fst).size ≤ 9223372036854775807)) (N { tm := [vJ, AV.ptr 0 0, vJ, vS (o ++ { data := #[10] } ++ (s.getD i.toNat (edflt kc)).fst ++ { data := #[32] } ++ dec (s.getD i.toNat (edflt kc)).snd.fst ++ { data := #[32] } ++ frm (s.getD i.toNat (edflt kc)).snd.snd.fst ++ { data := #[32] } ++ ptrT (s.getD i.toNat (edflt kc)).snd.snd.snd.snd.snd.snd.snd.snd.snd.snd.snd.snd.snd.snd.snd.snd.snd.snd.snd.snd.snd.snd.snd.snd.snd.snd.snd.fst (s.getD i.toNat (edflt kc)).snd.snd.snd.snd.snd.snd.snd.snd.snd.snd.snd.snd.snd.snd.snd.snd.snd.snd.snd.snd.snd.snd.snd.snd.snd.snd.snd.snd.fst (s.getD i.toNat (edflt kc)).snd.snd.snd.snd.snd.snd.snd.snd.snd.snd.snd.snd.snd.snd.snd.snd.snd.snd.snd.snd.snd.snd.snd.snd.snd.snd.snd.snd.snd.fst), vI (IntKind.i64.wrap (i + 1)), vJ, vJ, vJ, vJ, vJ, vJ, vJ, vJ, vJ, vJ, vJ, vJ, vJ, vJ, vJ, vJ, vJ, vJ, vJ, vJ, vJ, vJ, vJ, vJ, vJ, vJ, vJ, vJ, vJ, vJ, vJ, vJ, vJ, vJ, vJ, vJ, vJ, vJ, vJ, vJ, vJ, vJ, vJ, vJ, vJ, vJ, vJ, vJ, vJ, vJ, vJ, vJ, vJ, vJ, vJ, vJ, vJ, vJ, vJ, vJ, vJ, vJ, vJ, vJ, vJ, vJ, vJ, vJ, vJ, vJ], ob := [(0, AO.box [vI x, AV.rsl kc s, AV.rsl k3 d, AV.rsl k3 p, vB b, AV.rsl ki f, vI n])], nx := 1000000, ps := [] }) False) False) False) False) False) False) False) False) False)) False) False) (LOOP95 L R 10 { tm := [vJ, AV.ptr 0 0, vJ, vS o, vJ, vJ, vI 0, vJ, vJ, vJ, vJ, vJ, vJ, vJ, vJ, vJ, vJ, vJ, vJ, vJ, vJ, vJ, vJ, vJ, vJ, vJ, vJ, vJ, vJ, vJ, vJ, vJ, vJ, vJ, vJ, vJ, vJ, vJ, vJ, vJ, vJ, vJ, vJ, vJ, vJ, vJ, vJ, vJ, vJ, vJ, vJ, vJ, vJ, vJ, vJ, vJ, vJ, vJ, vJ, vJ, vJ, vJ, vJ, vJ, vJ, vJ, vJ, vJ, vJ, vJ, vJ, vJ, vJ, vJ, vJ], ob := [(0, AO.box [vI x, AV.rsl kc s, AV.rsl k3 d, AV.rsl k3 p, vB b, AV.rsl ki f, vI n])], nx := 1000000, ps := [] })) := by kernel_rfl
def sp22 (x : Int) (s : List (Elem kc)) (d p : List (Elem k3)) (b : Bool) (f : List (Elem ki)) (n : Int) (o : ByteArray) (i : Int) : St :=  ⟨[vJ, AV.ptr 0 0, vJ, .val (.string o), vJ, vJ, .val (.int .i64 i), vJ, vJ, vJ, vJ, vJ, vJ, vJ, vJ, vJ, vJ, vJ, vJ, vJ, vJ, vJ, vJ, vJ, vJ, vJ, vJ, vJ, vJ, vJ, vJ, vJ, vJ, vJ, vJ, vJ, vJ, vJ, vJ, vJ, vJ, vJ, vJ, vJ, vJ, vJ, vJ, vJ, vJ, vJ, vJ, vJ, vJ, vJ, vJ, vJ, vJ, vJ, vJ, vJ, vJ, vJ, vJ, vJ, vJ, vJ, vJ, vJ, vJ, vJ, vJ, vJ, vJ, vJ, vJ], [(0, AO.box [vI x, AV.rsl kc s, AV.rsl k3 d, AV.rsl k3 p, vB b, AV.rsl ki f, vI n])], 1000000, []⟩
theorem bp22 (L : Lp) (R : Option Res → Prop) (N : St → Prop) (x : Int) (s : List (Elem kc)) (d p : List (Elem k3)) (b : Bool) (f : List (Elem ki)) (n : Int) (o : ByteArray) (i : Int) : (evP E95 G95 L (lp95 10) (sp22 x s d p b f n o i) (rk95 L R 10 N)) = (
    br (decide (i < (↑p.length : Int))) (br (decide (0 ≤ i ∧ i < (↑p.length : Int))) (br (!ptrOk (p.getD i.toNat (edflt k3)).fst (p.getD i.toNat (edflt k3)).snd.fst (p.getD i.toNat (edflt k3)).snd.snd.fst) (R (some { av := vS { data := #[] }, obs := [], outs := [] })) (br (decide (0 ≤ i ∧ i < (↑p.length : Int))) (br ((p.getD i.toNat (edflt k3)).fst == 0) (R (some { av := vS { data := #[] }, obs := [], outs := [] })) (br (decide (o.size + 3 ≤ 9223372036854775807)) (br (decide (0 ≤ i ∧ i < (↑p.length : Int))) (br (decide ((o ++ { data := #[10, 46, 32] }).size + (ptrT (p.getD i.toNat (edflt k3)).fst (p.getD i.toNat (edflt k3)).snd.fst (p.getD i.toNat (edflt k3)).snd.snd.fst).size ≤ 9223372036854775807)) (N { tm := [vJ, AV.ptr 0 0, vJ, vS (o ++ { data := #[10, 46, 32] } ++ ptrT (p.getD i.toNat (edflt k3)).fst (p.getD i.toNat (edflt k3)).snd.fst (p.getD i.toNat (edflt k3)).snd.snd.fst), vJ, vJ, vI (IntKind.i64.wrap (i + 1)), vJ, vJ, vJ, vJ, vJ, vJ, vJ, vJ, vJ, vJ, vJ, vJ, vJ, vJ, vJ, vJ, vJ, vJ, vJ, vJ, vJ, vJ, vJ, vJ, vJ, vJ, vJ, vJ, vJ, vJ, vJ, vJ, vJ, vJ, vJ, vJ, vJ, vJ, vJ, vJ, vJ, vJ, vJ, vJ, vJ, vJ, vJ, vJ, vJ, vJ, vJ, vJ, vJ, vJ, vJ, vJ, vJ, vJ, vJ, vJ, vJ, vJ, vJ, vJ, vJ, vJ, vJ, vJ], ob := [(0, AO.box [vI x, AV.rsl kc s, AV.rsl k3 d, AV.rsl k3 p, vB b, AV.rsl ki f, vI n])], nx := 1000000, ps := [] }) False) False) False)) False)) False) (R (some { av := vS o, obs := [], outs := [] }))) := by kernel_rfl
theorem h95 : G1Ok Tryz.prog 95 g95 := by
  intro args obs k h
  unfold g95 at h
  split at h
  · rename_i k us
    split at h
    rotate_left
    · exact h.elim
    rename_i c hc
    obtain rfl := coreOf_inv hc
    obtain ⟨x, s, d, p, b, f, n⟩ := c
    obtain ⟨hpp, h⟩ := br_and h
    unfold smB' at hpp
    rw [Bool.and_eq_true] at hpp
    obtain ⟨hp, hcs⟩ := hpp
    have hcs : smCs s = true := hcs
    have hl := smCo_s hp
    have hpl := smCo_p hp
    have c1 : (⟨#[10]⟩ : ByteArray).size = 1 := rfl
    have c2 : (⟨#[32]⟩ : ByteArray).size = 1 := rfl
    have c3 : (⟨#[10, 46, 32]⟩ : ByteArray).size = 3 := rfl
    have c4 : (⟨#[45]⟩ : ByteArray).size = 1 := rfl
    refine ⟨_, ctr_fn okf hg95 Tryz.func95 (by kernel_rfl) (by kernel_rfl) (by kernel_rfl) fun C => ?_, h⟩
    show bodyP Ef G95 _ Tryz.f95 [coreAV x s d p b f n] [] _
    rw [e95]
    refine loopUp okf95 hg95 (fun i o => st95 x s d p b f n o i) s.length (fun i o => o = rtS (s.take i) ∧ (∀ q, q < i → setV (atC s q) = true) ∧ o.size ≤ 4 + i * 3000000) (fun N i o hi ⟨ho, hall, hz⟩ next => ?_) _ ⟨rfl, fun q hq => by omega, by show 4 ≤ _; omega⟩
    show evP E95 G95 _ (lp95 3) (st95 x s d p b f n o i) (rk95 _ _ 3 _)
    rw [b95, Int.toNat_natCast, wrap_id (n := (i : Int) + 1) (by omega) (by omega)]
    refine br_dec (fun h2 => br_yes ⟨by omega, h2⟩ (br_t (smCs_at hcs (by omega)) (br_not (fun h3 => ?_) (fun h3 => ?_)))) (fun h2 => ?_)
    · show _ = _
      rw [root_s (p := p) (by omega) h3]
      rfl
    · have hq := setV_szs h3 (smCs_at hcs (by omega))
      have hn := rtS_next s (i := i) (by omega)
      unfold lnS at hn
      unfold hom at hq hn
      simp only [atC] at hq hn
      generalize s.getD i (edflt kc) = e at hq hn ⊢
      obtain ⟨k, hk, ⟨q2, q2', q5⟩, q1, q3, q4, q6⟩ := hq
      rw [← hk] at hn ⊢
      refine br_yes (by omega) (br_yes (by simp only [ByteArray.size_append, c1, c2, c3, c4]; omega) (br_yes (by simp only [ByteArray.size_append, c1, c2, c3, c4]; omega) (br_yes (by subst hk; exact ⟨Int.le_trans (by decide) q2, Int.le_trans q2' (by decide)⟩) (br_yes (by simp only [ByteArray.size_append, c1, c2, c3, c4]; omega) (br_yes (by simp only [ByteArray.size_append, c1, c2, c3, c4]; omega) (br_yes (by simp only [ByteArray.size_append, c1, c2, c3, c4]; omega) (br_yes (by simp only [ByteArray.size_append, c1, c2, c3, c4]; omega) (br_yes (by simp only [ByteArray.size_append, c1, c2, c3, c4]; omega) ?_))))))))
      · exact next (by omega) _ ⟨by rw [hn, ← ho]; simp only [ByteArray.append_assoc], fun q hq => by
          by_cases e : q < i
          · exact hall q e
          · have : q = i := by omega
            rw [this]
            exact h3, by simp only [ByteArray.size_append, c1, c2]; omega⟩
    · have hi' : i = s.length := by omega
      rw [hi', List.take_length] at ho
      have hz : o.size ≤ 3145728000004 := by omega
      have hall : ∀ q, q < s.length → setV (atC s q) = true := fun q hq => hall q (by omega)
      refine loopUp okf95 hg95 (fun i o => sp22 x s d p b f n o i) p.length (fun i o => o = rtP s (p.take i) ∧ (∀ q, q < i → rOk (atP p q) = true) ∧ o.size ≤ 3145728000004 + i * 1000010) (fun N i o hi ⟨ho, hall2, hz⟩ next => ?_) _ ⟨ho, fun q hq => by omega, by show o.size ≤ 3145728000004 + 0 * 1000010; omega⟩
      show evP E95 G95 _ (lp95 10) (sp22 x s d p b f n o i) (rk95 _ _ 10 _)
      rw [bp22, Int.toNat_natCast, wrap_id (n := (i : Int) + 1) (by omega) (by omega)]
      have q6 : (ptrT (p.getD i (edflt k3)).1 (p.getD i (edflt k3)).2.1 (p.getD i (edflt k3)).2.2.1).size ≤ 1000000 := ptrT_size _ _ _
      refine br_dec (fun h2 => br_yes ⟨by omega, h2⟩ (br_not (fun h3 => ?_) (fun h3 => br_yes ⟨by omega, h2⟩ (br_intro (fun h4 => ?_) (fun h4 => br_yes (by omega) (br_yes ⟨by omega, h2⟩ (br_yes ?_ ?_))))))) (fun h2 => ?_)
      · show _ = _
        rw [root_p (s := s) (p := p) (i := i) (by omega) (by unfold rOk realP; rw [show ptrOk (atP p i).1 (atP p i).2.1 (atP p i).2.2.1 = false from h3]; rfl)]
        rfl
      · show _ = _
        rw [root_p (s := s) (p := p) (i := i) (by omega) (by unfold rOk realP bne; rw [show ((atP p i).1 == 0) = true from h4]; simp)]
        rfl
      · simp only [ByteArray.size_append, c3]
        omega
      · refine next (by omega) _ ⟨by rw [rtP_next s p (by omega), ← ho]; unfold lnP; simp only [ByteArray.append_assoc], fun q hq => by
          by_cases e : q < i
          · exact hall2 q e
          · have : q = i := by omega
            rw [this]
            unfold rOk realP bne
            rw [show ptrOk (atP p i).1 (atP p i).2.1 (atP p i).2.2.1 = true from h3, show ((atP p i).1 == 0) = false from h4]
            rfl, by simp only [ByteArray.size_append, c3]; omega⟩
      · have hi' : i = p.length := by omega
        rw [hi', List.take_length] at ho
        show _ = _
        rw [root_t (s := s) (p := p) hall (fun q hq => hall2 q (by omega)), ho]
  · exact h.elim
noncomputable def E100 : Env := Ef.of Tryz.f100
noncomputable def G100 : Gk := gk [(134, g108), (177, g177), (178, g166), (121, g121)]
noncomputable def lp100 (n : Nat) : Code := (loopOf n (codeOf Tryz.f100)).getD .skip
noncomputable def ct100 (L : Lp) (R : Option Res → Prop) (n : Nat) : Kt := contOf E100 G100 L n (codeOf Tryz.f100) (endK E100 Tryz.f100.results.toList R)
noncomputable def rk100 (L : Lp) (R : Option Res → Prop) (n : Nat) (N : St → Prop) : Kt := rk (jof E100 (lp100 n)) N (ct100 L R n)
noncomputable def LOOP100 (L : Lp) (R : Option Res → Prop) (n : Nat) (st : St) : Prop := L (lp100 n) st (ct100 L R n)
theorem hg100 : HG Tryz.prog G100 := (hg_cons h134 (hg_cons h177 (hg_cons h178 (hg_cons h121 hg_nil))))
theorem okf100 : Ok Tryz.prog E100 := okf.of Tryz.f100
theorem e100 (L : Lp) (R : Option Res → Prop) (x : Int) (s : List (Elem kc)) (d p : List (Elem k3)) (b : Bool) (f : List (Elem ki)) (n : Int) : (bodyP Ef G100 L Tryz.f100 [coreAV x s d p b f n] [] R) = (
    LOOP100 L R 3 { tm := [vJ, AV.ptr 0 0, vJ, vS { data := #[114, 111, 111, 116] }, vJ, vJ, vJ, vJ, vJ, vJ, AV.rsl kc s, vI (↑s.length : Int), vI 0, vJ, vJ, vJ, vJ, vJ, vJ, vJ, vJ, vJ, vJ, vJ, vJ, vJ, vJ, vJ, vJ, vJ, vJ, vJ, vJ, vJ, vJ, vJ, vJ, vJ, vJ, vJ, vJ, vJ, vJ, vJ, vJ, vJ, vJ, vJ, vJ, vJ, vJ, vJ, vJ, vJ, vJ, vJ, vJ, vJ, vJ], ob := [(0, AO.box [vI x, AV.rsl kc s, AV.rsl k3 d, AV.rsl k3 p, vB b, AV.rsl ki f, vI n])], nx := 1000000, ps := [] }) := by kernel_rfl
def st100 (x : Int) (s : List (Elem kc)) (d p : List (Elem k3)) (b : Bool) (f : List (Elem ki)) (n : Int) (o : ByteArray) (i : Int) : St :=  ⟨[vJ, AV.ptr 0 0, vJ, .val (.string o), vJ, vJ, vJ, vJ, vJ, vJ, AV.rsl kc s, vI (↑s.length : Int), .val (.int .i64 i), vJ, vJ, vJ, vJ, vJ, vJ, vJ, vJ, vJ, vJ, vJ, vJ, vJ, vJ, vJ, vJ, vJ, vJ, vJ, vJ, vJ, vJ, vJ, vJ, vJ, vJ, vJ, vJ, vJ, vJ, vJ, vJ, vJ, vJ, vJ, vJ, vJ, vJ, vJ, vJ, vJ, vJ, vJ, vJ, vJ, vJ], [(0, AO.box [vI x, AV.rsl kc s, AV.rsl k3 d, AV.rsl k3 p, vB b, AV.rsl ki f, vI n])], 1000000, []⟩
theorem b100 (L : Lp) (R : Option Res → Prop) (N : St → Prop) (x : Int) (s : List (Elem kc)) (d p : List (Elem k3)) (b : Bool) (f : List (Elem ki)) (n : Int) (o : ByteArray) (i : Int) : (evP E100 G100 L (lp100 3) (st100 x s d p b f n o i) (rk100 L R 3 N)) = (
    br (decide (i < (↑s.length : Int))) (br (decide (0 ≤ i ∧ i < (↑s.length : Int))) (br (smC (s.getD i.toNat (edflt kc))) (br (!setV (s.getD i.toNat (edflt kc))) (R (some { av := vS { data := #[] }, obs := [], outs := [] })) (br (strEq (s.getD i.toNat (edflt kc)).snd.snd.fst { data := #[] }) (br (decide (1 + ByteArray.size (s.getD i.toNat (edflt kc)).fst ≤ 9223372036854775807)) (br (decide (({ data := #[10] } ++ (s.getD i.toNat (edflt kc)).fst).size + 1 ≤ 9223372036854775807)) (br (inN (s.getD i.toNat (edflt kc)).snd.fst) (br (decide (({ data := #[10] } ++ (s.getD i.toNat (edflt kc)).fst ++ { data := #[32] }).size + (dec (s.getD i.toNat (edflt kc)).snd.fst).size ≤ 9223372036854775807)) (br (decide (({ data := #[10] } ++ (s.getD i.toNat (edflt kc)).fst ++ { data := #[32] } ++ dec (s.getD i.toNat (edflt kc)).snd.fst).size + 1 ≤ 9223372036854775807)) (br (decide (({ data := #[10] } ++ (s.getD i.toNat (edflt kc)).fst ++ { data := #[32] } ++ dec (s.getD i.toNat (edflt kc)).snd.fst ++ { data := #[32] }).size + 1 ≤ 9223372036854775807)) (br (decide (({ data := #[10] } ++ (s.getD i.toNat (edflt kc)).fst ++ { data := #[32] } ++ dec (s.getD i.toNat (edflt kc)).snd.fst ++ { data := #[32] } ++ { data := #[45] }).size + 1 ≤ 9223372036854775807)) (br (decide (({ data := #[10] } ++ (s.getD i.toNat (edflt kc)).fst ++ { data := #[32] } ++ dec (s.getD i.toNat (edflt kc)).snd.fst ++ { data := #[32] } ++ { data := #[45] } ++ { data := #[32] }).size + (ptrT (s.getD i.toNat (edflt kc)).snd.snd.snd.snd.snd.snd.snd.snd.snd.snd.snd.snd.snd.snd.snd.snd.snd.snd.snd.snd.snd.snd.snd.snd.snd.snd.snd.fst (s.getD i.toNat (edflt kc)).snd.snd.snd.snd.snd.snd.snd.snd.snd.snd.snd.snd.snd.snd.snd.snd.snd.snd.snd.snd.snd.snd.snd.snd.snd.snd.snd.snd.fst (s.getD i.toNat (edflt kc)).snd.snd.snd.snd.snd.snd.snd.snd.snd.snd.snd.snd.snd.snd.snd.snd.snd.snd.snd.snd.snd.snd.snd.snd.snd.snd.snd.snd.snd.fst).size ≤ 9223372036854775807)) (br (decide (o.size + ({ data := #[10] } ++ (s.getD i.toNat (edflt kc)).fst ++ { data := #[32] } ++ dec (s.getD i.toNat (edflt kc)).snd.fst ++ { data := #[32] } ++ { data := #[45] } ++ { data := #[32] } ++ ptrT (s.getD i.toNat (edflt kc)).snd.snd.snd.snd.snd.snd.snd.snd.snd.snd.snd.snd.snd.snd.snd.snd.snd.snd.snd.snd.snd.snd.snd.snd.snd.snd.snd.fst (s.getD i.toNat (edflt kc)).snd.snd.snd.snd.snd.snd.snd.snd.snd.snd.snd.snd.snd.snd.snd.snd.snd.snd.snd.snd.snd.snd.snd.snd.snd.snd.snd.snd.fst (s.getD i.toNat (edflt kc)).snd.snd.snd.snd.snd.snd.snd.snd.snd.snd.snd.snd.snd.snd.snd.snd.snd.snd.snd.snd.snd.snd.snd.snd.snd.snd.snd.snd.snd.fst).size ≤ 9223372036854775807)) (N { tm := [vJ, AV.ptr 0 0, vJ, vS (o ++ ({ data := #[10] } ++ (s.getD i.toNat (edflt kc)).fst ++ { data := #[32] } ++ dec (s.getD i.toNat (edflt kc)).snd.fst ++ { data := #[32] } ++ { data := #[45] } ++ { data := #[32] } ++ ptrT (s.getD i.toNat (edflt kc)).snd.snd.snd.snd.snd.snd.snd.snd.snd.snd.snd.snd.snd.snd.snd.snd.snd.snd.snd.snd.snd.snd.snd.snd.snd.snd.snd.fst (s.getD i.toNat (edflt kc)).snd.snd.snd.snd.snd.snd.snd.snd.snd.snd.snd.snd.snd.snd.snd.snd.snd.snd.snd.snd.snd.snd.snd.snd.snd.snd.snd.snd.fst (s.getD i.toNat (edflt kc)).snd.snd.snd.snd.snd.snd.snd.snd.snd.snd.snd.snd.snd.snd.snd.snd.snd.snd.snd.snd.snd.snd.snd.snd.snd.snd.snd.snd.snd.fst)), vJ, vJ, vJ, vJ, vJ, vJ, AV.rsl kc s, vI (↑s.length : Int), vI (IntKind.i64.wrap (i + 1)), vJ, vJ, vJ, vJ, vJ, vJ, vJ, vJ, vJ, vJ, vJ, vJ, vJ, vJ, vJ, vJ, vJ, vJ, vJ, vJ, vJ, vJ, vJ, vJ, vJ, vJ, vJ, vJ, vJ, vJ, vJ, vJ, vJ, vJ, vJ, vJ, vJ, vJ, vJ, vJ, vJ, vJ, vJ, vJ, vJ, vJ], ob := [(0, AO.box [vI x, AV.rsl kc s, AV.rsl k3 d, AV.rsl k3 p, vB b, AV.rsl ki f, vI n])], nx := 1000000, ps := [] }) False) False) False) False) False) False) False) False) False) (br (decide (1 + ByteArray.size (s.getD i.toNat (edflt kc)).fst ≤ 9223372036854775807)) (br (decide (({ data := #[10] } ++ (s.getD i.toNat (edflt kc)).fst).size + 1 ≤ 9223372036854775807)) (br (inN (s.getD i.toNat (edflt kc)).snd.fst) (br (decide (({ data := #[10] } ++ (s.getD i.toNat (edflt kc)).fst ++ { data := #[32] }).size + (dec (s.getD i.toNat (edflt kc)).snd.fst).size ≤ 9223372036854775807)) (br (decide (({ data := #[10] } ++ (s.getD i.toNat (edflt kc)).fst ++ { data := #[32] } ++ dec (s.getD i.toNat (edflt kc)).snd.fst).size + 1 ≤ 9223372036854775807)) (br (decide (({ data := #[10] } ++ (s.getD i.toNat (edflt kc)).fst ++ { data := #[32] } ++ dec (s.getD i.toNat (edflt kc)).snd.fst ++ { data := #[32] }).size + ByteArray.size (s.getD i.toNat (edflt kc)).snd.snd.fst ≤ 9223372036854775807)) (br (decide (({ data := #[10] } ++ (s.getD i.toNat (edflt kc)).fst ++ { data := #[32] } ++ dec (s.getD i.toNat (edflt kc)).snd.fst ++ { data := #[32] } ++ (s.getD i.toNat (edflt kc)).snd.snd.fst).size + 1 ≤ 9223372036854775807)) (br (decide (({ data := #[10] } ++ (s.getD i.toNat (edflt kc)).fst ++ { data := #[32] } ++ dec (s.getD i.toNat (edflt kc)).snd.fst ++ { data := #[32] } ++ (s.getD i.toNat (edflt kc)).snd.snd.fst ++ { data := #[32] }).size + (ptrT (s.getD i.toNat (edflt kc)).snd.snd.snd.snd.snd.snd.snd.snd.snd.snd.snd.snd.snd.snd.snd.snd.snd.snd.snd.snd.snd.snd.snd.snd.snd.snd.snd.fst (s.getD i.toNat (edflt kc)).snd.snd.snd.snd.snd.snd.snd.snd.snd.snd.snd.snd.snd.snd.snd.snd.snd.snd.snd.snd.snd.snd.snd.snd.snd.snd.snd.snd.fst (s.getD i.toNat (edflt kc)).snd.snd.snd.snd.snd.snd.snd.snd.snd.snd.snd.snd.snd.snd.snd.snd.snd.snd.snd.snd.snd.snd.snd.snd.snd.snd.snd.snd.snd.fst).size ≤ 9223372036854775807)) (br (decide (o.size + ({ data := #[10] } ++ (s.getD i.toNat (edflt kc)).fst ++ { data := #[32] } ++ dec (s.getD i.toNat (edflt kc)).snd.fst ++ { data := #[32] } ++ (s.getD i.toNat (edflt kc)).snd.snd.fst ++ { data := #[32] } ++ ptrT (s.getD i.toNat (edflt kc)).snd.snd.snd.snd.snd.snd.snd.snd.snd.snd.snd.snd.snd.snd.snd.snd.snd.snd.snd.snd.snd.snd.snd.snd.snd.snd.snd.fst (s.getD i.toNat (edflt kc)).snd.snd.snd.snd.snd.snd.snd.snd.snd.snd.snd.snd.snd.snd.snd.snd.snd.snd.snd.snd.snd.snd.snd.snd.snd.snd.snd.snd.fst (s.getD i.toNat (edflt kc)).snd.snd.snd.snd.snd.snd.snd.snd.snd.snd.snd.snd.snd.snd.snd.snd.snd.snd.snd.snd.snd.snd.snd.snd.snd.snd.snd.snd.snd.fst).size ≤ 9223372036854775807)) (N { tm := [vJ, AV.ptr 0 0, vJ, vS (o ++ ({ data := #[10] } ++ (s.getD i.toNat (edflt kc)).fst ++ { data := #[32] } ++ dec (s.getD i.toNat (edflt kc)).snd.fst ++ { data := #[32] } ++ (s.getD i.toNat (edflt kc)).snd.snd.fst ++ { data := #[32] } ++ ptrT (s.getD i.toNat (edflt kc)).snd.snd.snd.snd.snd.snd.snd.snd.snd.snd.snd.snd.snd.snd.snd.snd.snd.snd.snd.snd.snd.snd.snd.snd.snd.snd.snd.fst (s.getD i.toNat (edflt kc)).snd.snd.snd.snd.snd.snd.snd.snd.snd.snd.snd.snd.snd.snd.snd.snd.snd.snd.snd.snd.snd.snd.snd.snd.snd.snd.snd.snd.fst (s.getD i.toNat (edflt kc)).snd.snd.snd.snd.snd.snd.snd.snd.snd.snd.snd.snd.snd.snd.snd.snd.snd.snd.snd.snd.snd.snd.snd.snd.snd.snd.snd.snd.snd.fst)), vJ, vJ, vJ, vJ, vJ, vJ, AV.rsl kc s, vI (↑s.length : Int), vI (IntKind.i64.wrap (i + 1)), vJ, vJ, vJ, vJ, vJ, vJ, vJ, vJ, vJ, vJ, vJ, vJ, vJ, vJ, vJ, vJ, vJ, vJ, vJ, vJ, vJ, vJ, vJ, vJ, vJ, vJ, vJ, vJ, vJ, vJ, vJ, vJ, vJ, vJ, vJ, vJ, vJ, vJ, vJ, vJ, vJ, vJ, vJ, vJ, vJ, vJ], ob := [(0, AO.box [vI x, AV.rsl kc s, AV.rsl k3 d, AV.rsl k3 p, vB b, AV.rsl ki f, vI n])], nx := 1000000, ps := [] }) False) False) False) False) False) False) False) False) False))) False) False) (LOOP100 L R 13 { tm := [vJ, vJ, vJ, vS o, vJ, vJ, vJ, vJ, vJ, vJ, vJ, vJ, vJ, vJ, vJ, vJ, vJ, vJ, vJ, vJ, vJ, vJ, vJ, vJ, vJ, vJ, vJ, vJ, vJ, vJ, vJ, vJ, vJ, vJ, vJ, vJ, vJ, vJ, vJ, vJ, vJ, vJ, vJ, AV.rsl k3 p, vI (↑p.length : Int), vI 0, vJ, vJ, vJ, vJ, vJ, vJ, vJ, vJ, vJ, vJ, vJ, vJ, vJ], ob := [], nx := 1000000, ps := [] })) := by kernel_rfl
def sp23 (x : Int) (s : List (Elem kc)) (d p : List (Elem k3)) (b : Bool) (f : List (Elem ki)) (n : Int) (o : ByteArray) (i : Int) : St :=  ⟨[vJ, vJ, vJ, .val (.string o), vJ, vJ, vJ, vJ, vJ, vJ, vJ, vJ, vJ, vJ, vJ, vJ, vJ, vJ, vJ, vJ, vJ, vJ, vJ, vJ, vJ, vJ, vJ, vJ, vJ, vJ, vJ, vJ, vJ, vJ, vJ, vJ, vJ, vJ, vJ, vJ, vJ, vJ, vJ, AV.rsl k3 p, vI (↑p.length : Int), .val (.int .i64 i), vJ, vJ, vJ, vJ, vJ, vJ, vJ, vJ, vJ, vJ, vJ, vJ, vJ], [], 1000000, []⟩
theorem bp23 (L : Lp) (R : Option Res → Prop) (N : St → Prop) (x : Int) (s : List (Elem kc)) (d p : List (Elem k3)) (b : Bool) (f : List (Elem ki)) (n : Int) (o : ByteArray) (i : Int) : (evP E100 G100 L (lp100 13) (sp23 x s d p b f n o i) (rk100 L R 13 N)) = (
    br (decide (i < (↑p.length : Int))) (br (decide (0 ≤ i ∧ i < (↑p.length : Int))) (br (!realP (p.getD i.toNat (edflt k3)).fst (p.getD i.toNat (edflt k3)).snd.fst (p.getD i.toNat (edflt k3)).snd.snd.fst) (R (some { av := vS { data := #[] }, obs := [], outs := [] })) (br (decide (3 + (ptrT (p.getD i.toNat (edflt k3)).fst (p.getD i.toNat (edflt k3)).snd.fst (p.getD i.toNat (edflt k3)).snd.snd.fst).size ≤ 9223372036854775807)) (br (decide (o.size + ({ data := #[10, 46, 32] } ++ ptrT (p.getD i.toNat (edflt k3)).fst (p.getD i.toNat (edflt k3)).snd.fst (p.getD i.toNat (edflt k3)).snd.snd.fst).size ≤ 9223372036854775807)) (N { tm := [vJ, vJ, vJ, vS (o ++ ({ data := #[10, 46, 32] } ++ ptrT (p.getD i.toNat (edflt k3)).fst (p.getD i.toNat (edflt k3)).snd.fst (p.getD i.toNat (edflt k3)).snd.snd.fst)), vJ, vJ, vJ, vJ, vJ, vJ, vJ, vJ, vJ, vJ, vJ, vJ, vJ, vJ, vJ, vJ, vJ, vJ, vJ, vJ, vJ, vJ, vJ, vJ, vJ, vJ, vJ, vJ, vJ, vJ, vJ, vJ, vJ, vJ, vJ, vJ, vJ, vJ, vJ, AV.rsl k3 p, vI (↑p.length : Int), vI (IntKind.i64.wrap (i + 1)), vJ, vJ, vJ, vJ, vJ, vJ, vJ, vJ, vJ, vJ, vJ, vJ, vJ], ob := [], nx := 1000000, ps := [] }) False) False)) False) (R (some { av := vS o, obs := [], outs := [] }))) := by kernel_rfl
theorem h100 : G1Ok Tryz.prog 100 g95 := by
  intro args obs k h
  unfold g95 at h
  split at h
  · rename_i k us
    split at h
    rotate_left
    · exact h.elim
    rename_i c hc
    obtain rfl := coreOf_inv hc
    obtain ⟨x, s, d, p, b, f, n⟩ := c
    obtain ⟨hpp, h⟩ := br_and h
    unfold smB' at hpp
    rw [Bool.and_eq_true] at hpp
    obtain ⟨hp, hcs⟩ := hpp
    have hcs : smCs s = true := hcs
    have hl := smCo_s hp
    have hpl := smCo_p hp
    have c1 : (⟨#[10]⟩ : ByteArray).size = 1 := rfl
    have c2 : (⟨#[32]⟩ : ByteArray).size = 1 := rfl
    have c3 : (⟨#[10, 46, 32]⟩ : ByteArray).size = 3 := rfl
    have c4 : (⟨#[45]⟩ : ByteArray).size = 1 := rfl
    refine ⟨_, ctr_fn okf hg100 Tryz.func100 (by kernel_rfl) (by kernel_rfl) (by kernel_rfl) fun C => ?_, h⟩
    show bodyP Ef G100 _ Tryz.f100 [coreAV x s d p b f n] [] _
    rw [e100]
    refine loopUp okf100 hg100 (fun i o => st100 x s d p b f n o i) s.length (fun i o => o = rtS (s.take i) ∧ (∀ q, q < i → setV (atC s q) = true) ∧ o.size ≤ 4 + i * 3000000) (fun N i o hi ⟨ho, hall, hz⟩ next => ?_) _ ⟨rfl, fun q hq => by omega, by show 4 ≤ _; omega⟩
    show evP E100 G100 _ (lp100 3) (st100 x s d p b f n o i) (rk100 _ _ 3 _)
    rw [b100, Int.toNat_natCast, wrap_id (n := (i : Int) + 1) (by omega) (by omega)]
    refine br_dec (fun h2 => br_yes ⟨by omega, h2⟩ (br_t (smCs_at hcs (by omega)) (br_not (fun h3 => ?_) (fun h3 => ?_)))) (fun h2 => ?_)
    · show _ = _
      rw [root_s (p := p) (by omega) h3]
      rfl
    · have hq := setV_szs h3 (smCs_at hcs (by omega))
      have hn := rtS_next s (i := i) (by omega)
      unfold lnS at hn
      unfold hom at hq hn
      simp only [atC] at hq hn
      generalize s.getD i (edflt kc) = e at hq hn ⊢
      obtain ⟨k, hk, ⟨q2, q2', q5⟩, q1, q3, q4, q6⟩ := hq
      rw [← hk] at hn ⊢
      refine br_intro (fun h4 => br_yes (by omega) (br_yes (by simp only [ByteArray.size_append, c1, c2, c3, c4]; omega) (br_t (inN_of (by omega) (by omega)) (br_yes (by simp only [ByteArray.size_append, c1, c2, c3, c4]; omega) (br_yes (by simp only [ByteArray.size_append, c1, c2, c3, c4]; omega) (br_yes (by simp only [ByteArray.size_append, c1, c2, c3, c4]; omega) (br_yes (by simp only [ByteArray.size_append, c1, c2, c3, c4]; omega) (br_yes (by simp only [ByteArray.size_append, c1, c2, c3, c4]; omega) (br_yes (by simp only [ByteArray.size_append, c1, c2, c3, c4]; omega) ?_))))))))) (fun h4 => br_yes (by omega) (br_yes (by simp only [ByteArray.size_append, c1, c2, c3, c4]; omega) (br_t (inN_of (by omega) (by omega)) (br_yes (by simp only [ByteArray.size_append, c1, c2, c3, c4]; omega) (br_yes (by simp only [ByteArray.size_append, c1, c2, c3, c4]; omega) (br_yes (by simp only [ByteArray.size_append, c1, c2, c3, c4]; omega) (br_yes (by simp only [ByteArray.size_append, c1, c2, c3, c4]; omega) (br_yes (by simp only [ByteArray.size_append, c1, c2, c3, c4]; omega) (br_yes (by simp only [ByteArray.size_append, c1, c2, c3, c4]; omega) ?_)))))))))
      · exact next (by omega) _ ⟨by rw [hn, ← ho]; unfold frm; rw [h4]; try simp only [ByteArray.append_assoc], fun q hq => by
          by_cases e : q < i
          · exact hall q e
          · have : q = i := by omega
            rw [this]
            exact h3, by simp only [ByteArray.size_append, c1, c2, c4]; omega⟩
      · exact next (by omega) _ ⟨by rw [hn, ← ho]; unfold frm; rw [h4]; try simp only [ByteArray.append_assoc], fun q hq => by
          by_cases e : q < i
          · exact hall q e
          · have : q = i := by omega
            rw [this]
            exact h3, by simp only [ByteArray.size_append, c1, c2, c4]; omega⟩
    · have hi' : i = s.length := by omega
      rw [hi', List.take_length] at ho
      have hz : o.size ≤ 3145728000004 := by omega
      have hall : ∀ q, q < s.length → setV (atC s q) = true := fun q hq => hall q (by omega)
      refine loopUp okf100 hg100 (fun i o => sp23 x s d p b f n o i) p.length (fun i o => o = rtP s (p.take i) ∧ (∀ q, q < i → rOk (atP p q) = true) ∧ o.size ≤ 3145728000004 + i * 1000010) (fun N i o hi ⟨ho, hall2, hz⟩ next => ?_) _ ⟨ho, fun q hq => by omega, by show o.size ≤ 3145728000004 + 0 * 1000010; omega⟩
      show evP E100 G100 _ (lp100 13) (sp23 x s d p b f n o i) (rk100 _ _ 13 _)
      rw [bp23, Int.toNat_natCast, wrap_id (n := (i : Int) + 1) (by omega) (by omega)]
      have q6 : (ptrT (p.getD i (edflt k3)).1 (p.getD i (edflt k3)).2.1 (p.getD i (edflt k3)).2.2.1).size ≤ 1000000 := ptrT_size _ _ _
      refine br_dec (fun h2 => br_yes ⟨by omega, h2⟩ (br_not (fun h3 => ?_) (fun h3 => br_yes (by omega) (br_yes ?_ ?_)))) (fun h2 => ?_)
      · show _ = _
        rw [root_p (s := s) (p := p) (i := i) (by omega) h3]
        rfl
      · simp only [ByteArray.size_append, c3]
        omega
      · refine next (by omega) _ ⟨by rw [rtP_next s p (by omega), ← ho]; unfold lnP; rfl, fun q hq => by
          by_cases e : q < i
          · exact hall2 q e
          · have : q = i := by omega
            rw [this]
            exact h3, by simp only [ByteArray.size_append, c3]; omega⟩
      · have hi' : i = p.length := by omega
        rw [hi', List.take_length] at ho
        show _ = _
        rw [root_t (s := s) (p := p) hall (fun q hq => hall2 q (by omega)), ho]
  · exact h.elim
end Go.Proofs.YtkjnijddbiconaaGreatDoor.Ev
