/- The law of RoomFree. -/
import Derived.Test.YtkjnijddbiconaaGreatDoorRM
import Derived.Test.YtkjnijddbiconaaGreatDoorMC
namespace Go.Proofs.YtkjnijddbiconaaGreatDoor.Ev
open Go
set_option linter.unusedVariables false
set_option linter.unusedSimpArgs false
set_option maxRecDepth 100000
set_option maxHeartbeats 1000000
def rfL (c : Co) (n : Int) : List (Elem ki) := match romB c n with
  | true => frL c.2.2.1 c.2.2.2.2.2.1 n
  | false => []
def g24 : G1
  | [.agg us, .val (.int .i64 n)], [], k => match coreOf us with
    | some c => br (smB' c) (k ⟨.ows 0, [.row [.int .i64] (rfL c n)], []⟩) False
    | none => False
  | _, _, _ => False
theorem rf_f {c : Co} {m : Int} (h : romB c m = false) : rfL c m = [] := by unfold rfL; rw [h]
theorem rf_t {x : Int} {s : List (Elem kc)} {d p : List (Elem k3)} {b : Bool} {f : List (Elem ki)} {n m : Int} (h : romB (x, s, d, p, b, f, n) m = true) : rfL (x, s, d, p, b, f, n) m = frL d f m := by unfold rfL; rw [h]
noncomputable def E24 : Env := Ef.of Tryz.f24
noncomputable def G24 : Gk := gk [(39, g39), (74, g74)]
noncomputable def lp24 (n : Nat) : Code := (loopOf n (codeOf Tryz.f24)).getD .skip
noncomputable def ct24 (L : Lp) (R : Option Res → Prop) (n : Nat) : Kt := contOf E24 G24 L n (codeOf Tryz.f24) (endK E24 Tryz.f24.results.toList R)
noncomputable def rk24 (L : Lp) (R : Option Res → Prop) (n : Nat) (N : St → Prop) : Kt := rk (jof E24 (lp24 n)) N (ct24 L R n)
noncomputable def rkn24 (L : Lp) (R : Option Res → Prop) (n : Nat) (N : St → Prop) (m : Nat) (N2 : St → Prop) : Kt := rk (jof E24 (lp24 m)) N2 (contOf E24 G24 L m (lp24 n) (rk24 L R n N))
noncomputable def LOOPN24 (L : Lp) (R : Option Res → Prop) (n : Nat) (N : St → Prop) (m : Nat) (st : St) : Prop := L (lp24 m) st (contOf E24 G24 L m (lp24 n) (rk24 L R n N))
noncomputable def LOOP24 (L : Lp) (R : Option Res → Prop) (n : Nat) (st : St) : Prop := L (lp24 n) st (ct24 L R n)
theorem hg24 : HG Tryz.prog G24 := (hg_cons h39 (hg_cons h74 hg_nil))
theorem okf24 : Ok Tryz.prog E24 := okf.of Tryz.f24
theorem e24 (L : Lp) (R : Option Res → Prop) (x : Int) (s : List (Elem kc)) (d p : List (Elem k3)) (b : Bool) (f : List (Elem ki)) (n m : Int) : (bodyP Ef G24 L Tryz.f24 [coreAV x s d p b f n, .val (.int .i64 m)] [] R) = (
    br (smB' (x, s, d, p, b, f, n)) (br (!coreOk (x, s, d, p, b, f, n).fst (x, s, d, p, b, f, n).snd.fst (x, s, d, p, b, f, n).snd.snd.fst (x, s, d, p, b, f, n).snd.snd.snd.fst (x, s, d, p, b, f, n).snd.snd.snd.snd.snd.fst (x, s, d, p, b, f, n).snd.snd.snd.snd.snd.snd) (R (some { av := AV.ows 0, obs := [AO.row ki []], outs := [] })) (br (decide (m > 120)) (R (some { av := AV.ows 0, obs := [AO.row ki []], outs := [] })) (br (smCo (x, s, d, p, b, f, n) && decide (m ≤ 120)) (R (some { av := AV.ows 0, obs := [AO.row ki (frL (x, s, d, p, b, f, n).snd.snd.fst (x, s, d, p, b, f, n).snd.snd.snd.snd.snd.fst m)], outs := [] })) False))) False) := by kernel_rfl
theorem h24 : G1Ok Tryz.prog 24 g24 := by
  intro args obs k h
  unfold g24 at h
  split at h
  · rename_i k us m
    split at h
    rotate_left
    · exact h.elim
    rename_i c hc
    obtain rfl := coreOf_inv hc
    obtain ⟨x, s, d, p, b, f, n⟩ := c
    obtain ⟨hp, h⟩ := br_and h
    have hp1 : smCo (x, s, d, p, b, f, n) = true := by
      unfold smB' at hp
      rw [Bool.and_eq_true] at hp
      exact hp.1
    refine ⟨_, ctr_fn okf hg24 Tryz.func24 (by kernel_rfl) (by kernel_rfl) (by kernel_rfl) fun C => ?_, h⟩
    show bodyP Ef G24 _ Tryz.f24 [coreAV x s d p b f n, .val (.int .i64 m)] [] _
    rw [e24]
    refine br_t hp (br_not (fun h1 => ?_) (fun h1 => br_dec (fun h2 => ?_) (fun h2 => br_t (by rw [hp1, decide_eq_true (show m ≤ 120 by omega)]; rfl) ?_)))
    · show _ = _
      rw [rf_f (c := (x, s, d, p, b, f, n)) (m := m) (by unfold romB; rw [h1]; rfl)]
    · show _ = _
      rw [rf_f (c := (x, s, d, p, b, f, n)) (m := m) (by unfold romB; rw [decide_eq_false (show ¬ m ≤ 120 by omega), Bool.and_false])]
    · show _ = some (⟨.ows 0, [.row [.int .i64] (rfL (x, s, d, p, b, f, n) m)], []⟩ : Res)
      rw [rf_t (by unfold romB; rw [h1, decide_eq_true (show m ≤ 120 by omega)]; rfl)]
  · exact h.elim
noncomputable def E25 : Env := Ef.of Tryz.f25
noncomputable def G25 : Gk := gk [(70, g70), (71, g71)]
noncomputable def lp25 (n : Nat) : Code := (loopOf n (codeOf Tryz.f25)).getD .skip
noncomputable def ct25 (L : Lp) (R : Option Res → Prop) (n : Nat) : Kt := contOf E25 G25 L n (codeOf Tryz.f25) (endK E25 Tryz.f25.results.toList R)
noncomputable def rk25 (L : Lp) (R : Option Res → Prop) (n : Nat) (N : St → Prop) : Kt := rk (jof E25 (lp25 n)) N (ct25 L R n)
noncomputable def rkn25 (L : Lp) (R : Option Res → Prop) (n : Nat) (N : St → Prop) (m : Nat) (N2 : St → Prop) : Kt := rk (jof E25 (lp25 m)) N2 (contOf E25 G25 L m (lp25 n) (rk25 L R n N))
noncomputable def LOOPN25 (L : Lp) (R : Option Res → Prop) (n : Nat) (N : St → Prop) (m : Nat) (st : St) : Prop := L (lp25 m) st (contOf E25 G25 L m (lp25 n) (rk25 L R n N))
noncomputable def LOOP25 (L : Lp) (R : Option Res → Prop) (n : Nat) (st : St) : Prop := L (lp25 n) st (ct25 L R n)
theorem hg25 : HG Tryz.prog G25 := (hg_cons h70 (hg_cons h71 hg_nil))
theorem okf25 : Ok Tryz.prog E25 := okf.of Tryz.f25
theorem e25 (L : Lp) (R : Option Res → Prop) (x : Int) (s : List (Elem kc)) (d p : List (Elem k3)) (b : Bool) (f : List (Elem ki)) (n m : Int) : (bodyP Ef G25 L Tryz.f25 [coreAV x s d p b f n, .val (.int .i64 m)] [] R) = (
    br (smB' (x, s, d, p, b, f, n)) (br (!romB (x, s, d, p, b, f, n) m) (R (some { av := AV.ows 0, obs := [AO.row ki []], outs := [] })) (br (okC (x, s, d, p, b, f, n) && decide (m ≤ 120)) (R (some { av := AV.ows 0, obs := [AO.row ki (frL (x, s, d, p, b, f, n).snd.snd.fst (x, s, d, p, b, f, n).snd.snd.snd.snd.snd.fst m)], outs := [] })) False)) False) := by kernel_rfl
theorem h25 : G1Ok Tryz.prog 25 g24 := by
  intro args obs k h
  unfold g24 at h
  split at h
  · rename_i k us m
    split at h
    rotate_left
    · exact h.elim
    rename_i c hc
    obtain rfl := coreOf_inv hc
    obtain ⟨x, s, d, p, b, f, n⟩ := c
    obtain ⟨hp, h⟩ := br_and h
    have hp1 : smCo (x, s, d, p, b, f, n) = true := by
      unfold smB' at hp
      rw [Bool.and_eq_true] at hp
      exact hp.1
    refine ⟨_, ctr_fn okf hg25 Tryz.func25 (by kernel_rfl) (by kernel_rfl) (by kernel_rfl) fun C => ?_, h⟩
    show bodyP Ef G25 _ Tryz.f25 [coreAV x s d p b f n, .val (.int .i64 m)] [] _
    rw [e25]
    refine br_t hp (br_not (fun h1 => ?_) (fun h1 => ?_))
    · show _ = _
      rw [rf_f h1]
    · obtain ⟨hk, hm⟩ := rom_ok h1 hp
      refine br_t (by rw [hk, decide_eq_true hm]; rfl) ?_
      show _ = some (⟨.ows 0, [.row [.int .i64] (rfL (x, s, d, p, b, f, n) m)], []⟩ : Res)
      rw [rf_t h1]
  · exact h.elim
noncomputable def E6 : Env := Eg.of Tryz.f6
noncomputable def G6 : Gk := gk [(11, g11), (13, g13), (24, g24), (25, g24), (15, g15), (16, g16), (17, g17), (18, g18), (19, g19)]
noncomputable def lp6 (n : Nat) : Code := (loopOf n (codeOf Tryz.f6)).getD .skip
noncomputable def ct6 (L : Lp) (R : Option Res → Prop) (n : Nat) : Kt := contOf E6 G6 L n (codeOf Tryz.f6) (endK E6 Tryz.f6.results.toList R)
noncomputable def rk6 (L : Lp) (R : Option Res → Prop) (n : Nat) (N : St → Prop) : Kt := rk (jof E6 (lp6 n)) N (ct6 L R n)
noncomputable def rkn6 (L : Lp) (R : Option Res → Prop) (n : Nat) (N : St → Prop) (m : Nat) (N2 : St → Prop) : Kt := rk (jof E6 (lp6 m)) N2 (contOf E6 G6 L m (lp6 n) (rk6 L R n N))
noncomputable def LOOPN6 (L : Lp) (R : Option Res → Prop) (n : Nat) (N : St → Prop) (m : Nat) (st : St) : Prop := L (lp6 m) st (contOf E6 G6 L m (lp6 n) (rk6 L R n N))
noncomputable def LOOP6 (L : Lp) (R : Option Res → Prop) (n : Nat) (st : St) : Prop := L (lp6 n) st (ct6 L R n)
theorem hg6 : HG Tryz.prog G6 := (hg_cons h11 (hg_cons h13 (hg_cons h24 (hg_cons h25 (hg_cons h15 (hg_cons h16 (hg_cons h17 (hg_cons h18 (hg_cons h19 hg_nil)))))))))
theorem okf6 : Ok Tryz.prog E6 := okg.of Tryz.f6
theorem e6 (L : Lp) (R : Option Res → Prop) (x : Int) (s : List (Elem kc)) (d p : List (Elem k3)) (b : Bool) (f : List (Elem ki)) (n m : Int) : (bodyP Eg G6 L Tryz.f6 [coreAV x s d p b f n, .val (.int .i64 m)] [] R) = (
    br (inCo (x, s, d, p, b, f, n) && true) (br (decide (szR 1048576 (szCo (x, s, d, p, b, f, n)) < 0)) (R (some { av := vB true, obs := [], outs := [] })) (br (smCo (x, s, d, p, b, f, n)) (br (smB' (x, s, d, p, b, f, n)) (br (smCo (x, s, d, p, b, f, n)) (br (smB' (x, s, d, p, b, f, n)) (br (decide ((rfL (x, s, d, p, b, f, n) m).length ≤ 1048576)) (br (!eqR ki (rfL (x, s, d, p, b, f, n) m) (rfL (x, s, d, p, b, f, n) m)) (R (some { av := vB false, obs := [], outs := [] })) (br (smCo (x, s, d, p, b, f, n)) (br (smCo (x, s, d, p, b, f, n)) (br (!eqCo (x, s, d, p, b, f, n) (x, s, d, p, b, f, n)) (R (some { av := vB false, obs := [], outs := [] })) (br (inC4 1 (x, s, d, p, b, f, n).snd.fst.length (x, s, d, p, b, f, n).snd.snd.fst.length (x, s, d, p, b, f, n).snd.snd.snd.fst.length (x, s, d, p, b, f, n).snd.snd.snd.snd.snd.fst.length) (br (decide ((rfL (x, s, d, p, b, f, n) m).length ≤ 1048576)) (br (!eqR ki (rfL (x, s, d, p, b, f, n) m) (rfL (x, s, d, p, b, f, n) m)) (R (some { av := vB false, obs := [], outs := [] })) (br (inM 1 (rfL (x, s, d, p, b, f, n) m).length) (br (inM 1 (mkS mkI 1 1 (rfL (x, s, d, p, b, f, n) m).length).length) (br (decide (hdR (hdB ki mkI 1 1 (mkS mkI 1 1 (rfL (x, s, d, p, b, f, n) m).length)) (1 + (↑(1 * (mkS mkI 1 1 (rfL (x, s, d, p, b, f, n) m).length).length) : Int)) < 0)) (R (some { av := vB false, obs := [], outs := [] })) (br (hdR (hdB ki mkI 1 1 (mkS mkI 1 1 (rfL (x, s, d, p, b, f, n) m).length)) (1 + (↑(1 * (mkS mkI 1 1 (rfL (x, s, d, p, b, f, n) m).length).length) : Int)) != 1 + (↑(1 * (rfL (x, s, d, p, b, f, n) m).length) : Int)) (R (some { av := vB false, obs := [], outs := [] })) (br (smCo (x, s, d, p, b, f, n)) (br (smB' (x, s, d, p, b, f, n)) (br (decide ((rfL (x, s, d, p, b, f, n) m).length ≤ 1048576)) (br (!eqR ki (rfL (x, s, d, p, b, f, n) m) (rfL (x, s, d, p, b, f, n) m)) (R (some { av := vB false, obs := [], outs := [] })) (br (inM 1 (mkS mkI 1 1 (rfL (x, s, d, p, b, f, n) m).length).length) (br (decide (hdR (hdB ki mkI 1 1 (mkS mkI 1 1 (rfL (x, s, d, p, b, f, n) m).length)) (1 + (↑(1 * (mkS mkI 1 1 (rfL (x, s, d, p, b, f, n) m).length).length) : Int)) < 0)) (R (some { av := vB false, obs := [], outs := [] })) (br (hdR (hdB ki mkI 1 1 (mkS mkI 1 1 (rfL (x, s, d, p, b, f, n) m).length)) (1 + (↑(1 * (mkS mkI 1 1 (rfL (x, s, d, p, b, f, n) m).length).length) : Int)) != 1 + (↑(1 * (rfL (x, s, d, p, b, f, n) m).length) : Int)) (R (some { av := vB false, obs := [], outs := [] })) (R (some { av := vB true, obs := [], outs := [] })))) False)) False) False) False))) False) False)) False) False)) False) False)) False) False) False) False) False)) False) := by kernel_rfl
theorem rf_len (c : Co) (m : Int) : (rfL c m).length ≤ 1048576 := by
  cases h : romB c m with
  | false => rw [rf_f h]; exact Nat.zero_le _
  | true =>
    obtain ⟨x, s, d, p, b, f, n⟩ := c
    have h2 := (rom_inv h).2
    rw [rf_t h]
    have := frP_len d f (m - 13).toNat
    show (frP d f (m - 13).toNat).length ≤ _
    omega
theorem inC4_of {s d p f : Nat} (hs : s ≤ 1048576) (hd : d ≤ 1048576) (hp : p ≤ 1048576) (hf : f ≤ 1048576) : inC4 1 s d p f = true := by
  unfold inC4 inM
  rw [decide_eq_true (by omega), decide_eq_true (by omega), decide_eq_true (by omega), decide_eq_true (by omega)]
  rfl
theorem hd_ge {l : Nat} : ¬ (hdR true (1 + ((1 * l : Nat) : Int)) < 0) := by
  show ¬ (1 + ((1 * l : Nat) : Int) < 0)
  omega
theorem hd_ne {l : Nat} : (hdR true (1 + ((1 * l : Nat) : Int)) != 1 + ((1 * l : Nat) : Int)) = false := by
  show ((1 + ((1 * l : Nat) : Int)) != 1 + ((1 * l : Nat) : Int)) = false
  simp
theorem c6 (x : Int) (s : List (Elem kc)) (d p : List (Elem k3)) (b : Bool) (f : List (Elem ki)) (n m : Int) (h : coOk x s d p b f n) : Ctr Tryz.prog 6 [coreAV x s d p b f n, .val (.int .i64 m)] [] ⟨.val (.bool true), [], []⟩ := by
  refine ctr_fn okg hg6 Tryz.func6 (by kernel_rfl) (by kernel_rfl) (by kernel_rfl) fun C => ?_
  rw [e6, inCo_of h]
  refine br_t rfl (br_dec (fun _ => rfl) (fun h1 => ?_))
  have hs := smCo_of (Int.le_refl _) h1
  have hb := smB'_of (Int.le_refl _) h1
  have hl := rf_len (x, s, d, p, b, f, n) m
  rw [hs, hb, eqCo_self, eqR_self, mkS_len, hdB_mk, inM_of hl, inC4_of (smCo_s hs) (smCo_d hs) (smCo_p hs) (smCo_f hs)]
  exact br_t rfl (br_t rfl (br_t rfl (br_t rfl (br_yes hl (br_f rfl (br_t rfl (br_t rfl (br_f rfl (br_t rfl (br_yes hl (br_f rfl (br_t rfl (br_t rfl (br_no hd_ge (br_f hd_ne (br_t rfl (br_t rfl (br_yes hl (br_f rfl (br_t rfl (br_no hd_ge (br_f hd_ne rfl))))))))))))))))))))))
end Go.Proofs.YtkjnijddbiconaaGreatDoor.Ev
