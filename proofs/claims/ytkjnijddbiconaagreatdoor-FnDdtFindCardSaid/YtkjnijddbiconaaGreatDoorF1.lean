/- The law of FnDdtFind: what is drawn. -/
import Derived.Test.YtkjnijddbiconaaGreatDoorP1
import Derived.Test.YtkjnijddbiconaaGreatDoorFD
namespace Go.Proofs.YtkjnijddbiconaaGreatDoor.Ev
open Go
set_option linter.unusedVariables false
set_option linter.unusedSimpArgs false
set_option maxRecDepth 100000
def dfW : List (Elem ks) := [(⟨#[120]⟩, ()), (⟨#[97, 122, 122]⟩, ()), (⟨#[98, 120, 108]⟩, ()), (⟨#[111, 110, 101]⟩, ()), (⟨#[110, 111, 110, 101]⟩, ()), (⟨#[]⟩, ())]
def dfT (B : List (Elem ku)) : ByteArray := at1 dfW (pk B (drP B) 6).toNat
def drC (B : List (Elem ku)) : List (Elem kl) := (lsR B 0).1
def g41 : G1
  | [.rsl [.int .u8] c], [], k => br (okB c && decide (c.length ≤ 1048576)) (k ⟨.tup [.agg [.ows 0, .ows 1, .ows 2], .ows 3, .val (.string (dfT (opB c)))], [.row ks z12, .row ks z12, .row kl (drC (opB c)), .row k3 (drL (opB c))], []⟩) False
  | _, _, _ => False
noncomputable def G41 : Gk := gk [(104, g104), (113, g113), (114, g114)]
theorem hg41 : HG Tryz.prog G41 := (hg_cons h104 (hg_cons h113 (hg_cons h114 hg_nil)))
theorem e41 (L : Lp) (R : Option Res → Prop) (c : List (Elem [.int .u8])) : (bodyP Er G41 L Tryz.f41 [.rsl [.int .u8] c] [] R) = (
    br (okB c && decide (c.length ≤ 1048576)) (br (okB (opB c) && (decide ((opB c).length ≤ 1048576) && true)) (br (okB (opB c) && (decide ((opB c).length ≤ 1048576) && (decide (0 ≤ lfP (opB c) (lsQ (opB c) 0) (lsR (opB c) 0).snd ∧ lfP (opB c) (lsQ (opB c) 0) (lsR (opB c) 0).snd ≤ 1000000) && true))) (R (some { av := AV.tup [AV.agg [AV.ows 0, AV.ows 1, AV.ows 2], AV.ows 3, vS (at1 [({ data := #[120] }, ()), ({ data := #[97, 122, 122] }, ()), ({ data := #[98, 120, 108] }, ()), ({ data := #[111, 110, 101] }, ()), ({ data := #[110, 111, 110, 101] }, ()), ({ data := #[] }, ())] (pk (opB c) (lfP (opB c) (lsQ (opB c) 0) (lsR (opB c) 0).snd) 6).toNat)], obs := [AO.row ks z12, AO.row ks z12, AO.row kl (lsR (opB c) 0).fst, AO.row k3 (lfL (opB c) (lsQ (opB c) 0) (lsR (opB c) 0).snd)], outs := [] })) False) False) False) := by kernel_rfl
theorem dfW_size (i : Nat) : (at1 dfW i).size ≤ 4 := by
  unfold at1 dfW
  match i with
  | 0 | 1 | 2 | 3 | 4 | 5 => decide
  | i + 6 => exact Nat.zero_le _
theorem h41 : G1Ok Tryz.prog 41 g41 := by
  intro args obs k h
  unfold g41 at h
  split at h
  · rename_i k c
    obtain ⟨hq, h⟩ := br_and h
    have hq' := hq
    simp only [Bool.and_eq_true, decide_eq_true_eq] at hq'
    have hl := opB_len c
    have hb := opB_ok hq'.1
    have hP := drP_lt hb
    have hP' : 0 ≤ lfP (opB c) (lsQ (opB c) 0) (lsR (opB c) 0).2 ∧ lfP (opB c) (lsQ (opB c) 0) (lsR (opB c) 0).2 ≤ 1000000 := ⟨hP.1, Int.le_trans hP.2 (by decide)⟩
    refine ⟨_, ctr_fn okr hg41 Tryz.func41 (by kernel_rfl) (by kernel_rfl) (by kernel_rfl) fun C => ?_, h⟩
    rw [e41]
    refine br_t hq (br_t (by rw [hb, decide_eq_true (show (opB c).length ≤ 1048576 by omega)]; rfl) (br_t (by rw [hb, decide_eq_true (show (opB c).length ≤ 1048576 by omega), decide_eq_true hP']; rfl) ?_))
    rfl
  · exact h.elim
end Go.Proofs.YtkjnijddbiconaaGreatDoor.Ev
