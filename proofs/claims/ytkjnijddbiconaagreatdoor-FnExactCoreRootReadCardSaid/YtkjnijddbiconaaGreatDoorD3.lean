/- The law of PtrText. -/
import Derived.Test.YtkjnijddbiconaaGreatDoorD1
import Derived.Test.YtkjnijddbiconaaGreatDoorDP
namespace Go.Proofs.YtkjnijddbiconaaGreatDoor.Ev
open Go
set_option linter.unusedVariables false
set_option linter.unusedSimpArgs false
set_option maxRecDepth 100000
def joinT (ys : List (Elem ks)) (sep : ByteArray) : ByteArray := ⟨(sep.data.toList.intercalate (ys.map fun e => e.1.data.toList)).toArray⟩
def g119 : G1
  | [.rsl [.str] ys, .val (.string sep)], [], k => br (decide (ys.length ≤ 1048576) && decide ((joinT ys sep).size ≤ 1099511627776)) (k ⟨.val (.string (joinT ys sep)), [], []⟩) False
  | _, _, _ => False
theorem flat_ks : ∀ (ys : List (Elem ks)), flat ks ys = ys.map fun e => .string e.1
  | [] => rfl
  | e :: ys => by
    show vals ks e ++ flat ks ys = _
    rw [flat_ks ys]
    rfl
def decS (xs : List (Elem ki)) : List (Elem ks) := xs.map fun e => (dec e.1, ())
def allN (xs : List (Elem ki)) : Bool := xs.all fun e => inN e.1
def g118 : G1
  | [.rsl [.int .i64] xs], [], k => br (allN xs && (decide (xs.length ≤ 1048576) && decide ((joinT (decS xs) ⟨#[46]⟩).size ≤ 1099511627776))) (k ⟨.val (.string (joinT (decS xs) ⟨#[46]⟩)), [], []⟩) False
  | _, _, _ => False
def ptrT (a b c : Int) : ByteArray := match ptrOk a b c with
  | false => ByteArray.empty
  | true => match a == 0 with
    | true => ⟨#[45]⟩
    | false => dec a ++ ⟨#[46]⟩ ++ dec b ++ ⟨#[46]⟩ ++ dec c
def g166 : G1
  | [.agg [.val (.int .i64 a), .val (.int .i64 b), .val (.int .i64 c)]], [], k => k ⟨.val (.string (ptrT a b c)), [], []⟩
  | _, _, _ => False
theorem join3 (a b c p : ByteArray) : joinT [(a, ()), (b, ()), (c, ())] p = a ++ p ++ b ++ p ++ c := by
  unfold joinT
  apply ByteArray.ext
  rw [ByteArray.data_append, ByteArray.data_append, ByteArray.data_append, ByteArray.data_append]
  apply Array.ext'
  simp [List.intercalate, List.intersperse]
noncomputable def G166 : Gk := gk [(109, g195), (164, g164p)]
theorem hg166 : HG Tryz.prog G166 := (hg_cons h109 (hg_cons h164p hg_nil))
theorem e166 (L : Lp) (R : Option Res → Prop) (a b c : Int) : (bodyP E0 G166 L Tryz.f166 [.agg [.val (.int .i64 a), .val (.int .i64 b), .val (.int .i64 c)]] [] R) = (
    br (!ptrOk a b c) (R (some { av := vS { data := #[] }, obs := [], outs := [] })) (br (a == 0) (R (some { av := vS { data := #[45] }, obs := [], outs := [] })) (br (decide (0 ≤ a ∧ a ≤ 9223372036854775807)) (br (decide ((dec a).size + 1 ≤ 9223372036854775807)) (br (decide (0 ≤ b ∧ b ≤ 9223372036854775807)) (br (decide ((dec a ++ { data := #[46] }).size + (dec b).size ≤ 9223372036854775807)) (br (decide ((dec a ++ { data := #[46] } ++ dec b).size + 1 ≤ 9223372036854775807)) (br (decide (0 ≤ c ∧ c ≤ 9223372036854775807)) (br (decide ((dec a ++ { data := #[46] } ++ dec b ++ { data := #[46] }).size + (dec c).size ≤ 9223372036854775807)) (R (some { av := vS (dec a ++ { data := #[46] } ++ dec b ++ { data := #[46] } ++ dec c), obs := [], outs := [] })) False) False) False) False) False) False) False))) := by kernel_rfl
theorem h166 : G1Ok Tryz.prog 166 g166 := by
  intro args obs k h
  unfold g166 at h
  split at h
  · rename_i k a b c
    refine ⟨_, ctr_fn ok0 hg166 Tryz.func166 (by kernel_rfl) (by kernel_rfl) (by kernel_rfl) fun C => ?_, h⟩
    rw [e166]
    refine br_not (fun h1 => ?_) (fun h1 => br_intro (fun h2 => ?_) (fun h2 => ?_))
    · show _ = _
      unfold ptrT
      rw [h1]
      rfl
    · show _ = _
      unfold ptrT
      rw [h1, h2]
    obtain ⟨r1, r2, r3⟩ := ptr_range h1
    have s1 := dec_size (n := a) (by omega) (by omega)
    have s2 := dec_size (n := b) (by omega) (by omega)
    have s3 := dec_size (n := c) (by omega) (by omega)
    refine br_yes (by omega) (br_yes (by omega) (br_yes (by omega) (br_yes ?_ (br_yes ?_ (br_yes (by omega) (br_yes ?_ ?_))))))
    · rw [ByteArray.size_append]
      show (dec a).size + 1 + (dec b).size ≤ _
      omega
    · rw [ByteArray.size_append, ByteArray.size_append]
      show (dec a).size + 1 + (dec b).size + 1 ≤ _
      omega
    · rw [ByteArray.size_append, ByteArray.size_append, ByteArray.size_append]
      show (dec a).size + 1 + (dec b).size + 1 + (dec c).size ≤ _
      omega
    · show _ = _
      unfold ptrT
      rw [h1, h2]
  · exact h.elim
end Go.Proofs.YtkjnijddbiconaaGreatDoor.Ev
