/- The law of PtrText. -/
import Derived.Test.YtljilcingbohkabDoorD1
import Derived.Test.YtljilcingbohkabDoorDP
namespace Go.Proofs.YtljilcingbohkabDoor.Ev
open Go
set_option linter.unusedVariables false
set_option linter.unusedSimpArgs false
set_option maxRecDepth 100000
def joinT (ys : List (Elem ks)) (sep : ByteArray) : ByteArray := ⟨(sep.data.toList.intercalate (ys.map fun e => e.1.data.toList)).toArray⟩
def g150 : G1
  | [.rsl [.str] ys, .val (.string sep)], [], k => br (decide (ys.length ≤ 1048576) && decide ((joinT ys sep).size ≤ 1099511627776)) (k ⟨.val (.string (joinT ys sep)), [], []⟩) False
  | _, _, _ => False
theorem flat_ks : ∀ (ys : List (Elem ks)), flat ks ys = ys.map fun e => .string e.1
  | [] => rfl
  | e :: ys => by
    show vals ks e ++ flat ks ys = _
    rw [flat_ks ys]
    rfl
def decS (xs : List (Elem ki)) : List (Elem ks) := xs.map fun e => (dec e.1, ())
def allN (xs : List (Elem ki)) : Bool := xs.all fun e => inN e.1
def g132 : G1
  | [.rsl [.int .i64] xs], [], k => br (allN xs && (decide (xs.length ≤ 1048576) && decide ((joinT (decS xs) ⟨#[46]⟩).size ≤ 1099511627776))) (k ⟨.val (.string (joinT (decS xs) ⟨#[46]⟩)), [], []⟩) False
  | _, _, _ => False
def ptrT (a b c : Int) : ByteArray := match ptrOk a b c with
  | false => ByteArray.empty
  | true => match a == 0 with
    | true => ⟨#[45]⟩
    | false => dec a ++ ⟨#[46]⟩ ++ dec b ++ ⟨#[46]⟩ ++ dec c
def g79 : G1
  | [.agg [.val (.int .i64 a), .val (.int .i64 b), .val (.int .i64 c)]], [], k => k ⟨.val (.string (ptrT a b c)), [], []⟩
  | _, _, _ => False
theorem join3 (a b c p : ByteArray) : joinT [(a, ()), (b, ()), (c, ())] p = a ++ p ++ b ++ p ++ c := by
  unfold joinT
  apply ByteArray.ext
  rw [ByteArray.data_append, ByteArray.data_append, ByteArray.data_append, ByteArray.data_append]
  apply Array.ext'
  simp [List.intercalate, List.intersperse]
noncomputable def E79 : Env := E0.of Tryd.f79
noncomputable def G79 : Gk := gk [(53, g120), (81, g81p)]
noncomputable def lp79 (n : Nat) : Code := (loopOf n (codeOf Tryd.f79)).getD .skip
noncomputable def ct79 (L : Lp) (R : Option Res → Prop) (n : Nat) : Kt := contOf E79 G79 L n (codeOf Tryd.f79) (endK E79 Tryd.f79.results.toList R)
noncomputable def rk79 (L : Lp) (R : Option Res → Prop) (n : Nat) (N : St → Prop) : Kt := rk (jof E79 (lp79 n)) N (ct79 L R n)
noncomputable def rkn79 (L : Lp) (R : Option Res → Prop) (n : Nat) (N : St → Prop) (m : Nat) (N2 : St → Prop) : Kt := rk (jof E79 (lp79 m)) N2 (contOf E79 G79 L m (lp79 n) (rk79 L R n N))
noncomputable def LOOPN79 (L : Lp) (R : Option Res → Prop) (n : Nat) (N : St → Prop) (m : Nat) (st : St) : Prop := L (lp79 m) st (contOf E79 G79 L m (lp79 n) (rk79 L R n N))
noncomputable def LOOP79 (L : Lp) (R : Option Res → Prop) (n : Nat) (st : St) : Prop := L (lp79 n) st (ct79 L R n)
theorem hg79 : HG Tryd.prog G79 := (hg_cons h53 (hg_cons h81p hg_nil))
theorem okf79 : Ok Tryd.prog E79 := ok0.of Tryd.f79
theorem e79 (L : Lp) (R : Option Res → Prop) (a b c : Int) : (bodyP E0 G79 L Tryd.f79 [.agg [.val (.int .i64 a), .val (.int .i64 b), .val (.int .i64 c)]] [] R) = (
    br (!ptrOk a b c) (R (some { av := vS { data := #[] }, obs := [], outs := [] })) (br (a == 0) (R (some { av := vS { data := #[45] }, obs := [], outs := [] })) (br (decide (0 ≤ a ∧ a ≤ 9223372036854775807)) (br (decide ((dec a).size + 1 ≤ 9223372036854775807)) (br (decide (0 ≤ b ∧ b ≤ 9223372036854775807)) (br (decide ((dec a ++ { data := #[46] }).size + (dec b).size ≤ 9223372036854775807)) (br (decide ((dec a ++ { data := #[46] } ++ dec b).size + 1 ≤ 9223372036854775807)) (br (decide (0 ≤ c ∧ c ≤ 9223372036854775807)) (br (decide ((dec a ++ { data := #[46] } ++ dec b ++ { data := #[46] }).size + (dec c).size ≤ 9223372036854775807)) (R (some { av := vS (dec a ++ { data := #[46] } ++ dec b ++ { data := #[46] } ++ dec c), obs := [], outs := [] })) False) False) False) False) False) False) False))) := by kernel_rfl
theorem h79 : G1Ok Tryd.prog 79 g79 := by
  intro args obs k h
  unfold g79 at h
  split at h
  · rename_i k a b c
    refine ⟨_, ctr_fn ok0 hg79 Tryd.func79 (by kernel_rfl) (by kernel_rfl) (by kernel_rfl) fun C => ?_, h⟩
    rw [e79]
    refine br_not (fun h1 => ?_) (fun h1 => br_intro (fun h2 => ?_) (fun h2 => ?_))
    · show _ = _
      unfold ptrT
      rw [h1]
      rfl
    · show _ = _
      unfold ptrT
      rw [h1, h2]
    obtain ⟨r1, r2, r3⟩ := ptr_range h1
    have s1 := dec_size (n := a) (by omega) (by omega)
    have s2 := dec_size (n := b) (by omega) (by omega)
    have s3 := dec_size (n := c) (by omega) (by omega)
    refine br_yes (by omega) (br_yes (by omega) (br_yes (by omega) (br_yes ?_ (br_yes ?_ (br_yes (by omega) (br_yes ?_ ?_))))))
    · rw [ByteArray.size_append]
      show (dec a).size + 1 + (dec b).size ≤ _
      omega
    · rw [ByteArray.size_append, ByteArray.size_append]
      show (dec a).size + 1 + (dec b).size + 1 ≤ _
      omega
    · rw [ByteArray.size_append, ByteArray.size_append, ByteArray.size_append]
      show (dec a).size + 1 + (dec b).size + 1 + (dec c).size ≤ _
      omega
    · show _ = _
      unfold ptrT
      rw [h1, h2]
  · exact h.elim
end Go.Proofs.YtljilcingbohkabDoor.Ev
