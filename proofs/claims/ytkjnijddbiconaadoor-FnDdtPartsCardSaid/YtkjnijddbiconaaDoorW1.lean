/- Words and numbers: contracts. -/
import Derived.Test.YtkjnijddbiconaaDoorD1
import Derived.Test.YtkjnijddbiconaaDoorEvC
import Derived.Lib.AtoiAllCases
namespace Go.Proofs.YtkjnijddbiconaaDoor.Ev
open Go
set_option linter.unusedVariables false
set_option linter.unusedSimpArgs false
set_option maxRecDepth 100000
set_option maxHeartbeats 1000000
def cutL (s : ByteArray) (c : Int) : List (Elem ks) := (splitW (UInt8.ofNat c.toNat) s.data.toList).map fun w => (⟨w.toArray⟩, ())
def g52 : G1
  | [.val (.string s), .val (.int .u8 c)], [], k => br (decide (s.size ≤ 1048576) && decide (0 ≤ c ∧ c ≤ 255)) (k ⟨.ows 0, [.row [.str] (cutL s c)], []⟩) False
  | _, _, _ => False
def negS (s : ByteArray) : Bool := decide ((s.size : Int) > 0) && (byteAt s 0 == 45)
def digB (t : ByteArray) (i : Nat) : Bool := decide (48 ≤ byteAt t i) && decide (byteAt t i ≤ 57)
def numO (t : ByteArray) (g : Bool) : Bool := decide (1 ≤ t.size) && decide (t.size ≤ 17) && !((byteAt t 0 == 48) && (decide (t.size > 1) || g)) && allB t.size (digB t)
def numV (t : ByteArray) : Nat → Int
  | 0 => 0
  | i + 1 => numV t i * 10 + (byteAt t i - 48)
def numK (s : ByteArray) : Bool := match negS s with
  | true => numO (s.extract 1 s.size) true
  | false => numO s false
def numN (s : ByteArray) : Int := match numK s with
  | false => 0
  | true => match negS s with
    | true => - numV (s.extract 1 s.size) (s.extract 1 s.size).size
    | false => numV s s.size
def g53 : G1
  | [.val (.string s)], [], k => br (decide (s.size ≤ 1048576)) (k ⟨.tup [.val (.int .i64 (numN s)), .val (.bool (numK s))], [], []⟩) False
  | _, _, _ => False
noncomputable def E52 : Env := Ef.of Tryd.f52
noncomputable def G52 : Gk := gk []
noncomputable def lp52 (n : Nat) : Code := (loopOf n (codeOf Tryd.f52)).getD .skip
noncomputable def ct52 (L : Lp) (R : Option Res → Prop) (n : Nat) : Kt := contOf E52 G52 L n (codeOf Tryd.f52) (endK E52 Tryd.f52.results.toList R)
noncomputable def rk52 (L : Lp) (R : Option Res → Prop) (n : Nat) (N : St → Prop) : Kt := rk (jof E52 (lp52 n)) N (ct52 L R n)
noncomputable def LOOP52 (L : Lp) (R : Option Res → Prop) (n : Nat) (st : St) : Prop := L (lp52 n) st (ct52 L R n)
theorem hg52 : HG Tryd.prog G52 := hg_nil
theorem okf52 : Ok Tryd.prog E52 := okf.of Tryd.f52
theorem e52 (L : Lp) (R : Option Res → Prop) (s : ByteArray) (c : Int) : (bodyP Ef G52 L Tryd.f52 [.val (.string s), .val (.int .u8 c)] [] R) = (
    LOOP52 L R 4 { tm := [vS s, AV.val (Value.int IntKind.u8 c), vJ, vJ, vJ, AV.ows 0, vI 0, vI 0, vJ, vJ, vJ, vJ, vJ, vJ, vJ, vJ, vJ, vJ, vJ, vJ, vJ, vJ, vJ, vJ, vJ, vJ, vJ, vJ, vJ, vJ, vJ, vJ, vJ, vJ, vJ, vJ], ob := [(0, AO.row ks [])], nx := 1000000, ps := [] }) := by kernel_rfl
def st52 (s : ByteArray) (c : Int) (q i : Int) (ys : List (Elem ks)) : St :=  ⟨[vS s, AV.val (Value.int IntKind.u8 c), vJ, vJ, vJ, AV.ows 0, .val (.int .i64 q), .val (.int .i64 i), vJ, vJ, vJ, vJ, vJ, vJ, vJ, vJ, vJ, vJ, vJ, vJ, vJ, vJ, vJ, vJ, vJ, vJ, vJ, vJ, vJ, vJ, vJ, vJ, vJ, vJ, vJ, vJ], [(0, .row ks ys)], 1000000, []⟩
theorem b52 (L : Lp) (R : Option Res → Prop) (N : St → Prop) (s : ByteArray) (c : Int) (q i : Int) (ys : List (Elem ks)) : (evP E52 G52 L (lp52 4) (st52 s c q i ys) (rk52 L R 4 N)) = (
    br (decide (i ≤ (↑s.size : Int))) (br (i == (↑s.size : Int)) (br (decide (0 ≤ q ∧ q ≤ i ∧ i ≤ (↑s.size : Int))) (br (decide ((ys.length + [(s.extract q.toNat i.toNat, ())].length) * 16 ≤ 140737488355328)) (N { tm := [vS s, AV.val (Value.int IntKind.u8 c), vJ, vJ, vJ, AV.ows 0, vI (IntKind.i64.wrap (i + 1)), vI (IntKind.i64.wrap (i + 1)), vJ, vJ, vJ, vJ, vJ, vJ, vJ, vJ, vJ, vJ, vJ, vJ, vJ, vJ, vJ, vJ, vJ, vJ, vJ, vJ, vJ, vJ, vJ, vJ, vJ, vJ, vJ, vJ], ob := [(0, AO.row ks (ys ++ [(s.extract q.toNat i.toNat, ())]))], nx := 1000000, ps := [] }) False) False) (br (decide (0 ≤ i ∧ i < (↑s.size : Int))) (br (byteAt s i == c) (br (decide (0 ≤ q ∧ q ≤ i ∧ i ≤ (↑s.size : Int))) (br (decide ((ys.length + [(s.extract q.toNat i.toNat, ())].length) * 16 ≤ 140737488355328)) (N { tm := [vS s, AV.val (Value.int IntKind.u8 c), vJ, vJ, vJ, AV.ows 0, vI (IntKind.i64.wrap (i + 1)), vI (IntKind.i64.wrap (i + 1)), vJ, vJ, vJ, vJ, vJ, vJ, vJ, vJ, vJ, vJ, vJ, vJ, vJ, vJ, vJ, vJ, vJ, vJ, vJ, vJ, vJ, vJ, vJ, vJ, vJ, vJ, vJ, vJ], ob := [(0, AO.row ks (ys ++ [(s.extract q.toNat i.toNat, ())]))], nx := 1000000, ps := [] }) False) False) (N { tm := [vS s, AV.val (Value.int IntKind.u8 c), vJ, vJ, vJ, AV.ows 0, vI q, vI (IntKind.i64.wrap (i + 1)), vJ, vJ, vJ, vJ, vJ, vJ, vJ, vJ, vJ, vJ, vJ, vJ, vJ, vJ, vJ, vJ, vJ, vJ, vJ, vJ, vJ, vJ, vJ, vJ, vJ, vJ, vJ, vJ], ob := [(0, AO.row ks ys)], nx := 1000000, ps := [] })) False)) (R (some { av := AV.ows 0, obs := [AO.row ks ys], outs := [] }))) := by kernel_rfl
def wrd (l : List UInt8) (q i : Nat) : List UInt8 := (l.drop q).take (i - q)
theorem ext_wrd (s : ByteArray) (q i : Nat) : (s.extract q i).data.toList = wrd s.data.toList q i := by
  rw [ByteArray.data_extract, Array.toList_extract]
  rfl
theorem wrd_next (l : List UInt8) {q i : Nat} (hq : q ≤ i) (hi : i < l.length) : wrd l q (i + 1) = wrd l q i ++ [l[i]] := by
  unfold wrd
  have e : i + 1 - q = (i - q) + 1 := by omega
  rw [e, List.take_add_one, List.getElem?_drop, List.getElem?_eq_getElem (by omega : q + (i - q) < l.length)]
  simp only [Option.toList]
  congr 2
  congr 1
  omega
theorem wrd_self (l : List UInt8) (i : Nat) : wrd l i i = [] := by
  unfold wrd
  rw [Nat.sub_self, List.take_zero]
def txt (ys : List (Elem ks)) : List (List UInt8) := ys.map fun e => e.1.data.toList
theorem txt_inv {ys : List (Elem ks)} {s : ByteArray} {c : Int} (h : txt ys = splitW (UInt8.ofNat c.toNat) s.data.toList) : ys = cutL s c := by
  unfold cutL
  rw [← h]
  unfold txt
  rw [List.map_map]
  have : ((fun w => ((⟨w.toArray⟩ : ByteArray), ())) ∘ fun (e : Elem ks) => e.1.data.toList) = id := by
    funext e
    obtain ⟨⟨⟨l⟩⟩, ⟨⟩⟩ := e
    rfl
  rw [this, List.map_id]
theorem txt_cutL (s : ByteArray) (c : Int) : txt (cutL s c) = splitW (UInt8.ofNat c.toNat) s.data.toList := by
  unfold cutL txt
  rw [List.map_map]
  have : ((fun (e : Elem ks) => e.1.data.toList) ∘ fun (w : List UInt8) => ((⟨w.toArray⟩ : ByteArray), ())) = id := by
    funext w
    rfl
  rw [this, List.map_id]
theorem byteAt_l (s : ByteArray) {i : Nat} (hi : i < s.size) : byteAt s i = ((s.data.toList[i]'hi).toNat : Int) := by
  unfold byteAt
  rw [dif_pos (show ((i : Int)).toNat < s.size from hi)]
  rfl
theorem splitW_len (c : UInt8) : ∀ l, (splitW c l).length ≤ l.length + 1
  | [] => by simp [splitW]
  | b :: l => by
    have := splitW_len c l
    unfold splitW
    split
    · simp only [List.length_cons]; omega
    · unfold consW
      split
      · simp only [List.length_cons, List.length_nil]; omega
      · rename_i hs
        rw [hs] at this
        simp only [List.length_cons] at this ⊢
        omega
theorem h52 : G1Ok Tryd.prog 52 g52 := by
  intro args obs k h
  unfold g52 at h
  split at h
  · rename_i k s c
    obtain ⟨hl, hc, h⟩ := brb2 h
    have hl := of_decide_eq_true hl
    have hc := of_decide_eq_true hc
    refine ⟨_, ctr_fn okf hg52 Tryd.func52 (by kernel_rfl) (by kernel_rfl) (by kernel_rfl) fun C => ?_, h⟩
    rw [e52]
    generalize hC : UInt8.ofNat c.toNat = C
    have hL : s.data.toList.length = s.size := rfl
    refine loopUp okf52 hg52 (fun i (a : Nat × List (Elem ks)) => st52 s c a.1 i a.2) (s.size + 1) (fun i a => (i ≤ s.size → a.1 ≤ i ∧ txt a.2 ++ consW (wrd s.data.toList a.1 i) (splitW C (s.data.toList.drop i)) = splitW C s.data.toList) ∧ (i = s.size + 1 → txt a.2 = splitW C s.data.toList) ∧ a.2.length ≤ i) (fun N i ⟨q, ys⟩ hi ⟨h1, h2, h3⟩ next => ?_) (0, []) ⟨fun _ => ⟨Nat.le_refl _, by rw [wrd_self, consW_nil _ (splitW_ne _ _)]; rfl⟩, fun e => by omega, Nat.zero_le _⟩
    show evP E52 G52 _ (lp52 4) (st52 s c q i ys) (rk52 _ _ 4 _)
    have hw : IntKind.i64.wrap ((i : Int) + 1) = ((i + 1 : Nat) : Int) := by rw [wrap_id (by omega) (by omega)]; omega
    have h3 : ys.length ≤ i := h3
    rw [b52, hw, Int.toNat_natCast, Int.toNat_natCast]
    refine br_dec (fun g1 => br_intro (fun g2 => ?_) (fun g2 => ?_)) (fun g1 => ?_)
    · have e : i = s.size := by have := eq_of_beq g2; omega
      obtain ⟨hq, he⟩ := h1 (by omega)
      have hq : q ≤ i := hq
      refine br_yes ⟨by omega, by omega, by omega⟩ (br_yes (by show (ys.length + 1) * 16 ≤ _; omega) ?_)
      refine next (by omega) (i + 1, ys ++ [(s.extract q i, ())]) ⟨fun h => by omega, fun _ => ?_, by show (ys ++ [(s.extract q i, ())]).length ≤ _; rw [List.length_append]; show ys.length + 1 ≤ _; omega⟩
      have he : txt ys ++ consW (wrd s.data.toList q i) (splitW C (s.data.toList.drop i)) = splitW C s.data.toList := he
      rw [List.drop_eq_nil_of_le (by omega)] at he
      show txt (ys ++ [(s.extract q i, ())]) = _
      unfold txt at he ⊢
      rw [List.map_append, ← he, List.map_cons, List.map_nil, ext_wrd]
      show _ = _ ++ [_ ++ []]
      rw [List.append_nil]
    · have hlt : i < s.size := by have := beq_eq_false_iff_ne.1 g2; omega
      obtain ⟨hq, he⟩ := h1 (by omega)
      have hq : q ≤ i := hq
      have he : txt ys ++ consW (wrd s.data.toList q i) (splitW C (s.data.toList.drop i)) = splitW C s.data.toList := he
      have hb := byteAt_l s hlt
      have hd : s.data.toList.drop i = s.data.toList[i]'hlt :: s.data.toList.drop (i + 1) := List.drop_eq_getElem_cons hlt
      have hbc : (byteAt s i == c) = decide (s.data.toList[i]'hlt = C) := by
        rw [hb, Bool.eq_iff_iff, beq_iff_eq, decide_eq_true_eq, ← hC, ← UInt8.toNat_inj]
        have hlt2 := (s.data.toList[i]'hlt).toNat_lt
        show _ ↔ (s.data.toList[i]'hlt).toNat = c.toNat % 256
        omega
      rw [hd] at he
      refine br_yes ⟨by omega, by omega⟩ (br_intro (fun g3 => br_yes ⟨by omega, by omega, by omega⟩ (br_yes (by show (ys.length + 1) * 16 ≤ _; omega) ?_)) (fun g3 => ?_))
      · rw [hbc] at g3
        have g3 := of_decide_eq_true g3
        refine next (by omega) (i + 1, ys ++ [(s.extract q i, ())]) ⟨fun _ => ⟨Nat.le_refl _, ?_⟩, fun h => by omega, by show (ys ++ [(s.extract q i, ())]).length ≤ _; rw [List.length_append]; show ys.length + 1 ≤ _; omega⟩
        show txt (ys ++ [(s.extract q i, ())]) ++ consW (wrd s.data.toList (i + 1) (i + 1)) _ = _
        rw [wrd_self, consW_nil _ (splitW_ne _ _), ← he, splitW, if_pos g3]
        unfold txt
        rw [List.map_append, List.map_cons, List.map_nil, ext_wrd]
        show _ = _ ++ ((wrd s.data.toList q i ++ []) :: splitW C (List.drop (i + 1) s.data.toList))
        rw [List.append_nil, List.append_assoc]
        rfl
      · rw [hbc] at g3
        have g3 := of_decide_eq_false g3
        refine next (by omega) (q, ys) ⟨fun _ => ⟨by show q ≤ i + 1; omega, ?_⟩, fun h => by omega, by show ys.length ≤ _; omega⟩
        show txt ys ++ consW (wrd s.data.toList q (i + 1)) _ = _
        rw [wrd_next _ hq hlt, ← consW_consW _ _ _ (splitW_ne _ _), ← he, splitW, if_neg g3]
    · have e : i = s.size + 1 := by omega
      show _ = _
      rw [show ys = cutL s c from txt_inv (by rw [hC]; exact h2 e)]
  · exact h.elim
noncomputable def E53 : Env := Ef.of Tryd.f53
noncomputable def G53 : Gk := gk []
noncomputable def lp53 (n : Nat) : Code := (loopOf n (codeOf Tryd.f53)).getD .skip
noncomputable def ct53 (L : Lp) (R : Option Res → Prop) (n : Nat) : Kt := contOf E53 G53 L n (codeOf Tryd.f53) (endK E53 Tryd.f53.results.toList R)
noncomputable def rk53 (L : Lp) (R : Option Res → Prop) (n : Nat) (N : St → Prop) : Kt := rk (jof E53 (lp53 n)) N (ct53 L R n)
noncomputable def LOOP53 (L : Lp) (R : Option Res → Prop) (n : Nat) (st : St) : Prop := L (lp53 n) st (ct53 L R n)
theorem hg53 : HG Tryd.prog G53 := hg_nil
theorem okf53 : Ok Tryd.prog E53 := okf.of Tryd.f53
theorem e53 (L : Lp) (R : Option Res → Prop) (s : ByteArray) : (bodyP Ef G53 L Tryd.f53 [.val (.string s)] [] R) = (
    br (decide ((↑s.size : Int) > 0)) (br (decide ((0 : Int) ≤ 0 ∧ 0 < (↑s.size : Int))) (br (byteAt s 0 == 45) (br (decide ((0 : Int) ≤ 1 ∧ 1 ≤ (↑s.size : Int) ∧ (↑s.size : Int) ≤ (↑s.size : Int))) (br ((↑(s.extract 1 (↑s.size : Int).toNat).size : Int) == 0) (R (some { av := AV.tup [vI 0, vB false], obs := [], outs := [] })) (br (decide ((↑(s.extract 1 (↑s.size : Int).toNat).size : Int) > 17)) (R (some { av := AV.tup [vI 0, vB false], obs := [], outs := [] })) (br (decide ((0 : Int) ≤ 0 ∧ 0 < (↑(s.extract 1 (↑s.size : Int).toNat).size : Int))) (br (byteAt (s.extract 1 (↑s.size : Int).toNat) 0 == 48) (br (decide ((↑(s.extract 1 (↑s.size : Int).toNat).size : Int) > 1)) (R (some { av := AV.tup [vI 0, vB false], obs := [], outs := [] })) (br (byteAt s 0 == 45) (R (some { av := AV.tup [vI 0, vB false], obs := [], outs := [] })) (LOOP53 L R 8 { tm := [vS (s.extract 1 (↑s.size : Int).toNat), vJ, vJ, vJ, vB (byteAt s 0 == 45), vI 0, vI 0, vJ, vJ, vJ, vJ, vJ, vJ, vJ, vJ, vJ, vJ, vJ, vJ, vJ, vJ, vJ, vJ, vJ, vJ, vJ, vJ, vJ, vJ, vJ, vJ, vJ, vJ, vJ, vJ, vJ, vJ, vJ, vJ, vJ, vJ, vJ, vJ, vJ, vJ, vJ, vJ, vJ, vJ, vJ, vJ, vJ, vJ, vJ, vJ, vJ, vJ, vJ, vJ, vJ, vJ, vJ, vJ, vJ, vJ, vJ, vJ], ob := [], nx := 1000000, ps := [] }))) (LOOP53 L R 8 { tm := [vS (s.extract 1 (↑s.size : Int).toNat), vJ, vJ, vJ, vB (byteAt s 0 == 45), vI 0, vI 0, vJ, vJ, vJ, vJ, vJ, vJ, vJ, vJ, vJ, vJ, vJ, vJ, vJ, vJ, vJ, vJ, vJ, vJ, vJ, vJ, vJ, vJ, vJ, vJ, vJ, vJ, vJ, vJ, vJ, vJ, vJ, vJ, vJ, vJ, vJ, vJ, vJ, vJ, vJ, vJ, vJ, vJ, vJ, vJ, vJ, vJ, vJ, vJ, vJ, vJ, vJ, vJ, vJ, vJ, vJ, vJ, vJ, vJ, vJ, vJ], ob := [], nx := 1000000, ps := [] })) False))) False) (br ((↑s.size : Int) == 0) (R (some { av := AV.tup [vI 0, vB false], obs := [], outs := [] })) (br (decide ((↑s.size : Int) > 17)) (R (some { av := AV.tup [vI 0, vB false], obs := [], outs := [] })) (br (decide ((0 : Int) ≤ 0 ∧ 0 < (↑s.size : Int))) (br (byteAt s 0 == 48) (br (decide ((↑s.size : Int) > 1)) (R (some { av := AV.tup [vI 0, vB false], obs := [], outs := [] })) (br (byteAt s 0 == 45) (R (some { av := AV.tup [vI 0, vB false], obs := [], outs := [] })) (LOOP53 L R 8 { tm := [vS s, vJ, vJ, vJ, vB (byteAt s 0 == 45), vI 0, vI 0, vJ, vJ, vJ, vJ, vJ, vJ, vJ, vJ, vJ, vJ, vJ, vJ, vJ, vJ, vJ, vJ, vJ, vJ, vJ, vJ, vJ, vJ, vJ, vJ, vJ, vJ, vJ, vJ, vJ, vJ, vJ, vJ, vJ, vJ, vJ, vJ, vJ, vJ, vJ, vJ, vJ, vJ, vJ, vJ, vJ, vJ, vJ, vJ, vJ, vJ, vJ, vJ, vJ, vJ, vJ, vJ, vJ, vJ, vJ, vJ], ob := [], nx := 1000000, ps := [] }))) (LOOP53 L R 8 { tm := [vS s, vJ, vJ, vJ, vB (byteAt s 0 == 45), vI 0, vI 0, vJ, vJ, vJ, vJ, vJ, vJ, vJ, vJ, vJ, vJ, vJ, vJ, vJ, vJ, vJ, vJ, vJ, vJ, vJ, vJ, vJ, vJ, vJ, vJ, vJ, vJ, vJ, vJ, vJ, vJ, vJ, vJ, vJ, vJ, vJ, vJ, vJ, vJ, vJ, vJ, vJ, vJ, vJ, vJ, vJ, vJ, vJ, vJ, vJ, vJ, vJ, vJ, vJ, vJ, vJ, vJ, vJ, vJ, vJ, vJ], ob := [], nx := 1000000, ps := [] })) False)))) False) (br ((↑s.size : Int) == 0) (R (some { av := AV.tup [vI 0, vB false], obs := [], outs := [] })) (br (decide ((↑s.size : Int) > 17)) (R (some { av := AV.tup [vI 0, vB false], obs := [], outs := [] })) (br (decide ((0 : Int) ≤ 0 ∧ 0 < (↑s.size : Int))) (br (byteAt s 0 == 48) (br (decide ((↑s.size : Int) > 1)) (R (some { av := AV.tup [vI 0, vB false], obs := [], outs := [] })) (LOOP53 L R 8 { tm := [vS s, vJ, vJ, vJ, vB false, vI 0, vI 0, vJ, vJ, vJ, vJ, vJ, vJ, vJ, vJ, vJ, vJ, vJ, vJ, vJ, vJ, vJ, vJ, vJ, vJ, vJ, vJ, vJ, vJ, vJ, vJ, vJ, vJ, vJ, vJ, vJ, vJ, vJ, vJ, vJ, vJ, vJ, vJ, vJ, vJ, vJ, vJ, vJ, vJ, vJ, vJ, vJ, vJ, vJ, vJ, vJ, vJ, vJ, vJ, vJ, vJ, vJ, vJ, vJ, vJ, vJ, vJ], ob := [], nx := 1000000, ps := [] })) (LOOP53 L R 8 { tm := [vS s, vJ, vJ, vJ, vB false, vI 0, vI 0, vJ, vJ, vJ, vJ, vJ, vJ, vJ, vJ, vJ, vJ, vJ, vJ, vJ, vJ, vJ, vJ, vJ, vJ, vJ, vJ, vJ, vJ, vJ, vJ, vJ, vJ, vJ, vJ, vJ, vJ, vJ, vJ, vJ, vJ, vJ, vJ, vJ, vJ, vJ, vJ, vJ, vJ, vJ, vJ, vJ, vJ, vJ, vJ, vJ, vJ, vJ, vJ, vJ, vJ, vJ, vJ, vJ, vJ, vJ, vJ], ob := [], nx := 1000000, ps := [] })) False)))) := by kernel_rfl
def st53 (t : ByteArray) (g : Bool) (n i : Int) : St :=  ⟨[.val (.string t), vJ, vJ, vJ, .val (.bool g), .val (.int .i64 n), .val (.int .i64 i), vJ, vJ, vJ, vJ, vJ, vJ, vJ, vJ, vJ, vJ, vJ, vJ, vJ, vJ, vJ, vJ, vJ, vJ, vJ, vJ, vJ, vJ, vJ, vJ, vJ, vJ, vJ, vJ, vJ, vJ, vJ, vJ, vJ, vJ, vJ, vJ, vJ, vJ, vJ, vJ, vJ, vJ, vJ, vJ, vJ, vJ, vJ, vJ, vJ, vJ, vJ, vJ, vJ, vJ, vJ, vJ, vJ, vJ, vJ, vJ], [], 1000000, []⟩
theorem b53 (L : Lp) (R : Option Res → Prop) (N : St → Prop) (t : ByteArray) (g : Bool) (n i : Int) : (evP E53 G53 L (lp53 8) (st53 t g n i) (rk53 L R 8 N)) = (
    br (decide (i < (↑t.size : Int))) (br (decide (0 ≤ i ∧ i < (↑t.size : Int))) (br (decide (byteAt t i < 48)) (R (some { av := AV.tup [vI 0, vB false], obs := [], outs := [] })) (br (decide (0 ≤ i ∧ i < (↑t.size : Int))) (br (decide (byteAt t i > 57)) (R (some { av := AV.tup [vI 0, vB false], obs := [], outs := [] })) (br (decide (0 ≤ i ∧ i < (↑t.size : Int))) (N { tm := [vS t, vJ, vJ, vJ, vB g, vI (IntKind.i64.wrap (IntKind.i64.wrap (n * 10) + IntKind.i64.wrap (IntKind.u8.wrap (byteAt t i - 48)))), vI (IntKind.i64.wrap (i + 1)), vJ, vJ, vJ, vJ, vJ, vJ, vJ, vJ, vJ, vJ, vJ, vJ, vJ, vJ, vJ, vJ, vJ, vJ, vJ, vJ, vJ, vJ, vJ, vJ, vJ, vJ, vJ, vJ, vJ, vJ, vJ, vJ, vJ, vJ, vJ, vJ, vJ, vJ, vJ, vJ, vJ, vJ, vJ, vJ, vJ, vJ, vJ, vJ, vJ, vJ, vJ, vJ, vJ, vJ, vJ, vJ, vJ, vJ, vJ, vJ], ob := [], nx := 1000000, ps := [] }) False)) False)) False) (br g (R (some { av := AV.tup [vI (IntKind.i64.wrap (0 - n)), vB true], obs := [], outs := [] })) (R (some { av := AV.tup [vI n, vB true], obs := [], outs := [] })))) := by kernel_rfl
theorem numV_bd (t : ByteArray) : ∀ i, (∀ j, j < i → digB t j = true) → 0 ≤ numV t i ∧ numV t i < (10 : Int) ^ i
  | 0, _ => by simp [numV]
  | i + 1, h => by
    have ih := numV_bd t i (fun j hj => h j (by omega))
    have hd := h i (by omega)
    unfold digB at hd
    simp only [Bool.and_eq_true, decide_eq_true_eq] at hd
    rw [numV, Int.pow_succ]
    omega
theorem pow17 {i : Nat} (h : i ≤ 17) : (10 : Int) ^ i ≤ 100000000000000000 := by
  have : (10 : Nat) ^ i ≤ 10 ^ 17 := Nat.pow_le_pow_right (by decide) h
  have e : ((10 ^ i : Nat) : Int) = (10 : Int) ^ i := by simp
  omega
theorem loop78 {C : Cx} {R : Option Res → Prop} (t : ByteArray) (g : Bool) (h17 : t.size ≤ 17)
    (hT : allB t.size (digB t) = true → R (some ⟨.tup [.val (.int .i64 (match g with | true => - numV t t.size | false => numV t t.size)), .val (.bool true)], [], []⟩))
    (hF : allB t.size (digB t) = false → R (some ⟨.tup [.val (.int .i64 0), .val (.bool false)], [], []⟩)) : LOOP53 (LoopOk Tryd.prog C) R 8 (st53 t g 0 0) := by
  refine loopUp okf53 hg53 (fun i (n : Int) => st53 t g n i) t.size (fun i n => n = numV t i ∧ ∀ j, j < i → digB t j = true) (fun N i n hi ⟨hn, hall⟩ next => ?_) 0 ⟨rfl, fun j hj => by omega⟩
  show evP E53 G53 _ (lp53 8) (st53 t g n i) (rk53 _ _ 8 _)
  have hb := numV_bd t i hall
  have hp := pow17 (i := i) (by omega)
  have hby := byteAt_lt t i
  rw [b53, wrap_id (n := (i : Int) + 1) (by omega) (by omega)]
  refine br_dec (fun h1 => br_yes ⟨by omega, h1⟩ (br_dec (fun h2 => ?_) (fun h2 => br_yes ⟨by omega, h1⟩ (br_dec (fun h3 => ?_) (fun h3 => br_yes ⟨by omega, h1⟩ ?_))))) (fun h1 => ?_)
  · refine hF (allB_f (i := i) (by omega) ?_)
    unfold digB
    rw [decide_eq_false (show ¬ 48 ≤ byteAt t i by omega)]
    rfl
  · refine hF (allB_f (i := i) (by omega) ?_)
    unfold digB
    rw [decide_eq_false (show ¬ byteAt t i ≤ 57 by omega), Bool.and_false]
  · have e1 : IntKind.u8.wrap (byteAt t i - 48) = byteAt t i - 48 := by rw [IntKind.wrap_u8]; omega
    rw [e1, wrap_id (n := byteAt t i - 48) (by omega) (by omega), wrap_id (n := n * 10) (by omega) (by omega), wrap_id (n := n * 10 + (byteAt t i - 48)) (by omega) (by omega)]
    refine next (by omega) _ ⟨by rw [numV, hn], fun j hj => ?_⟩
    by_cases e : j < i
    · exact hall j e
    · have : j = i := by omega
      rw [this]
      unfold digB
      rw [decide_eq_true (show 48 ≤ byteAt t i by omega), decide_eq_true (show byteAt t i ≤ 57 by omega)]
      rfl
  · have e : i = t.size := by omega
    rw [e] at hn hall hb hp
    have hA := hT (allB_t hall)
    rw [wrap_id (n := 0 - n) (by omega) (by omega)]
    refine br_intro (fun h2 => ?_) (fun h2 => ?_)
    · subst h2
      have e2 : 0 - n = - numV t t.size := by omega
      rw [e2]
      exact hA
    · subst h2
      rw [hn]
      exact hA
theorem ext1 (s : ByteArray) : s.extract 1 ((s.size : Int)).toNat = s.extract 1 s.size := by rw [Int.toNat_natCast]
theorem num_f {s : ByteArray} (h : numK s = false) : numN s = 0 := by unfold numN; rw [h]
theorem num_t0 {s : ByteArray} (h : numK s = true) (hn : negS s = false) : numN s = numV s s.size := by unfold numN; rw [h, hn]
theorem num_t1 {s : ByteArray} (h : numK s = true) (hn : negS s = true) : numN s = - numV (s.extract 1 s.size) (s.extract 1 s.size).size := by unfold numN; rw [h, hn]
theorem numK_0 {s : ByteArray} (hn : negS s = false) : numK s = numO s false := by unfold numK; rw [hn]
theorem numK_1 {s : ByteArray} (hn : negS s = true) : numK s = numO (s.extract 1 s.size) true := by unfold numK; rw [hn]
theorem numO_z {t : ByteArray} {g : Bool} (h : t.size = 0) : numO t g = false := by unfold numO; rw [decide_eq_false (show ¬ 1 ≤ t.size by omega)]; rfl
theorem numO_l {t : ByteArray} {g : Bool} (h : t.size > 17) : numO t g = false := by unfold numO; rw [decide_eq_false (show ¬ t.size ≤ 17 by omega)]; simp
theorem numO_0 {t : ByteArray} {g : Bool} (h : (byteAt t 0 == 48) = true) (h2 : (decide (t.size > 1) || g) = true) : numO t g = false := by unfold numO; rw [h, h2]; simp
theorem numO_d {t : ByteArray} {g : Bool} (h : allB t.size (digB t) = false) : numO t g = false := by unfold numO; rw [h]; simp
theorem numO_t {t : ByteArray} {g : Bool} (h1 : 1 ≤ t.size) (h2 : t.size ≤ 17) (h3 : ((byteAt t 0 == 48) && (decide (t.size > 1) || g)) = false) (h4 : allB t.size (digB t) = true) : numO t g = true := by
  unfold numO
  rw [decide_eq_true h1, decide_eq_true h2, h3, h4]
  rfl
theorem h53 : G1Ok Tryd.prog 53 g53 := by
  intro args obs k h
  unfold g53 at h
  split at h
  · rename_i k s
    obtain ⟨hl, h⟩ := brd h
    refine ⟨_, ctr_fn okf hg53 Tryd.func53 (by kernel_rfl) (by kernel_rfl) (by kernel_rfl) fun C => ?_, h⟩
    rw [e53]
    rw [ext1]
    refine br_dec (fun h1 => br_yes ⟨by omega, h1⟩ (br_intro (fun h2 => br_yes ⟨by omega, by omega, by omega⟩ ?_) (fun h2 => ?_))) (fun h1 => ?_)
    · have hn : negS s = true := by unfold negS; rw [decide_eq_true h1, h2]; rfl
      generalize hT : s.extract 1 s.size = t
      have hK : numK s = numO t true := by rw [numK_1 hn, hT]
      have fl : numO t true = false → (some ⟨.tup [vI 0, vB false], [], []⟩ : Option Res) = some ⟨.tup [.val (.int .i64 (numN s)), .val (.bool (numK s))], [], []⟩ := by
        intro hf
        rw [num_f (hK.trans hf), hK, hf]
      refine br_intro (fun h3 => fl (numO_z (by have := eq_of_beq h3; omega))) (fun h3 => br_dec (fun h4 => fl (numO_l (by omega))) (fun h4 => ?_))
      have h3' : t.size ≠ 0 := by have := beq_eq_false_iff_ne.1 h3; omega
      rw [h2]
      refine br_yes ⟨by omega, by omega⟩ (br_intro (fun h5 => br_dec (fun h6 => fl (numO_0 h5 (by rw [Bool.or_true]))) (fun h6 => br_t rfl (fl (numO_0 h5 (by rw [Bool.or_true]))))) (fun h5 => ?_))
      refine loop78 t true (by omega) (fun ha => ?_) (fun ha => fl (numO_d ha))
      have hO := numO_t (g := true) (by omega) (by omega) (by rw [h5]; rfl) ha
      show _ = _
      rw [num_t1 (hK.trans hO) hn, hK, hO, hT]
    · have hn : negS s = false := by unfold negS; rw [h2, Bool.and_false]
      have hK : numK s = numO s false := numK_0 hn
      have fl : numO s false = false → (some ⟨.tup [vI 0, vB false], [], []⟩ : Option Res) = some ⟨.tup [.val (.int .i64 (numN s)), .val (.bool (numK s))], [], []⟩ := by
        intro hf
        rw [num_f (hK.trans hf), hK, hf]
      rw [h2]
      have go : ((byteAt s 0 == 48) && (decide (s.size > 1) || false)) = false → ¬ (s.size : Int) > 17 → LOOP53 (LoopOk Tryd.prog C) (fun o => o = some ⟨.tup [.val (.int .i64 (numN s)), .val (.bool (numK s))], [], []⟩) 8 (st53 s false 0 0) := by
        intro h5 h4
        refine loop78 s false (by omega) (fun ha => ?_) (fun ha => fl (numO_d ha))
        have hO := numO_t (g := false) (by omega) (by omega) h5 ha
        show _ = _
        rw [num_t0 (hK.trans hO) hn, hK, hO]
      refine br_intro (fun h3 => by have := eq_of_beq h3; omega) (fun h3 => br_dec (fun h4 => fl (numO_l (by omega))) (fun h4 => br_yes ⟨by omega, by omega⟩ (br_intro (fun h5 => br_dec (fun h6 => fl (numO_0 h5 (by rw [decide_eq_true (show s.size > 1 by omega)]; rfl))) (fun h6 => br_f rfl (go (by rw [decide_eq_false (show ¬ s.size > 1 by omega)]; simp) h4))) (fun h5 => go (by rw [h5]; rfl) h4))))
    · have hn : negS s = false := by unfold negS; rw [decide_eq_false h1]; rfl
      have hK : numK s = numO s false := numK_0 hn
      have hf : numO s false = false := numO_z (by omega)
      refine br_intro (fun h3 => ?_) (fun h3 => by have := beq_eq_false_iff_ne.1 h3; omega)
      show _ = _
      rw [num_f (hK.trans hf), hK, hf]
  · exact h.elim
end Go.Proofs.YtkjnijddbiconaaDoor.Ev
