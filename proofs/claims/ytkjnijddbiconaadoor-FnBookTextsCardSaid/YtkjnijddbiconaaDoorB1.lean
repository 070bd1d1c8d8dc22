/- Books that are turned. -/
import Derived.Test.YtkjnijddbiconaaDoorD15
import Derived.Test.YtkjnijddbiconaaDoorR0
import Derived.Test.YtkjnijddbiconaaDoorEvC
namespace Go.Proofs.YtkjnijddbiconaaDoor.Ev
open Go
set_option linter.unusedVariables false
set_option linter.unusedSimpArgs false
set_option maxRecDepth 100000
def g84 : G1
  | [.agg [.rsl [.str, .int .i64, .str, .str, .str, .str, .str, .str, .str, .str, .str] xs]], [], k => br (decide (xs.length ≤ 1048576)) (k ⟨.agg [.ows 0], [.row kb xs], []⟩) False
  | _, _, _ => False
def nwR (xs : List (Elem kb)) (e : Elem kb) : List (Elem kb) × Int := match nameOk e.1 with
  | false => (xs, 5)
  | true => match okB xs e.1 with
    | true => (xs, 2)
    | false => match (xs.length : Int) == 6 with
      | true => (xs, 4)
      | false => (xs.take (lnB xs e.1) ++ [e] ++ xs.drop (lnB xs e.1), 0)
def g123 : G1
  | [.agg [.ows 0], .agg us], [.row [.str, .int .i64, .str, .str, .str, .str, .str, .str, .str, .str, .str] xs], k => match elemOf kb us with
    | some e => br (decide (xs.length ≤ 100) && decide (e.1.size ≤ 1000000)) (k ⟨.tup [.agg [.ows 0], .val (.int .i64 (nwR xs e).2)], [.row kb (nwR xs e).1], [none]⟩) False
    | none => False
  | _, _, _ => False
def ptR (xs : List (Elem kb)) (q i : Int) (t : ByteArray) : List (Elem kb) × Int := match decide (i < 0) || (decide (i ≥ 8) || decide ((t.size : Int) > 24)) with
  | true => (xs, 5)
  | false => match (atB xs q.toNat).2.1 != 1 with
    | true => (xs, 3)
    | false => (updR kb xs q.toNat (3 + i.toNat) [.string t], 0)
def g125 : G1
  | [.agg [.ows 0], .val (.int .i64 q), .agg [.val (.int .i64 o), .val (.string a), .val (.string c), .val (.int .i64 i), .val (.string t)]], [.row [.str, .int .i64, .str, .str, .str, .str, .str, .str, .str, .str, .str] xs], k =>
    br (decide (0 ≤ q ∧ q < (xs.length : Int))) (k ⟨.tup [.agg [.ows 0], .val (.int .i64 (ptR xs q i t).2)], [.row kb (ptR xs q i t).1], [none]⟩) False
  | _, _, _ => False
def blV (e : Elem kb) : List Value := [.string e.2.2.2.1, .string e.2.2.2.2.1, .string e.2.2.2.2.2.1, .string e.2.2.2.2.2.2.1, .string e.2.2.2.2.2.2.2.1, .string e.2.2.2.2.2.2.2.2.1, .string e.2.2.2.2.2.2.2.2.2.1, .string e.2.2.2.2.2.2.2.2.2.2.1]
def bkR (xs : List (Elem kb)) (q : Int) (a : ByteArray) : List (Elem kb) × Int := match okB xs a with
  | false => (xs, 1)
  | true => match (atB xs q.toNat).2.1 != 1 || ((atB xs (lnB xs a)).2.1 != 2 || !strEq (atB xs (lnB xs a)).2.2.1 (atB xs q.toNat).1) with
    | true => (xs, 3)
    | false => (updR kb xs q.toNat 3 (blV (atB xs (lnB xs a))), 0)
def g126 : G1
  | [.agg [.ows 0], .val (.int .i64 q), .val (.string a)], [.row [.str, .int .i64, .str, .str, .str, .str, .str, .str, .str, .str, .str] xs], k =>
    br (decide (0 ≤ q ∧ q < (xs.length : Int)) && decide (xs.length ≤ 1000)) (k ⟨.tup [.agg [.ows 0], .val (.int .i64 (bkR xs q a).2)], [.row kb (bkR xs q a).1], [none]⟩) False
  | _, _, _ => False
def busy (xs : List (Elem kb)) (q : Int) : Bool := anyB xs.length fun j => strEq (atB xs j).2.2.1 (atB xs q.toNat).1
def g124 : G1
  | [.agg [.ows 0], .val (.int .i64 q)], [.row [.str, .int .i64, .str, .str, .str, .str, .str, .str, .str, .str, .str] xs], k =>
    br (decide (0 ≤ q ∧ q < (xs.length : Int)) && decide (xs.length ≤ 1000)) (br (busy xs q) (k ⟨.tup [.agg [.ows 0], .val (.int .i64 6)], [.row kb xs], [none]⟩) (k ⟨.tup [.agg [.ows 0], .val (.int .i64 0)], [.row kb (xs.take q.toNat ++ xs.drop (q.toNat + 1)), .row kb xs], [some 1]⟩)) False
  | _, _, _ => False
def lnW : List (Elem ks) := [(⟨#[97]⟩, ()), (⟨#[98]⟩, ()), (⟨#[99]⟩, ()), (⟨#[100]⟩, ()), (⟨#[101]⟩, ()), (⟨#[102]⟩, ()), (⟨#[103]⟩, ()), (⟨#[118, 111, 108]⟩, ())]
def nmT (b : List (Elem ku)) (p : Int) : ByteArray := at1 lnW (pk b p 8).toNat
def g127 : G1
  | [.ptr 0 0], [.box [.rsl [.int .u8] b, .val (.int .i64 p)]], k => br (okY b && (decide (b.length ≤ 1048576) && decide (0 ≤ p ∧ p ≤ 1000000))) (k ⟨.val (.string (nmT b p)), [.box [.rsl ku b, .val (.int .i64 (p + 1))]], [some 0]⟩) False
  | _, _, _ => False
def mnyF : Nat → ByteArray → ByteArray → Nat → ByteArray
  | 0, o, _, _ => o
  | f + 1, o, s, n => match decide (0 < n) with
    | false => o
    | true => match n % 2 == 1 with
      | true => mnyF f (o ++ s) (s ++ s) (n / 2)
      | false => mnyF f o (s ++ s) (n / 2)
def mny (s : ByteArray) (n : Int) : ByteArray := mnyF (n.toNat + 1) ⟨#[]⟩ s n.toNat
def g59 : G1
  | [.val (.string s), .val (.int .i64 n)], [], k => br (decide (s.size ≤ 10) && decide (0 ≤ n ∧ n ≤ 100)) (k ⟨.val (.string (mny s n)), [], []⟩) False
  | _, _, _ => False
theorem lnB_le (xs : List (Elem kb)) (t : ByteArray) : lnB xs t ≤ xs.length := ln_le _ _
theorem okB_lt {xs : List (Elem kb)} {t : ByteArray} (h : okB xs t = true) : lnB xs t < xs.length := by
  unfold okB at h
  rw [Bool.and_eq_true, decide_eq_true_eq] at h
  exact h.1
noncomputable def G84 : Gk := gk []
theorem hg84 : HG Tryd.prog G84 := hg_nil
theorem e84 (L : Lp) (R : Option Res → Prop) (xs : List (Elem kb)) : (bodyP Er G84 L Tryd.f84 [.agg [.rsl kb xs]] [] R) = (
    br (decide ((0 + xs.length) * 168 ≤ 140737488355328)) (R (some { av := AV.agg [AV.ows 0], obs := [AO.row kb ([] ++ xs)], outs := [] })) False) := by kernel_rfl
theorem h84 : G1Ok Tryd.prog 84 g84 := by
  intro args obs k h
  unfold g84 at h
  split at h
  · rename_i k xs
    obtain ⟨hl, h⟩ := brd h
    refine ⟨_, ctr_fn okr hg84 Tryd.func84 (by kernel_rfl) (by kernel_rfl) (by kernel_rfl) fun C => ?_, h⟩
    rw [e84]
    exact br_yes (by omega) rfl
  · exact h.elim
noncomputable def G123 : Gk := gk [(68, g68), (43, g43)]
theorem hg123 : HG Tryd.prog G123 := (hg_cons h68 (hg_cons h43 hg_nil))
theorem e123 (L : Lp) (R : Option Res → Prop) (xs : List (Elem kb)) (e : Elem kb) : (bodyP Er G123 L Tryd.f123 [.agg [.ows 0], .agg (setC e)] [.row kb xs] R) = (
    br (decide (xs.length ≤ 1048576)) (br (decide (ByteArray.size e.fst ≤ 1048576)) (br (!nameOk e.fst) (R (some { av := AV.tup [AV.agg [AV.ows 0], vI 5], obs := [AO.row kb xs], outs := [none] })) (br (okB xs e.fst) (R (some { av := AV.tup [AV.agg [AV.ows 0], vI 2], obs := [AO.row kb xs], outs := [none] })) (br ((↑xs.length : Int) == 6) (R (some { av := AV.tup [AV.agg [AV.ows 0], vI 4], obs := [AO.row kb xs], outs := [none] })) (br (decide (0 ≤ (↑(lnB xs e.fst) : Int) ∧ (↑(lnB xs e.fst) : Int) ≤ (↑xs.length : Int) ∧ (↑xs.length : Int) ≤ (↑xs.length : Int) ∧ (↑xs.length : Int) ≤ (↑xs.length : Int))) (br (decide ((0 + (List.take ((↑xs.length : Int) - (↑(lnB xs e.fst) : Int)).toNat (List.drop (↑(lnB xs e.fst) : Int).toNat xs)).length) * 168 ≤ 140737488355328)) (br (decide ((0 : Int) ≤ 0 ∧ 0 ≤ (↑(lnB xs e.fst) : Int) ∧ (↑(lnB xs e.fst) : Int) ≤ (↑xs.length : Int) ∧ (↑xs.length : Int) ≤ (↑xs.length : Int))) (br (decide (((List.take ((↑(lnB xs e.fst) : Int) - 0).toNat (List.drop 0 xs)).length + [e].length) * 168 ≤ 140737488355328)) (br (decide (((List.take ((↑(lnB xs e.fst) : Int) - 0).toNat (List.drop 0 xs) ++ [e]).length + ([] ++ List.take ((↑xs.length : Int) - (↑(lnB xs e.fst) : Int)).toNat (List.drop (↑(lnB xs e.fst) : Int).toNat xs)).length) * 168 ≤ 140737488355328)) (R (some { av := AV.tup [AV.agg [AV.ows 0], vI 0], obs := [AO.row kb (List.take ((↑(lnB xs e.fst) : Int) - 0).toNat (List.drop 0 xs) ++ [e] ++ ([] ++ List.take ((↑xs.length : Int) - (↑(lnB xs e.fst) : Int)).toNat (List.drop (↑(lnB xs e.fst) : Int).toNat xs)))], outs := [none] })) False) False) False) False) False)))) False) False) := by kernel_rfl
noncomputable def E124 : Env := Er.of Tryd.f124
noncomputable def G124 : Gk := gk []
noncomputable def lp124 (n : Nat) : Code := (loopOf n (codeOf Tryd.f124)).getD .skip
noncomputable def ct124 (L : Lp) (R : Option Res → Prop) (n : Nat) : Kt := contOf E124 G124 L n (codeOf Tryd.f124) (endK E124 Tryd.f124.results.toList R)
noncomputable def rk124 (L : Lp) (R : Option Res → Prop) (n : Nat) (N : St → Prop) : Kt := rk (jof E124 (lp124 n)) N (ct124 L R n)
noncomputable def LOOP124 (L : Lp) (R : Option Res → Prop) (n : Nat) (st : St) : Prop := L (lp124 n) st (ct124 L R n)
theorem hg124 : HG Tryd.prog G124 := hg_nil
theorem okf124 : Ok Tryd.prog E124 := okr.of Tryd.f124
theorem e124 (L : Lp) (R : Option Res → Prop) (xs : List (Elem kb)) (q : Int) : (bodyP Er G124 L Tryd.f124 [.agg [.ows 0], .val (.int .i64 q)] [.row kb xs] R) = (
    LOOP124 L R 2 { tm := [vJ, vI q, AV.ptr 1 0, vJ, AV.ptr 2 0, vJ, vI 0, vJ, vJ, vJ, vJ, vJ, vJ, vJ, vJ, vJ, vJ, vJ, vJ, vJ, vJ, vJ, vJ, vJ, vJ, vJ, vJ, vJ, vJ, vJ, vJ, vJ, vJ, vJ, vJ, vJ, vJ, vJ, vJ, vJ, vJ, vJ], ob := [(0, AO.row kb xs), (1, AO.box [AV.ows 0]), (2, AO.box [AV.ows 3]), (3, AO.row kb [])], nx := 1000000, ps := [some 0] }) := by kernel_rfl
noncomputable def G125 : Gk := gk []
theorem hg125 : HG Tryd.prog G125 := hg_nil
theorem e125 (L : Lp) (R : Option Res → Prop) (xs : List (Elem kb)) (q o : Int) (a c : ByteArray) (i : Int) (t : ByteArray) : (bodyP Er G125 L Tryd.f125 [.agg [.ows 0], .val (.int .i64 q), .agg [.val (.int .i64 o), .val (.string a), .val (.string c), .val (.int .i64 i), .val (.string t)]] [.row kb xs] R) = (
    br (decide (i < 0)) (R (some { av := AV.tup [AV.agg [AV.ows 0], vI 5], obs := [AO.row kb xs], outs := [none] })) (br (decide (i ≥ 8)) (R (some { av := AV.tup [AV.agg [AV.ows 0], vI 5], obs := [AO.row kb xs], outs := [none] })) (br (decide ((↑t.size : Int) > 24)) (R (some { av := AV.tup [AV.agg [AV.ows 0], vI 5], obs := [AO.row kb xs], outs := [none] })) (br (decide (0 ≤ q ∧ q < (↑xs.length : Int))) (br ((xs.getD q.toNat (edflt kb)).snd.fst != 1) (R (some { av := AV.tup [AV.agg [AV.ows 0], vI 3], obs := [AO.row kb xs], outs := [none] })) (br (decide (0 ≤ q ∧ q < (↑xs.length : Int))) (br (i == 0) (R (some { av := AV.tup [AV.agg [AV.ows 0], vI 0], obs := [AO.row kb (updR kb xs q.toNat 3 [Value.string t])], outs := [none] })) (br (i == 1) (R (some { av := AV.tup [AV.agg [AV.ows 0], vI 0], obs := [AO.row kb (updR kb xs q.toNat 4 [Value.string t])], outs := [none] })) (br (i == 2) (R (some { av := AV.tup [AV.agg [AV.ows 0], vI 0], obs := [AO.row kb (updR kb xs q.toNat 5 [Value.string t])], outs := [none] })) (br (i == 3) (R (some { av := AV.tup [AV.agg [AV.ows 0], vI 0], obs := [AO.row kb (updR kb xs q.toNat 6 [Value.string t])], outs := [none] })) (br (i == 4) (R (some { av := AV.tup [AV.agg [AV.ows 0], vI 0], obs := [AO.row kb (updR kb xs q.toNat 7 [Value.string t])], outs := [none] })) (br (i == 5) (R (some { av := AV.tup [AV.agg [AV.ows 0], vI 0], obs := [AO.row kb (updR kb xs q.toNat 8 [Value.string t])], outs := [none] })) (br (i == 6) (R (some { av := AV.tup [AV.agg [AV.ows 0], vI 0], obs := [AO.row kb (updR kb xs q.toNat 9 [Value.string t])], outs := [none] })) (br (i == 7) (R (some { av := AV.tup [AV.agg [AV.ows 0], vI 0], obs := [AO.row kb (updR kb xs q.toNat 10 [Value.string t])], outs := [none] })) False)))))))) False)) False)))) := by kernel_rfl
noncomputable def G126 : Gk := gk [(68, g68)]
theorem hg126 : HG Tryd.prog G126 := (hg_cons h68 hg_nil)
theorem e126 (L : Lp) (R : Option Res → Prop) (xs : List (Elem kb)) (q : Int) (a : ByteArray) : (bodyP Er G126 L Tryd.f126 [.agg [.ows 0], .val (.int .i64 q), .val (.string a)] [.row kb xs] R) = (
    br (decide (xs.length ≤ 1048576)) (br (!okB xs a) (R (some { av := AV.tup [AV.agg [AV.ows 0], vI 1], obs := [AO.row kb xs], outs := [none] })) (br (decide (0 ≤ q ∧ q < (↑xs.length : Int))) (br ((xs.getD q.toNat (edflt kb)).snd.fst != 1) (R (some { av := AV.tup [AV.agg [AV.ows 0], vI 3], obs := [AO.row kb xs], outs := [none] })) (br (decide (0 ≤ (↑(lnB xs a) : Int) ∧ (↑(lnB xs a) : Int) < (↑xs.length : Int))) (br ((xs.getD (↑(lnB xs a) : Int).toNat (edflt kb)).snd.fst != 2) (R (some { av := AV.tup [AV.agg [AV.ows 0], vI 3], obs := [AO.row kb xs], outs := [none] })) (br (decide (0 ≤ (↑(lnB xs a) : Int) ∧ (↑(lnB xs a) : Int) < (↑xs.length : Int))) (br (decide (0 ≤ q ∧ q < (↑xs.length : Int))) (br (!strEq (xs.getD (↑(lnB xs a) : Int).toNat (edflt kb)).snd.snd.fst (xs.getD q.toNat (edflt kb)).fst) (R (some { av := AV.tup [AV.agg [AV.ows 0], vI 3], obs := [AO.row kb xs], outs := [none] })) (br (decide (0 ≤ (↑(lnB xs a) : Int) ∧ (↑(lnB xs a) : Int) < (↑xs.length : Int))) (br (decide (0 ≤ q ∧ q < (↑xs.length : Int))) (R (some { av := AV.tup [AV.agg [AV.ows 0], vI 0], obs := [AO.row kb (updR kb xs q.toNat 3 [Value.string (xs.getD (↑(lnB xs a) : Int).toNat (edflt kb)).snd.snd.snd.fst, Value.string (xs.getD (↑(lnB xs a) : Int).toNat (edflt kb)).snd.snd.snd.snd.fst, Value.string (xs.getD (↑(lnB xs a) : Int).toNat (edflt kb)).snd.snd.snd.snd.snd.fst, Value.string (xs.getD (↑(lnB xs a) : Int).toNat (edflt kb)).snd.snd.snd.snd.snd.snd.fst, Value.string (xs.getD (↑(lnB xs a) : Int).toNat (edflt kb)).snd.snd.snd.snd.snd.snd.snd.fst, Value.string (xs.getD (↑(lnB xs a) : Int).toNat (edflt kb)).snd.snd.snd.snd.snd.snd.snd.snd.fst, Value.string (xs.getD (↑(lnB xs a) : Int).toNat (edflt kb)).snd.snd.snd.snd.snd.snd.snd.snd.snd.fst, Value.string (xs.getD (↑(lnB xs a) : Int).toNat (edflt kb)).snd.snd.snd.snd.snd.snd.snd.snd.snd.snd.fst])], outs := [none] })) False) False)) False) False)) False)) False)) False) := by kernel_rfl
noncomputable def G127 : Gk := gk [(35, g35)]
theorem hg127 : HG Tryd.prog G127 := (hg_cons h35 hg_nil)
theorem e127 (L : Lp) (R : Option Res → Prop) (b : List (Elem [.int .u8])) (p : Int) : (bodyP Er G127 L Tryd.f127 [.ptr 0 0] [.box [.rsl [.int .u8] b, .val (.int .i64 p)]] R) = (
    br (okY b && (decide (b.length ≤ 1048576) && (decide (0 ≤ p ∧ p ≤ 1000000) && true))) (R (some { av := vS (at1 [({ data := #[97] }, ()), ({ data := #[98] }, ()), ({ data := #[99] }, ()), ({ data := #[100] }, ()), ({ data := #[101] }, ()), ({ data := #[102] }, ()), ({ data := #[103] }, ()), ({ data := #[118, 111, 108] }, ())] (pk b p 8).toNat), obs := [AO.box [AV.rsl ku b, vI (p + 1)]], outs := [some 0] })) False) := by kernel_rfl
noncomputable def E59 : Env := Er.of Tryd.f59
noncomputable def G59 : Gk := gk []
noncomputable def lp59 (n : Nat) : Code := (loopOf n (codeOf Tryd.f59)).getD .skip
noncomputable def ct59 (L : Lp) (R : Option Res → Prop) (n : Nat) : Kt := contOf E59 G59 L n (codeOf Tryd.f59) (endK E59 Tryd.f59.results.toList R)
noncomputable def rk59 (L : Lp) (R : Option Res → Prop) (n : Nat) (N : St → Prop) : Kt := rk (jof E59 (lp59 n)) N (ct59 L R n)
noncomputable def LOOP59 (L : Lp) (R : Option Res → Prop) (n : Nat) (st : St) : Prop := L (lp59 n) st (ct59 L R n)
theorem hg59 : HG Tryd.prog G59 := hg_nil
theorem okf59 : Ok Tryd.prog E59 := okr.of Tryd.f59
theorem e59 (L : Lp) (R : Option Res → Prop) (s : ByteArray) (n : Int) : (bodyP Er G59 L Tryd.f59 [.val (.string s), .val (.int .i64 n)] [] R) = (
    LOOP59 L R 2 { tm := [vS s, vI n, vJ, vJ, vJ, vS { data := #[] }, vJ, vJ, vJ, vJ, vJ, vJ, vJ, vJ, vJ, vJ, vJ, vJ, vJ, vJ], ob := [], nx := 1000000, ps := [] }) := by kernel_rfl
def st59 (s o : ByteArray) (n : Int) : St :=  ⟨[.val (.string s), .val (.int .i64 n), vJ, vJ, vJ, .val (.string o), vJ, vJ, vJ, vJ, vJ, vJ, vJ, vJ, vJ, vJ, vJ, vJ, vJ, vJ], [], 1000000, []⟩
theorem b59 (L : Lp) (R : Option Res → Prop) (N : St → Prop) (s o : ByteArray) (n : Int) : (evP E59 G59 L (lp59 2) (st59 s o n) (rk59 L R 2 N)) = (
    br (decide (n > 0)) (br (n.tmod 2 == 1) (br (decide (o.size + s.size ≤ 9223372036854775807)) (br (decide (s.size + s.size ≤ 9223372036854775807)) (N { tm := [vS (s ++ s), vI (IntKind.i64.wrap (n.tdiv 2)), vJ, vJ, vJ, vS (o ++ s), vJ, vJ, vJ, vJ, vJ, vJ, vJ, vJ, vJ, vJ, vJ, vJ, vJ, vJ], ob := [], nx := 1000000, ps := [] }) False) False) (br (decide (s.size + s.size ≤ 9223372036854775807)) (N { tm := [vS (s ++ s), vI (IntKind.i64.wrap (n.tdiv 2)), vJ, vJ, vJ, vS o, vJ, vJ, vJ, vJ, vJ, vJ, vJ, vJ, vJ, vJ, vJ, vJ, vJ, vJ], ob := [], nx := 1000000, ps := [] }) False)) (R (some { av := vS o, obs := [], outs := [] }))) := by kernel_rfl
def st124 (xs : List (Elem kb)) (q i : Int) : St :=  ⟨[vJ, .val (.int .i64 q), AV.ptr 1 0, vJ, AV.ptr 2 0, vJ, .val (.int .i64 i), vJ, vJ, vJ, vJ, vJ, vJ, vJ, vJ, vJ, vJ, vJ, vJ, vJ, vJ, vJ, vJ, vJ, vJ, vJ, vJ, vJ, vJ, vJ, vJ, vJ, vJ, vJ, vJ, vJ, vJ, vJ, vJ, vJ, vJ, vJ], [(0, .row kb xs), (1, AO.box [AV.ows 0]), (2, AO.box [AV.ows 3]), (3, AO.row kb [])], 1000000, [some 0]⟩
theorem b124 (L : Lp) (R : Option Res → Prop) (N : St → Prop) (xs : List (Elem kb)) (q i : Int) : (evP E124 G124 L (lp124 2) (st124 xs q i) (rk124 L R 2 N)) = (
    br (decide (i < (↑xs.length : Int))) (br (decide (0 ≤ i ∧ i < (↑xs.length : Int))) (br (decide (0 ≤ q ∧ q < (↑xs.length : Int))) (br (strEq (xs.getD i.toNat (edflt kb)).snd.snd.fst (xs.getD q.toNat (edflt kb)).fst) (R (some { av := AV.tup [AV.agg [AV.ows 0], vI 6], obs := [AO.row kb xs], outs := [none] })) (N { tm := [vJ, vI q, AV.ptr 1 0, vJ, AV.ptr 2 0, vJ, vI (IntKind.i64.wrap (i + 1)), vJ, vJ, vJ, vJ, vJ, vJ, vJ, vJ, vJ, vJ, vJ, vJ, vJ, vJ, vJ, vJ, vJ, vJ, vJ, vJ, vJ, vJ, vJ, vJ, vJ, vJ, vJ, vJ, vJ, vJ, vJ, vJ, vJ, vJ, vJ], ob := [(0, AO.row kb xs), (1, AO.box [AV.ows 0]), (2, AO.box [AV.ows 3]), (3, AO.row kb [])], nx := 1000000, ps := [some 0] })) False) False) (br (decide ((0 : Int) ≤ 0 ∧ 0 ≤ q ∧ q ≤ (↑xs.length : Int) ∧ (↑xs.length : Int) ≤ (↑xs.length : Int))) (br (decide ((0 + (List.take (q - 0).toNat (List.drop 0 xs)).length) * 168 ≤ 140737488355328)) (br (decide (0 ≤ IntKind.i64.wrap (q + 1) ∧ IntKind.i64.wrap (q + 1) ≤ (↑xs.length : Int) ∧ (↑xs.length : Int) ≤ (↑xs.length : Int) ∧ (↑xs.length : Int) ≤ (↑xs.length : Int))) (br (decide ((([] ++ List.take (q - 0).toNat (List.drop 0 xs)).length + (List.take ((↑xs.length : Int) - IntKind.i64.wrap (q + 1)).toNat (List.drop (IntKind.i64.wrap (q + 1)).toNat xs)).length) * 168 ≤ 140737488355328)) (R (some { av := AV.tup [AV.agg [AV.ows 0], vI 0], obs := [AO.row kb ([] ++ List.take (q - 0).toNat (List.drop 0 xs) ++ List.take ((↑xs.length : Int) - IntKind.i64.wrap (q + 1)).toNat (List.drop (IntKind.i64.wrap (q + 1)).toNat xs)), AO.row kb xs], outs := [some 1] })) False) False) False) False)) := by kernel_rfl
theorem h124 : G1Ok Tryd.prog 124 g124 := by
  intro args obs k h
  unfold g124 at h
  split at h
  · rename_i k q xs
    obtain ⟨hb, hl, h⟩ := brb2 h
    rw [decide_eq_true_eq] at hb hl
    have hq : ((q.toNat : Nat) : Int) = q := by omega
    rcases Bool.eq_false_or_eq_true (busy xs q) with hB | hB
    · rw [hB] at h
      refine ⟨_, ctr_fn okr hg124 Tryd.func124 (by kernel_rfl) (by kernel_rfl) (by kernel_rfl) fun C => ?_, h⟩
      rw [e124]
      refine loopAll okf124 hg124 (fun i => st124 xs q i) xs.length (fun j => !strEq (atB xs j).2.2.1 (atB xs q.toNat).1) (by omega) fun N i hi hw next fails done => ?_
      show evP E124 G124 _ (lp124 2) (st124 xs q i) (rk124 _ _ 2 _)
      rw [b124, hw, Int.toNat_natCast]
      refine br_dec (fun h2 => br_yes ⟨by omega, h2⟩ (br_yes hb (br_intro (fun h3 => rfl) (fun h3 => next (by omega) (by show (!strEq (atB xs i).2.2.1 (atB xs q.toNat).1) = true; rw [h3]; rfl))))) (fun h2 => ?_)
      have hd := done (by omega)
      unfold busy at hB
      rw [anyB_all, hd] at hB
      cases hB
    · rw [hB] at h
      refine ⟨_, ctr_fn okr hg124 Tryd.func124 (by kernel_rfl) (by kernel_rfl) (by kernel_rfl) fun C => ?_, h⟩
      rw [e124]
      have hall : ∀ j, j < xs.length → strEq (atB xs j).2.2.1 (atB xs q.toNat).1 = false := fun j hj => anyB_at hB hj
      refine loopUp okf124 hg124 (α := Unit) (fun i _ => st124 xs q i) xs.length (fun _ _ => True) (fun N i _ hi _ next => ?_) () trivial
      show evP E124 G124 _ (lp124 2) (st124 xs q i) (rk124 _ _ 2 _)
      rw [b124, wrap_id (n := (i : Int) + 1) (by omega) (by omega), wrap_id (n := q + 1) (by omega) (by omega), Int.toNat_natCast]
      refine br_dec (fun h2 => br_yes ⟨by omega, h2⟩ (br_yes hb (br_f (hall i (by omega)) (next (by omega) () trivial)))) (fun h2 => ?_)
      have l1 : (xs.take q.toNat).length ≤ xs.length := by rw [List.length_take]; omega
      have l2 : (xs.drop (q.toNat + 1)).length ≤ xs.length := by rw [List.length_drop]; omega
      rw [Int.sub_zero, List.drop_zero, show (q + 1).toNat = q.toNat + 1 by omega, show ((xs.length : Int) - (q + 1)).toNat = xs.length - (q.toNat + 1) by omega, List.take_of_length_le (l := xs.drop (q.toNat + 1)) (by rw [List.length_drop]; exact Nat.le_refl _), List.nil_append]
      exact br_yes ⟨by omega, by omega, by omega, by omega⟩ (br_yes (by omega) (br_yes ⟨by omega, by omega, by omega, by omega⟩ (br_yes (by omega) rfl)))
  · exact h.elim
theorem h125 : G1Ok Tryd.prog 125 g125 := by
  intro args obs k h
  unfold g125 at h
  split at h
  · rename_i k q o a c i t xs
    obtain ⟨hb, h⟩ := brd h
    refine ⟨_, ctr_fn okr hg125 Tryd.func125 (by kernel_rfl) (by kernel_rfl) (by kernel_rfl) fun C => ?_, h⟩
    rw [e125]
    have hu : ∀ n : Nat, i = n → updR kb xs q.toNat (3 + n) [.string t] = updR kb xs q.toNat (3 + i.toNat) [.string t] := fun n hn => by rw [hn, Int.toNat_natCast]
    unfold ptR
    refine br_intro (fun h1 => ?_) (fun h1 => br_intro (fun h2 => ?_) (fun h2 => br_intro (fun h3 => ?_) (fun h3 => br_yes hb (br_intro (fun h4 => ?_) (fun h4 => br_yes hb ?_)))))
    · rw [h1]; rfl
    · rw [h1, h2]; rfl
    · rw [h1, h2, h3]; rfl
    · have h4 : ((atB xs q.toNat).2.1 != 1) = true := h4
      rw [h1, h2, h3, h4]; rfl
    · have h4 : ((atB xs q.toNat).2.1 != 1) = false := h4
      have g1 := of_decide_eq_false h1
      have g2 := of_decide_eq_false h2
      rw [h1, h2, h3, h4]
      refine br_intro (fun h5 => ?_) (fun h5 => br_intro (fun h6 => ?_) (fun h6 => br_intro (fun h7 => ?_) (fun h7 => br_intro (fun h8 => ?_) (fun h8 => br_intro (fun h9 => ?_) (fun h9 => br_intro (fun h10 => ?_) (fun h10 => br_intro (fun h11 => ?_) (fun h11 => br_intro (fun h12 => ?_) (fun h12 => ?_))))))))
      · rw [← hu 0 (eq_of_beq h5)]; rfl
      · rw [← hu 1 (eq_of_beq h6)]; rfl
      · rw [← hu 2 (eq_of_beq h7)]; rfl
      · rw [← hu 3 (eq_of_beq h8)]; rfl
      · rw [← hu 4 (eq_of_beq h9)]; rfl
      · rw [← hu 5 (eq_of_beq h10)]; rfl
      · rw [← hu 6 (eq_of_beq h11)]; rfl
      · rw [← hu 7 (eq_of_beq h12)]; rfl
      · have q5 : i ≠ 0 := by simpa using h5
        have q6 : i ≠ 1 := by simpa using h6
        have q7 : i ≠ 2 := by simpa using h7
        have q8 : i ≠ 3 := by simpa using h8
        have q9 : i ≠ 4 := by simpa using h9
        have q10 : i ≠ 5 := by simpa using h10
        have q11 : i ≠ 6 := by simpa using h11
        have q12 : i ≠ 7 := by simpa using h12
        omega
  · exact h.elim
theorem h126 : G1Ok Tryd.prog 126 g126 := by
  intro args obs k h
  unfold g126 at h
  split at h
  · rename_i k q a xs
    obtain ⟨hb, hl, h⟩ := brb2 h
    rw [decide_eq_true_eq] at hb hl
    refine ⟨_, ctr_fn okr hg126 Tryd.func126 (by kernel_rfl) (by kernel_rfl) (by kernel_rfl) fun C => ?_, h⟩
    rw [e126]
    rw [Int.toNat_natCast]
    unfold bkR
    refine br_yes (by omega) (br_not (fun h1 => ?_) (fun h1 => ?_))
    · rw [h1]
    have hlt := okB_lt h1
    have hj : 0 ≤ (lnB xs a : Int) ∧ (lnB xs a : Int) < xs.length := by omega
    refine br_yes hb (br_intro (fun h2 => ?_) (fun h2 => br_yes hj (br_intro (fun h3 => ?_) (fun h3 => br_yes hj (br_yes hb (br_intro (fun h4 => ?_) (fun h4 => br_yes hj (br_yes hb ?_))))))))
    · have h2 : ((atB xs q.toNat).2.1 != 1) = true := h2
      rw [h1, h2]; rfl
    · have h2 : ((atB xs q.toNat).2.1 != 1) = false := h2
      have h3 : ((atB xs (lnB xs a)).2.1 != 2) = true := h3
      rw [h1, h2, h3]; rfl
    · have h2 : ((atB xs q.toNat).2.1 != 1) = false := h2
      have h3 : ((atB xs (lnB xs a)).2.1 != 2) = false := h3
      have h4 : (!strEq (atB xs (lnB xs a)).2.2.1 (atB xs q.toNat).1) = true := h4
      rw [h1, h2, h3, h4]; rfl
    · have h2 : ((atB xs q.toNat).2.1 != 1) = false := h2
      have h3 : ((atB xs (lnB xs a)).2.1 != 2) = false := h3
      have h4 : (!strEq (atB xs (lnB xs a)).2.2.1 (atB xs q.toNat).1) = false := h4
      rw [h1, h2, h3, h4]; rfl
  · exact h.elim
theorem h127 : G1Ok Tryd.prog 127 g127 := by
  intro args obs k h
  unfold g127 at h
  split at h
  · rename_i k b p
    obtain ⟨hq, h⟩ := br_and h
    simp only [Bool.and_eq_true, decide_eq_true_eq] at hq
    obtain ⟨hb, hl, hp0, hp1⟩ := hq
    refine ⟨_, ctr_fn okr hg127 Tryd.func127 (by kernel_rfl) (by kernel_rfl) (by kernel_rfl) fun C => ?_, h⟩
    rw [e127]
    refine br_t (by rw [hb, decide_eq_true hl, decide_eq_true (show 0 ≤ p ∧ p ≤ 1000000 by omega)]; rfl) ?_
    rfl
  · exact h.elim
theorem h59 : G1Ok Tryd.prog 59 g59 := by
  intro args obs k h
  unfold g59 at h
  split at h
  · rename_i k s n
    obtain ⟨hs, hn, h⟩ := brb2 h
    rw [decide_eq_true_eq] at hs hn
    refine ⟨_, ctr_fn okr hg59 Tryd.func59 (by kernel_rfl) (by kernel_rfl) (by kernel_rfl) fun C => ?_, h⟩
    rw [e59]
    obtain ⟨m, hm⟩ : ∃ m : Nat, n = m := ⟨n.toNat, by omega⟩
    subst hm
    refine loopR okf59 hg59 (ι := {p : ByteArray × ByteArray × Nat × Nat // p.2.2.1 < p.2.2.2 ∧ p.2.2.1 ≤ 100 ∧ p.2.2.1 * p.1.size ≤ 1000 ∧ p.2.1.size + p.2.2.1 * p.1.size ≤ 1000 ∧ mnyF p.2.2.2 p.2.1 p.1 p.2.2.1 = mny s (m : Int)}) (fun p => st59 p.1.1 p.1.2.1 p.1.2.2.1) (fun p => p.1.2.2.1) (fun ⟨(u, o, j, f), hf, h0, h1, h2, he⟩ => ?_) ⟨(s, ⟨#[]⟩, m, m + 1), by simp, by show m ≤ 100; omega, ?_, ?_, ?_⟩
    · show evP E59 G59 _ (lp59 2) (st59 u o j) (rk59 _ _ 2 _)
      simp only at hf h0 h1 h2 he
      have hd : (j : Int).tdiv 2 = ((j / 2 : Nat) : Int) := rfl
      have hmod : (j : Int).tmod 2 = ((j % 2 : Nat) : Int) := rfl
      rw [b59, hd, hmod, wrap_id (by omega) (by omega)]
      obtain ⟨f, rfl⟩ : ∃ g, f = g + 1 := ⟨f - 1, by omega⟩
      refine br_dec (fun h3 => ?_) (fun h3 => ?_)
      · have hj : 0 < j := by omega
        have hu : u.size ≤ j * u.size := Nat.le_mul_of_pos_left _ hj
        have huu : (u ++ u).size = 2 * u.size := by rw [ByteArray.size_append]; omega
        have hhalf : j / 2 * (2 * u.size) ≤ j * u.size := by
          rw [← Nat.mul_assoc]
          exact Nat.mul_le_mul_right _ (by omega)
        unfold mnyF at he
        rw [decide_eq_true hj] at he
        refine br_intro (fun h4 => br_yes (by omega) (br_yes (by omega) ?_)) (fun h4 => br_yes (by omega) ?_)
        · have e1 : j % 2 = 1 := by have := eq_of_beq h4; omega
          have e2 : (j % 2 == 1) = true := by rw [e1]; rfl
          have e3 : j / 2 * (2 * u.size) + u.size = j * u.size := by
            have : j = j / 2 * 2 + 1 := by omega
            conv => rhs; rw [this, Nat.add_mul]
            rw [← Nat.mul_assoc]; omega
          refine ⟨⟨(u ++ u, o ++ u, j / 2, f), by show j / 2 < f; omega, by show j / 2 ≤ 100; omega, by show j / 2 * (u ++ u).size ≤ 1000; rw [huu]; omega, by show (o ++ u).size + j / 2 * (u ++ u).size ≤ 1000; rw [huu, ByteArray.size_append]; omega, ?_⟩, rfl, by show j / 2 < j; omega⟩
          rw [e2] at he
          exact he
        · have e1 : j % 2 ≠ 1 := fun e => by rw [e] at h4; exact absurd h4 (by decide)
          have e2 : (j % 2 == 1) = false := by simpa using e1
          refine ⟨⟨(u ++ u, o, j / 2, f), by show j / 2 < f; omega, by show j / 2 ≤ 100; omega, by show j / 2 * (u ++ u).size ≤ 1000; rw [huu]; omega, by show o.size + j / 2 * (u ++ u).size ≤ 1000; rw [huu]; omega, ?_⟩, rfl, by show j / 2 < j; omega⟩
          rw [e2] at he
          exact he
      · have hj : j = 0 := by omega
        subst hj
        show _ = _
        unfold mnyF at he
        rw [← he]
        rfl
    · show m * s.size ≤ 1000
      have : m * s.size ≤ 100 * 10 := Nat.mul_le_mul (by omega) hs
      omega
    · show 0 + m * s.size ≤ 1000
      have : m * s.size ≤ 100 * 10 := Nat.mul_le_mul (by omega) hs
      omega
    · show mnyF (m + 1) ⟨#[]⟩ s m = mny s (m : Int)
      unfold mny
      rw [Int.toNat_natCast]
  · exact h.elim
theorem h123 : G1Ok Tryd.prog 123 g123 := by
  intro args obs k h
  unfold g123 at h
  split at h
  · rename_i us xs
    split at h
    · rename_i e he
      obtain ⟨hl, hs, h⟩ := brb2 h
      rw [decide_eq_true_eq] at hl hs
      obtain rfl : us = setC e := by
        unfold elemOf at he
        split at he
        · rename_i vs hvs
          have h1 := ofVals_vals kb vs e he
          have h2 := flatAVs_inv hvs
          rw [h2, h1]
          rfl
        · cases he
      refine ⟨_, ctr_fn okr hg123 Tryd.func123 (by kernel_rfl) (by kernel_rfl) (by kernel_rfl) fun C => ?_, h⟩
      have hk := lnB_le xs e.1
      rw [e123, Int.toNat_natCast, Int.sub_zero, Int.toNat_natCast, show ((xs.length : Int) - (lnB xs e.1 : Int)).toNat = xs.length - lnB xs e.1 by omega, List.drop_zero, List.take_of_length_le (l := xs.drop (lnB xs e.1)) (by rw [List.length_drop]; exact Nat.le_refl _), List.nil_append]
      unfold nwR
      have l1 : (xs.take (lnB xs e.1)).length ≤ xs.length := by rw [List.length_take]; omega
      have l2 : (xs.drop (lnB xs e.1)).length ≤ xs.length := by rw [List.length_drop]; omega
      refine br_yes (by omega) (br_yes (Nat.le_trans hs (by decide)) (br_not (fun h1 => ?_) (fun h1 => br_intro (fun h2 => ?_) (fun h2 => br_intro (fun h3 => ?_) (fun h3 => ?_)))))
      · rw [h1]
      · rw [h1, h2]
      · rw [h1, h2, h3]
      · rw [h1, h2, h3]
        refine br_yes ⟨by omega, by omega, by omega, by omega⟩ (br_yes (by omega) (br_yes ⟨by omega, by omega, by omega, by omega⟩ (br_yes ?_ (br_yes ?_ rfl))))
        · show ((xs.take (lnB xs e.1)).length + 1) * 168 ≤ _
          omega
        · rw [List.length_append]
          show ((xs.take (lnB xs e.1)).length + 1 + (xs.drop (lnB xs e.1)).length) * 168 ≤ _
          omega
    · exact h.elim
  · exact h.elim
end Go.Proofs.YtkjnijddbiconaaDoor.Ev
