/- Lists of dedup entries that are drawn: the walk. -/
import Derived.Test.YtkjnijddbiconaaL1
namespace Go.Proofs.Ytkjnijddbiconaa.Ev
open Go
set_option linter.unusedVariables false
set_option linter.unusedSimpArgs false
set_option maxRecDepth 100000
def g29 : G1
  | [.ptr 0 0, .ows 1], [.box [.rsl [.int .u8] b, .val (.int .i64 p)], .row [.int .i64] xs], k => br (okB b && (decide (b.length ≤ 1048576) && (decide (0 ≤ p ∧ p ≤ 1000000) && (decide (1 ≤ xs.length) && decide (xs.length ≤ 1000000))))) (k ⟨.val (.int .i64 (xs.getD (pk b p xs.length).toNat (edflt ki)).1), [.box [.rsl ku b, .val (.int .i64 (p + 1))], .row ki xs], [some 0, some 1]⟩) False
  | _, _, _ => False
noncomputable def E29 : Env := Er.of Try.f29
noncomputable def G29 : Gk := gk [(31, g31)]
noncomputable def lp29 (n : Nat) : Code := (loopOf n (codeOf Try.f29)).getD .skip
noncomputable def ct29 (L : Lp) (R : Option Res → Prop) (n : Nat) : Kt := contOf E29 G29 L n (codeOf Try.f29) (endK E29 Try.f29.results.toList R)
noncomputable def rk29 (L : Lp) (R : Option Res → Prop) (n : Nat) (N : St → Prop) : Kt := rk (jof E29 (lp29 n)) N (ct29 L R n)
noncomputable def rkn29 (L : Lp) (R : Option Res → Prop) (n : Nat) (N : St → Prop) (m : Nat) (N2 : St → Prop) : Kt := rk (jof E29 (lp29 m)) N2 (contOf E29 G29 L m (lp29 n) (rk29 L R n N))
noncomputable def LOOPN29 (L : Lp) (R : Option Res → Prop) (n : Nat) (N : St → Prop) (m : Nat) (st : St) : Prop := L (lp29 m) st (contOf E29 G29 L m (lp29 n) (rk29 L R n N))
noncomputable def LOOP29 (L : Lp) (R : Option Res → Prop) (n : Nat) (st : St) : Prop := L (lp29 n) st (ct29 L R n)
theorem hg29 : HG Try.prog G29 := (hg_cons h31 hg_nil)
theorem okf29 : Ok Try.prog E29 := okr.of Try.f29
theorem e29 (L : Lp) (R : Option Res → Prop) (b : List (Elem [.int .u8])) (p : Int) (xs : List (Elem [.int .i64])) : (bodyP Er G29 L Try.f29 [.ptr 0 0, .ows 1] [.box [.rsl [.int .u8] b, .val (.int .i64 p)], .row [.int .i64] xs] R) = (
    br (okB b && (decide (b.length ≤ 1048576) && (decide (0 ≤ p ∧ p ≤ 1000000) && decide ((↑xs.length : Int) ≤ 1000000)))) (br (decide (0 ≤ pk b p (↑xs.length : Int) ∧ pk b p (↑xs.length : Int) < (↑xs.length : Int))) (R (some { av := vI (xs.getD (pk b p (↑xs.length : Int)).toNat (edflt ki)).fst, obs := [AO.box [AV.rsl ku b, vI (p + 1)], AO.row ki xs], outs := [some 0, some 1] })) False) False) := by kernel_rfl
theorem h29 : G1Ok Try.prog 29 g29 := by
  intro args obs k h
  unfold g29 at h
  split at h
  · rename_i k b p xs
    obtain ⟨hq, h⟩ := br_and h
    simp only [Bool.and_eq_true, decide_eq_true_eq] at hq
    obtain ⟨hb, hl, ⟨hp0, hp1⟩, hn1, hn2⟩ := hq
    refine ⟨_, ctr_fn okr hg29 Try.func29 (by kernel_rfl) (by kernel_rfl) (by kernel_rfl) fun C => ?_, h⟩
    rw [e29]
    have hr := pk_lt hb hp0 (show p ≤ 1048576 by omega) (show (1 : Int) ≤ xs.length by omega)
    refine br_t (by rw [hb, decide_eq_true hl, decide_eq_true (And.intro hp0 hp1), decide_eq_true (show ((xs.length : Int)) ≤ 1000000 by omega)]; rfl) (br_yes hr ?_)
    rfl
  · exact h.elim
def z12 : List (Elem ks) := List.replicate 12 (edflt ks)
def lsW : List (Elem ks) := [(⟨#[120]⟩, ()), (⟨#[97, 122, 122]⟩, ()), (⟨#[98, 120, 108]⟩, ()), (⟨#[111, 110, 101]⟩, ())]
def lsA (b : List (Elem ku)) (p : Int) : Int := IntKind.i64.wrap (1 + pk b p 11)
def lsT (b : List (Elem ku)) (p : Int) : ByteArray := at1 lsW (pk b (p + 1) 4).toNat
def lsC (b : List (Elem ku)) (p : Int) (c : List (Elem kl)) (l : List (Elem k3)) : List (Elem kl) := match dcN l (lsA b p) == 0 with
  | true => c ++ [(0, lsA b p, lsT b p, ())] ++ [(1, lsA b p, lsT b p, ())]
  | false => c
def lsN (b : List (Elem ku)) (p : Int) (c : List (Elem kl)) (l : List (Elem k3)) : List (Elem k3) := (daR l (sumN (rdA z12 z12 (lsC b p c l) 0 (lsA b p))) (lsA b p)).1
def ls (b : List (Elem ku)) (p : Int) : Nat → List (Elem kl) × List (Elem k3)
  | 0 => ([], [])
  | j + 1 => (lsC b (p + 2 * j) (ls b p j).1 (ls b p j).2, lsN b (p + 2 * j) (ls b p j).1 (ls b p j).2)
def lfE (b : List (Elem ku)) (p : Int) (l : List (Elem k3)) : Elem k3 := l.getD (pk b p l.length).toNat (edflt k3)
def lfX (b : List (Elem ku)) (p : Int) (xs : List (Elem ki)) : Int := (xs.getD (pk b (p + 1 + 1) 3).toNat (edflt ki)).1
def lfL (b : List (Elem ku)) (p : Int) (l : List (Elem k3)) : List (Elem k3) := match decide ((l.length : Int) > 0) with
  | false => l
  | true => match pk b (p + 1) 32 == 0 with
    | true => l.set (pk b p l.length).toNat ((lfE b p l).1, (lfE b p l).2.1, lfX b p [(0, ()), (1000, ()), (1001, ())], ())
    | false => match pk b (p + 1) 32 == 1 with
      | true => l.set (pk b p l.length).toNat (lfX b p [(-1, ()), (0, ()), (65521, ())], (lfE b p l).2.1, (lfE b p l).2.2.1, ())
      | false => match pk b (p + 1) 32 == 2 with
        | true => l.set (pk b p l.length).toNat ((lfE b p l).1, lfX b p [(0, ()), (120, ()), (11, ())], (lfE b p l).2.2.1, ())
        | false => match pk b (p + 1) 32 == 3 with
          | true => l ++ [lfE b p l]
          | false => l
def lfP (b : List (Elem ku)) (p : Int) (l : List (Elem k3)) : Int := match decide ((l.length : Int) > 0) with
  | false => p
  | true => match pk b (p + 1) 32 == 0 || (pk b (p + 1) 32 == 1 || pk b (p + 1) 32 == 2) with
    | true => p + 1 + 1 + 1
    | false => p + 1 + 1
def lsR (b : List (Elem ku)) (p : Int) : List (Elem kl) × List (Elem k3) := ls b (p + 1) (pk b p 8).toNat
def lsQ (b : List (Elem ku)) (p : Int) : Int := p + 1 + 2 * ((pk b p 8).toNat : Int)
def g28 : G1
  | [.ptr 0 0], [.box [.rsl [.int .u8] b, .val (.int .i64 p)]], k => br (okB b && (decide (b.length ≤ 1048576) && decide (0 ≤ p ∧ p ≤ 500000)))
    (k ⟨.tup [.agg [.ows 0, .ows 1, .ows 2], .ows 3], [.row ks z12, .row ks z12, .row kl (lsR b p).1, .row k3 (lfL b (lsQ b p) (lsR b p).2), .box [.rsl ku b, .val (.int .i64 (lfP b (lsQ b p) (lsR b p).2))]], [some 4]⟩) False
  | _, _, _ => False
noncomputable def E28 : Env := Er.of Try.f28
noncomputable def G28 : Gk := gk [(37, g37), (31, g31), (38, g38), (39, g39), (40, g40), (41, g41), (30, g30), (13, g13), (29, g29)]
noncomputable def lp28 (n : Nat) : Code := (loopOf n (codeOf Try.f28)).getD .skip
noncomputable def ct28 (L : Lp) (R : Option Res → Prop) (n : Nat) : Kt := contOf E28 G28 L n (codeOf Try.f28) (endK E28 Try.f28.results.toList R)
noncomputable def rk28 (L : Lp) (R : Option Res → Prop) (n : Nat) (N : St → Prop) : Kt := rk (jof E28 (lp28 n)) N (ct28 L R n)
noncomputable def rkn28 (L : Lp) (R : Option Res → Prop) (n : Nat) (N : St → Prop) (m : Nat) (N2 : St → Prop) : Kt := rk (jof E28 (lp28 m)) N2 (contOf E28 G28 L m (lp28 n) (rk28 L R n N))
noncomputable def LOOPN28 (L : Lp) (R : Option Res → Prop) (n : Nat) (N : St → Prop) (m : Nat) (st : St) : Prop := L (lp28 m) st (contOf E28 G28 L m (lp28 n) (rk28 L R n N))
noncomputable def LOOP28 (L : Lp) (R : Option Res → Prop) (n : Nat) (st : St) : Prop := L (lp28 n) st (ct28 L R n)
theorem hg28 : HG Try.prog G28 := (hg_cons h37 (hg_cons h31 (hg_cons h38 (hg_cons h39 (hg_cons h40 (hg_cons h41 (hg_cons h30 (hg_cons h13 (hg_cons h29 hg_nil)))))))))
theorem okf28 : Ok Try.prog E28 := okr.of Try.f28
theorem e28 (L : Lp) (R : Option Res → Prop) (b : List (Elem [.int .u8])) (p : Int) : (bodyP Er G28 L Try.f28 [.ptr 0 0] [.box [.rsl [.int .u8] b, .val (.int .i64 p)]] R) = (
    br (okB b && (decide (b.length ≤ 1048576) && (decide (0 ≤ p ∧ p ≤ 1000000) && true))) (LOOP28 L R 4 { tm := [AV.ptr 0 0, vJ, AV.ptr 1 0, vJ, AV.ptr 5 0, AV.ows 9, vI (pk b p 8), vJ, vJ, vJ, vJ, vJ, vJ, vJ, vJ, vJ, vJ, vJ, vJ, vJ, vJ, vJ, vJ, vJ, vJ, vJ, vJ, vJ, vJ, vJ, vJ, vJ, vJ, vJ, vJ, vJ, vJ, vJ, vJ, vJ, vJ, vJ, vJ, vJ, vJ, vJ, vJ, vJ, vJ, vJ, vJ, vJ, vJ, vJ, vJ, vJ, vJ, vJ, vJ, vJ, vJ, vJ, vJ, vJ, vJ, vJ, vJ, vJ, vJ, vJ, vJ, vJ, vJ, vJ, vJ, vJ, vJ, vJ, vJ, vJ, vJ, vJ, vJ, vJ, vJ, vJ, vJ, vJ, vJ, vJ, vJ, vJ, vJ, vJ, vJ, vJ, vJ, vJ], ob := [(0, AO.box [AV.rsl ku b, vI (p + 1)]), (1, AO.box [AV.ows 2, AV.ows 3, AV.ows 4]), (2, AO.row ks []), (3, AO.row ks []), (4, AO.row kl []), (5, AO.box [AV.ows 6, AV.ows 7, AV.ows 8]), (6, AO.row ks (List.replicate 12 (edflt ks))), (7, AO.row ks (List.replicate 12 (edflt ks))), (8, AO.row kl []), (9, AO.row k3 [])], nx := 1000000, ps := [some 0] }) False) := by kernel_rfl
def st28 (b : List (Elem [.int .u8])) (p : Int) (u v : List (Elem ks)) (c : List (Elem kl)) (l : List (Elem k3)) (i : Int) : St :=  ⟨[AV.ptr 0 0, vJ, AV.ptr 1 0, vJ, AV.ptr 5 0, AV.ows 9, .val (.int .i64 i), vJ, vJ, vJ, vJ, vJ, vJ, vJ, vJ, vJ, vJ, vJ, vJ, vJ, vJ, vJ, vJ, vJ, vJ, vJ, vJ, vJ, vJ, vJ, vJ, vJ, vJ, vJ, vJ, vJ, vJ, vJ, vJ, vJ, vJ, vJ, vJ, vJ, vJ, vJ, vJ, vJ, vJ, vJ, vJ, vJ, vJ, vJ, vJ, vJ, vJ, vJ, vJ, vJ, vJ, vJ, vJ, vJ, vJ, vJ, vJ, vJ, vJ, vJ, vJ, vJ, vJ, vJ, vJ, vJ, vJ, vJ, vJ, vJ, vJ, vJ, vJ, vJ, vJ, vJ, vJ, vJ, vJ, vJ, vJ, vJ, vJ, vJ, vJ, vJ, vJ, vJ], [(0, .box [.rsl ku b, .val (.int .i64 p)]), (1, AO.box [AV.ows 2, AV.ows 3, AV.ows 4]), (2, AO.row ks []), (3, AO.row ks []), (4, AO.row kl []), (5, AO.box [AV.ows 6, AV.ows 7, AV.ows 8]), (6, .row ks u), (7, .row ks v), (8, .row kl c), (9, .row k3 l)], 1000000, [some 0]⟩
theorem b28 (L : Lp) (R : Option Res → Prop) (N : St → Prop) (b : List (Elem [.int .u8])) (p : Int) (u v : List (Elem ks)) (c : List (Elem kl)) (l : List (Elem k3)) (i : Int) : (evP E28 G28 L (lp28 4) (st28 b p u v c l i) (rk28 L R 4 N)) = (
    br (decide (i > 0)) (br (okB b && (decide (b.length ≤ 1048576) && (decide (0 ≤ p ∧ p ≤ 1000000) && true))) (br (okB b && (decide (b.length ≤ 1048576) && (decide (0 ≤ p + 1 ∧ p + 1 ≤ 1000000) && true))) (br (decide (l.length ≤ 1048576)) (br (dcN l (IntKind.i64.wrap (1 + pk b p 11)) == 0) (br (dwG u v c 0 (IntKind.i64.wrap (1 + pk b p 11)) (at1 [({ data := #[120] }, ()), ({ data := #[97, 122, 122] }, ()), ({ data := #[98, 120, 108] }, ()), ({ data := #[111, 110, 101] }, ())] (pk b (p + 1) 4).toNat) 599) (br (smD u v (c ++ [(0, IntKind.i64.wrap (1 + pk b p 11), at1 [({ data := #[120] }, ()), ({ data := #[97, 122, 122] }, ()), ({ data := #[98, 120, 108] }, ()), ({ data := #[111, 110, 101] }, ())] (pk b (p + 1) 4).toNat, ())] ++ [(1, IntKind.i64.wrap (1 + pk b p 11), at1 [({ data := #[120] }, ()), ({ data := #[97, 122, 122] }, ()), ({ data := #[98, 120, 108] }, ()), ({ data := #[111, 110, 101] }, ())] (pk b (p + 1) 4).toNat, ())])) (br (decide ((rdA u v (c ++ [(0, IntKind.i64.wrap (1 + pk b p 11), at1 [({ data := #[120] }, ()), ({ data := #[97, 122, 122] }, ()), ({ data := #[98, 120, 108] }, ()), ({ data := #[111, 110, 101] }, ())] (pk b (p + 1) 4).toNat, ())] ++ [(1, IntKind.i64.wrap (1 + pk b p 11), at1 [({ data := #[120] }, ()), ({ data := #[97, 122, 122] }, ()), ({ data := #[98, 120, 108] }, ()), ({ data := #[111, 110, 101] }, ())] (pk b (p + 1) 4).toNat, ())]) 0 (IntKind.i64.wrap (1 + pk b p 11))).size ≤ 4611686018427387904)) (br (decide (l.length ≤ 1048576)) (N { tm := [AV.ptr 0 0, vJ, AV.ptr 1 0, vJ, AV.ptr 5 0, AV.ows 9, vI (IntKind.i64.wrap (i - 1)), vJ, vJ, vJ, vJ, vJ, vJ, vJ, vJ, vJ, vJ, vJ, vJ, vJ, vJ, vJ, vJ, vJ, vJ, vJ, vJ, vJ, vJ, vJ, vJ, vJ, vJ, vJ, vJ, vJ, vJ, vJ, vJ, vJ, vJ, vJ, vJ, vJ, vJ, vJ, vJ, vJ, vJ, vJ, vJ, vJ, vJ, vJ, vJ, vJ, vJ, vJ, vJ, vJ, vJ, vJ, vJ, vJ, vJ, vJ, vJ, vJ, vJ, vJ, vJ, vJ, vJ, vJ, vJ, vJ, vJ, vJ, vJ, vJ, vJ, vJ, vJ, vJ, vJ, vJ, vJ, vJ, vJ, vJ, vJ, vJ, vJ, vJ, vJ, vJ, vJ, vJ], ob := [(0, AO.box [AV.rsl ku b, vI (p + 1 + 1)]), (1, AO.box [AV.ows 2, AV.ows 3, AV.ows 4]), (2, AO.row ks []), (3, AO.row ks []), (4, AO.row kl []), (5, AO.box [AV.ows 6, AV.ows 7, AV.ows 8]), (6, AO.row ks u), (7, AO.row ks v), (8, AO.row kl (c ++ [(0, IntKind.i64.wrap (1 + pk b p 11), at1 [({ data := #[120] }, ()), ({ data := #[97, 122, 122] }, ()), ({ data := #[98, 120, 108] }, ()), ({ data := #[111, 110, 101] }, ())] (pk b (p + 1) 4).toNat, ())] ++ [(1, IntKind.i64.wrap (1 + pk b p 11), at1 [({ data := #[120] }, ()), ({ data := #[97, 122, 122] }, ()), ({ data := #[98, 120, 108] }, ()), ({ data := #[111, 110, 101] }, ())] (pk b (p + 1) 4).toNat, ())])), (9, AO.row k3 (daR l (sumN (rdA u v (c ++ [(0, IntKind.i64.wrap (1 + pk b p 11), at1 [({ data := #[120] }, ()), ({ data := #[97, 122, 122] }, ()), ({ data := #[98, 120, 108] }, ()), ({ data := #[111, 110, 101] }, ())] (pk b (p + 1) 4).toNat, ())] ++ [(1, IntKind.i64.wrap (1 + pk b p 11), at1 [({ data := #[120] }, ()), ({ data := #[97, 122, 122] }, ()), ({ data := #[98, 120, 108] }, ()), ({ data := #[111, 110, 101] }, ())] (pk b (p + 1) 4).toNat, ())]) 0 (IntKind.i64.wrap (1 + pk b p 11)))) (IntKind.i64.wrap (1 + pk b p 11))).fst)], nx := 1000000, ps := [some 0] }) False) False) False) False) (br (smD u v c) (br (decide ((rdA u v c 0 (IntKind.i64.wrap (1 + pk b p 11))).size ≤ 4611686018427387904)) (br (decide (l.length ≤ 1048576)) (N { tm := [AV.ptr 0 0, vJ, AV.ptr 1 0, vJ, AV.ptr 5 0, AV.ows 9, vI (IntKind.i64.wrap (i - 1)), vJ, vJ, vJ, vJ, vJ, vJ, vJ, vJ, vJ, vJ, vJ, vJ, vJ, vJ, vJ, vJ, vJ, vJ, vJ, vJ, vJ, vJ, vJ, vJ, vJ, vJ, vJ, vJ, vJ, vJ, vJ, vJ, vJ, vJ, vJ, vJ, vJ, vJ, vJ, vJ, vJ, vJ, vJ, vJ, vJ, vJ, vJ, vJ, vJ, vJ, vJ, vJ, vJ, vJ, vJ, vJ, vJ, vJ, vJ, vJ, vJ, vJ, vJ, vJ, vJ, vJ, vJ, vJ, vJ, vJ, vJ, vJ, vJ, vJ, vJ, vJ, vJ, vJ, vJ, vJ, vJ, vJ, vJ, vJ, vJ, vJ, vJ, vJ, vJ, vJ, vJ], ob := [(0, AO.box [AV.rsl ku b, vI (p + 1 + 1)]), (1, AO.box [AV.ows 2, AV.ows 3, AV.ows 4]), (2, AO.row ks []), (3, AO.row ks []), (4, AO.row kl []), (5, AO.box [AV.ows 6, AV.ows 7, AV.ows 8]), (6, AO.row ks u), (7, AO.row ks v), (8, AO.row kl c), (9, AO.row k3 (daR l (sumN (rdA u v c 0 (IntKind.i64.wrap (1 + pk b p 11)))) (IntKind.i64.wrap (1 + pk b p 11))).fst)], nx := 1000000, ps := [some 0] }) False) False) False)) False) False) False) (br (decide ((↑l.length : Int) > 0)) (br (okB b && (decide (b.length ≤ 1048576) && (decide (0 ≤ p ∧ p ≤ 1000000) && decide ((↑l.length : Int) ≤ 1000000)))) (br (okB b && (decide (b.length ≤ 1048576) && (decide (0 ≤ p + 1 ∧ p + 1 ≤ 1000000) && true))) (br (pk b (p + 1) 32 == 0) (br (okB b && (decide (b.length ≤ 1048576) && (decide (0 ≤ p + 1 + 1 ∧ p + 1 + 1 ≤ 1000000) && true))) (br (decide (0 ≤ pk b p (↑l.length : Int) ∧ pk b p (↑l.length : Int) < (↑l.length : Int))) (R (some { av := AV.tup [AV.agg [AV.ows 0, AV.ows 1, AV.ows 2], AV.ows 3], obs := [AO.row ks u, AO.row ks v, AO.row kl c, AO.row k3 (l.set (pk b p (↑l.length : Int)).toNat ((l.getD (pk b p (↑l.length : Int)).toNat (edflt k3)).fst, (l.getD (pk b p (↑l.length : Int)).toNat (edflt k3)).snd.fst, [(0, ()), (1000, ()), (1001, ())].getD (pk b (p + 1 + 1) 3).toNat (edflt ki))), AO.box [AV.rsl ku b, vI (p + 1 + 1 + 1)]], outs := [some 4] })) False) False) (br (pk b (p + 1) 32 == 1) (br (okB b && (decide (b.length ≤ 1048576) && (decide (0 ≤ p + 1 + 1 ∧ p + 1 + 1 ≤ 1000000) && true))) (br (decide (0 ≤ pk b p (↑l.length : Int) ∧ pk b p (↑l.length : Int) < (↑l.length : Int))) (R (some { av := AV.tup [AV.agg [AV.ows 0, AV.ows 1, AV.ows 2], AV.ows 3], obs := [AO.row ks u, AO.row ks v, AO.row kl c, AO.row k3 (l.set (pk b p (↑l.length : Int)).toNat (([(-1, ()), (0, ()), (65521, ())].getD (pk b (p + 1 + 1) 3).toNat (edflt ki)).fst, (l.getD (pk b p (↑l.length : Int)).toNat (edflt k3)).snd)), AO.box [AV.rsl ku b, vI (p + 1 + 1 + 1)]], outs := [some 4] })) False) False) (br (pk b (p + 1) 32 == 2) (br (okB b && (decide (b.length ≤ 1048576) && (decide (0 ≤ p + 1 + 1 ∧ p + 1 + 1 ≤ 1000000) && true))) (br (decide (0 ≤ pk b p (↑l.length : Int) ∧ pk b p (↑l.length : Int) < (↑l.length : Int))) (R (some { av := AV.tup [AV.agg [AV.ows 0, AV.ows 1, AV.ows 2], AV.ows 3], obs := [AO.row ks u, AO.row ks v, AO.row kl c, AO.row k3 (l.set (pk b p (↑l.length : Int)).toNat ((l.getD (pk b p (↑l.length : Int)).toNat (edflt k3)).fst, ([(0, ()), (120, ()), (11, ())].getD (pk b (p + 1 + 1) 3).toNat (edflt ki)).fst, (l.getD (pk b p (↑l.length : Int)).toNat (edflt k3)).snd.snd)), AO.box [AV.rsl ku b, vI (p + 1 + 1 + 1)]], outs := [some 4] })) False) False) (br (pk b (p + 1) 32 == 3) (br (decide (0 ≤ pk b p (↑l.length : Int) ∧ pk b p (↑l.length : Int) < (↑l.length : Int))) (br (decide ((l.length + [l.getD (pk b p (↑l.length : Int)).toNat (edflt k3)].length) * 24 ≤ 140737488355328)) (R (some { av := AV.tup [AV.agg [AV.ows 0, AV.ows 1, AV.ows 2], AV.ows 3], obs := [AO.row ks u, AO.row ks v, AO.row kl c, AO.row k3 (l ++ [l.getD (pk b p (↑l.length : Int)).toNat (edflt k3)]), AO.box [AV.rsl ku b, vI (p + 1 + 1)]], outs := [some 4] })) False) False) (R (some { av := AV.tup [AV.agg [AV.ows 0, AV.ows 1, AV.ows 2], AV.ows 3], obs := [AO.row ks u, AO.row ks v, AO.row kl c, AO.row k3 l, AO.box [AV.rsl ku b, vI (p + 1 + 1)]], outs := [some 4] })))))) False) False) (R (some { av := AV.tup [AV.agg [AV.ows 0, AV.ows 1, AV.ows 2], AV.ows 3], obs := [AO.row ks u, AO.row ks v, AO.row kl c, AO.row k3 l, AO.box [AV.rsl ku b, vI p]], outs := [some 4] })))) := by kernel_rfl
end Go.Proofs.Ytkjnijddbiconaa.Ev
