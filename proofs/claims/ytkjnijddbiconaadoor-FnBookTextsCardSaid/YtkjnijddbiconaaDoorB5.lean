/- Books that are drawn. -/
import Derived.Test.YtkjnijddbiconaaDoorB4
namespace Go.Proofs.YtkjnijddbiconaaDoor.Ev
open Go
set_option linter.unusedVariables false
set_option linter.unusedSimpArgs false
set_option maxRecDepth 100000
def stp (b : List (Elem ku)) (s : Int × List (Elem kb)) : Int × List (Elem kb) := ((opR b s.1 s.2).p, match klS s.2 (opR b s.1 s.2).o (opR b s.1 s.2).a with
  | true => s.2.take (lnB s.2 (opR b s.1 s.2).a) ++ s.2.drop (lnB s.2 (opR b s.1 s.2).a + 1)
  | false => (doR s.2 (opR b s.1 s.2).o (opR b s.1 s.2).a (opR b s.1 s.2).c (opR b s.1 s.2).i (opR b s.1 s.2).t).1)
def ply (b : List (Elem ku)) : Nat → Int × List (Elem kb) → Int × List (Elem kb)
  | 0, s => s
  | n + 1, s => stp b (ply b n s)
def g57 : G1
  | [.ptr 0 0, .val (.int .i64 n)], [.box [.rsl [.int .u8] b, .val (.int .i64 p)]], k => br (okY b && (decide (b.length ≤ 1048576) && (decide (0 ≤ p ∧ p ≤ 1000) && decide (0 ≤ n ∧ n ≤ 100)))) (k ⟨.agg [.ows 0], [.row kb (ply b n.toNat (p, [])).2, .box [.rsl ku b, .val (.int .i64 (ply b n.toNat (p, [])).1)]], [some 1]⟩) False
  | _, _, _ => False
theorem op1_p (b : List (Elem ku)) (p : Int) : (op1 b p).p = p + 5 := by
  show p + 1 + 1 + 1 + 1 + 1 = _
  omega
theorem opR_p (b : List (Elem ku)) (p : Int) (xs : List (Elem kb)) : p ≤ (opR b p xs).p ∧ (opR b p xs).p ≤ p + 17 := by
  unfold opR
  have a1 := op1_p b p
  have a2 := op2_p b (op1 b p)
  have a3 := op3_p b xs (op2 b (op1 b p))
  have a4 := op4_p b xs (op3 b xs (op2 b (op1 b p)))
  have a5 := op5_p b (op4 b xs (op3 b xs (op2 b (op1 b p))))
  omega
def smE (e : Elem kb) : Prop := e.1.size ≤ 100 ∧ e.2.2.1.size ≤ 100
def smO (s : OpS) : Prop := s.a.size ≤ 100 ∧ s.c.size ≤ 100
def smX (xs : List (Elem kb)) : Prop := xs.length ≤ 6 ∧ ∀ e ∈ xs, smE e
theorem smE_d : smE (edflt kb) := ⟨Nat.zero_le _, Nat.zero_le _⟩
theorem smE_at {xs : List (Elem kb)} (h : smX xs) (i : Nat) : smE (xs.getD i (edflt kb)) := by
  rw [List.getD_eq_getElem?_getD]
  cases hc : xs[i]? with
  | none => exact smE_d
  | some e => exact h.2 e (List.mem_of_getElem? hc)
theorem at_sz : ∀ (ls : List (Elem ks)) (n i : Nat), (ls.all fun e => decide (e.1.size ≤ n)) = true → (at1 ls i).size ≤ n
  | [], n, i, h => by
    unfold at1
    rw [List.getD_nil]
    exact Nat.zero_le _
  | e :: ls, n, i, h => by
    rw [List.all_cons, Bool.and_eq_true] at h
    cases i with
    | zero => exact of_decide_eq_true h.1
    | succ i => exact at_sz ls n i h.2
theorem sm1 (b : List (Elem ku)) (p : Int) : smO (op1 b p) := ⟨at_sz lnW 100 _ (by decide), at_sz lnW 100 _ (by decide)⟩
theorem sm2 {b : List (Elem ku)} {s : OpS} (h : smO s) : smO (op2 b s) := by
  unfold op2
  split <;> exact h
theorem sm3 {b : List (Elem ku)} {xs : List (Elem kb)} {s : OpS} (hx : smX xs) (h : smO s) : smO (op3 b xs s) := by
  unfold op3
  repeat' split
  · exact h
  · exact ⟨(smE_at hx _).1, h.2⟩
  · exact h
theorem sm4 {b : List (Elem ku)} {xs : List (Elem kb)} {s : OpS} (hx : smX xs) (h : smO s) : smO (op4 b xs s) := by
  unfold op4
  repeat' split
  · exact h
  · exact ⟨(smE_at hx _).2, (smE_at hx _).1⟩
  · exact h
theorem sm5 {b : List (Elem ku)} {s : OpS} (h : smO s) : smO (op5 b s) := by
  unfold op5
  repeat' split
  · exact h
  · exact h
  · exact h
  · exact ⟨at_sz opA 100 _ (by decide), h.2⟩
  · exact ⟨h.1, at_sz opB' 100 _ (by decide)⟩
  · exact h
theorem smR (b : List (Elem ku)) (p : Int) {xs : List (Elem kb)} (h : smX xs) : smO (opR b p xs) := sm5 (sm4 h (sm3 h (sm2 (sm1 b p))))
theorem smX_kill {xs : List (Elem kb)} (h : smX xs) (k : Nat) : smX (xs.take k ++ xs.drop (k + 1)) := by
  refine ⟨?_, fun e he => ?_⟩
  · have := h.1
    rw [List.length_append, List.length_take, List.length_drop]
    omega
  · rcases List.mem_append.1 he with he | he
    · exact h.2 e (List.mem_of_mem_take he)
    · exact h.2 e (List.mem_of_mem_drop he)
theorem smX_new {xs : List (Elem kb)} (h : smX xs) {e : Elem kb} (he : smE e) : smX (nwR xs e).1 := by
  unfold nwR
  split
  · exact h
  split
  · exact h
  split
  · exact h
  rename_i hc
  have hl := h.1
  have hn : xs.length ≠ 6 := by
    intro e
    rw [e] at hc
    cases hc
  refine ⟨?_, fun u hu => ?_⟩
  · simp only [List.length_append, List.length_take, List.length_drop, List.length_cons, List.length_nil]
    omega
  · rcases List.mem_append.1 hu with hu | hu
    · rcases List.mem_append.1 hu with hu | hu
      · exact h.2 u (List.mem_of_mem_take hu)
      · rw [List.mem_singleton] at hu
        subst hu
        exact he
    · exact h.2 u (List.mem_of_mem_drop hu)
theorem smX_upd {xs : List (Elem kb)} (h : smX xs) (q j : Nat) (vs : List Value) : smX (updR kb xs q (3 + j) vs) := by
  unfold updR
  refine ⟨by rw [List.length_set]; exact h.1, fun e he => ?_⟩
  rcases List.mem_or_eq_of_mem_set he with he | he
  · exact h.2 e he
  · rw [he, Nat.add_comm]
    exact smE_at h q
theorem smX_do {xs : List (Elem kb)} (h : smX xs) (o : Int) {a c : ByteArray} (ha : a.size ≤ 100) (hc : c.size ≤ 100) (i : Int) (t : ByteArray) : smX (doR xs o a c i t).1 := by
  unfold doR
  split
  · exact smX_new h ⟨ha, Nat.zero_le _⟩
  split
  · exact h
  split
  · exact h
  split
  · exact h
  split
  · unfold ptR
    split
    · exact h
    split
    · exact h
    · exact smX_upd h _ _ _
  split
  · unfold bkR
    split
    · exact h
    split
    · exact h
    · exact smX_upd h _ 0 _
  split
  · split
    · exact h
    · exact smX_new h ⟨hc, (smE_at h _).1⟩
  · split
    · exact h
    · exact smX_new h ⟨hc, (smE_at h _).1⟩
theorem ply_ok (b : List (Elem ku)) (p : Int) : ∀ n : Nat, smX (ply b n (p, [])).2 ∧ p ≤ (ply b n (p, [])).1 ∧ (ply b n (p, [])).1 ≤ p + 17 * n
  | 0 => ⟨⟨Nat.zero_le _, fun e he => by cases he⟩, Int.le_refl _, by show p ≤ _; omega⟩
  | n + 1 => by
    obtain ⟨h1, h2, h3⟩ := ply_ok b p n
    show smX (stp b (ply b n (p, []))).2 ∧ p ≤ (stp b (ply b n (p, []))).1 ∧ (stp b (ply b n (p, []))).1 ≤ _
    generalize ply b n (p, []) = s at h1 h2 h3
    have h4 := opR_p b s.1 s.2
    have h5 := smR b s.1 h1
    refine ⟨?_, ?_, ?_⟩
    · show smX (match klS s.2 (opR b s.1 s.2).o (opR b s.1 s.2).a with | true => _ | false => _)
      split
      · exact smX_kill h1 _
      · exact smX_do h1 _ h5.1 h5.2 _ _
    · show p ≤ (opR b s.1 s.2).p
      omega
    · show (opR b s.1 s.2).p ≤ _
      omega
noncomputable def E57 : Env := Er.of Tryd.f57
noncomputable def G57 : Gk := gk [(84, g84), (85, g85), (83, g83)]
noncomputable def lp57 (n : Nat) : Code := (loopOf n (codeOf Tryd.f57)).getD .skip
noncomputable def ct57 (L : Lp) (R : Option Res → Prop) (n : Nat) : Kt := contOf E57 G57 L n (codeOf Tryd.f57) (endK E57 Tryd.f57.results.toList R)
noncomputable def rk57 (L : Lp) (R : Option Res → Prop) (n : Nat) (N : St → Prop) : Kt := rk (jof E57 (lp57 n)) N (ct57 L R n)
noncomputable def LOOP57 (L : Lp) (R : Option Res → Prop) (n : Nat) (st : St) : Prop := L (lp57 n) st (ct57 L R n)
theorem hg57 : HG Tryd.prog G57 := (hg_cons h84 (hg_cons h85 (hg_cons h83 hg_nil)))
theorem okf57 : Ok Tryd.prog E57 := okr.of Tryd.f57
theorem e57 (L : Lp) (R : Option Res → Prop) (b : List (Elem [.int .u8])) (p : Int) (n : Int) : (bodyP Er G57 L Tryd.f57 [.ptr 0 0, .val (.int .i64 n)] [.box [.rsl [.int .u8] b, .val (.int .i64 p)]] R) = (
    LOOP57 L R 3 { tm := [AV.ptr 0 0, vI n, vJ, vJ, AV.ptr 1 0, AV.ptr 3 0, vI 0, vJ, vJ, vJ, vJ, vJ, vJ, vJ, vJ, vJ, vJ, vJ, vJ, vJ, vJ, vJ, vJ], ob := [(0, AO.box [AV.rsl ku b, vI p]), (1, AO.box [AV.ows 2]), (2, AO.row kb []), (3, AO.box [AV.ows 4]), (4, AO.row kb [])], nx := 1000000, ps := [some 0] }) := by kernel_rfl
def st57 (b : List (Elem [.int .u8])) (p : Int) (n : Int) (i : Int) (xs ys : List (Elem kb)) : St :=  ⟨[AV.ptr 0 0, vI n, vJ, vJ, AV.ptr 1 0, AV.ptr 3 0, .val (.int .i64 i), vJ, vJ, vJ, vJ, vJ, vJ, vJ, vJ, vJ, vJ, vJ, vJ, vJ, vJ, vJ, vJ], [(0, AO.box [AV.rsl ku b, vI p]), (1, AO.box [AV.ows 2]), (2, .row kb xs), (3, AO.box [AV.ows 4]), (4, .row kb ys)], 1000000, [some 0]⟩
theorem b57 (L : Lp) (R : Option Res → Prop) (N : St → Prop) (b : List (Elem [.int .u8])) (p : Int) (n : Int) (i : Int) (xs ys : List (Elem kb)) : (evP E57 G57 L (lp57 3) (st57 b p n i xs ys) (rk57 L R 3 N)) = (
    br (decide (i < n)) (br (decide (ys.length ≤ 1048576)) (br (okY b && (decide (b.length ≤ 1048576) && (decide (0 ≤ p ∧ p ≤ 500000) && decide (ys.length ≤ 1000)))) (br (decide (ys.length ≤ 100) && (decide ((opR b p ys).a.size ≤ 1000000) && decide ((opR b p ys).c.size ≤ 1000000))) (br (klS ys (opR b p ys).o (opR b p ys).a) (N { tm := [AV.ptr 0 0, vI n, vJ, vJ, AV.ptr 1 0, AV.ptr 3 0, vI (IntKind.i64.wrap (i + 1)), vJ, vJ, vJ, vJ, vJ, vJ, vJ, vJ, vJ, vJ, vJ, vJ, vJ, vJ, vJ, vJ], ob := [(0, AO.box [AV.rsl ku b, vI (opR b p ys).p]), (1, AO.box [AV.ows 2]), (2, AO.row kb xs), (3, AO.box [AV.ows 4]), (4, AO.row kb (List.take (lnB ys (opR b p ys).a) ys ++ List.drop (lnB ys (opR b p ys).a + 1) ys))], nx := 1000000, ps := [some 0] }) (N { tm := [AV.ptr 0 0, vI n, vJ, vJ, AV.ptr 1 0, AV.ptr 3 0, vI (IntKind.i64.wrap (i + 1)), vJ, vJ, vJ, vJ, vJ, vJ, vJ, vJ, vJ, vJ, vJ, vJ, vJ, vJ, vJ, vJ], ob := [(0, AO.box [AV.rsl ku b, vI (opR b p ys).p]), (1, AO.box [AV.ows 2]), (2, AO.row kb xs), (3, AO.box [AV.ows 4]), (4, AO.row kb (doR ys (opR b p ys).o (opR b p ys).a (opR b p ys).c (opR b p ys).i (opR b p ys).t).fst)], nx := 1000000, ps := [some 0] })) False) False) False) (R (some { av := AV.agg [AV.ows 0], obs := [AO.row kb ys, AO.box [AV.rsl ku b, vI p]], outs := [some 1] }))) := by kernel_rfl
theorem h57 : G1Ok Tryd.prog 57 g57 := by
  intro args obs k h
  unfold g57 at h
  split at h
  · rename_i k n b p
    obtain ⟨hq, h⟩ := br_and h
    simp only [Bool.and_eq_true, decide_eq_true_eq] at hq
    obtain ⟨hb, hl, ⟨hp0, hp1⟩, hn0, hn1⟩ := hq
    refine ⟨_, ctr_fn okr hg57 Tryd.func57 (by kernel_rfl) (by kernel_rfl) (by kernel_rfl) fun C => ?_, h⟩
    rw [e57]
    refine loopUp okf57 hg57 (α := Int × List (Elem kb)) (fun i s => st57 b s.1 n i [] s.2) n.toNat (fun i s => s = ply b i (p, [])) (fun N i s hi hs next => ?_) (p, []) rfl
    show evP E57 G57 _ (lp57 3) (st57 b s.1 n i [] s.2) (rk57 _ _ 3 _)
    obtain ⟨⟨hx, hm⟩, h2, h3⟩ := ply_ok b p i
    have h5 := smR b s.1 (xs := s.2) (by rw [hs]; exact ⟨hx, hm⟩)
    rw [← hs] at hx h2 h3
    rw [b57, wrap_id (n := (i : Int) + 1) (by omega) (by omega)]
    refine br_dec (fun h4 => br_yes (by omega) (br_t ?_ (br_t ?_ ?_))) (fun h4 => ?_)
    · rw [hb, decide_eq_true hl, decide_eq_true (show 0 ≤ s.1 ∧ s.1 ≤ 500000 by omega)]
      exact decide_eq_true (by omega)
    · rw [decide_eq_true (show s.2.length ≤ 100 by omega), decide_eq_true (show (opR b s.1 s.2).a.size ≤ 1000000 by have := h5.1; omega)]
      exact decide_eq_true (by have := h5.2; omega)
    · refine br_intro (fun hk => ?_) (fun hk => ?_)
      · have := next (by omega) (stp b s) (by rw [hs]; rfl)
        have e : (stp b s).2 = s.2.take (lnB s.2 (opR b s.1 s.2).a) ++ s.2.drop (lnB s.2 (opR b s.1 s.2).a + 1) := by
          show (match klS s.2 (opR b s.1 s.2).o (opR b s.1 s.2).a with | true => _ | false => _) = _
          rw [hk]
        rw [e] at this
        exact this
      · have := next (by omega) (stp b s) (by rw [hs]; rfl)
        have e : (stp b s).2 = (doR s.2 (opR b s.1 s.2).o (opR b s.1 s.2).a (opR b s.1 s.2).c (opR b s.1 s.2).i (opR b s.1 s.2).t).1 := by
          show (match klS s.2 (opR b s.1 s.2).o (opR b s.1 s.2).a with | true => _ | false => _) = _
          rw [hk]
        rw [e] at this
        exact this
    · have e : i = n.toNat := by omega
      show _ = _
      rw [hs, e]
  · exact h.elim
def nmC (b : List (Elem ku)) (p : Int) : Int := ([(0, ()), (4, ()), (10, ()), (20, ()), (35, ())].getD (pk b p 5).toNat (edflt ki)).1
def bnt (b : List (Elem ku)) (p : Int) (xs : List (Elem kb)) : List (Elem kb) × Int := match (xs.length : Int) == 0 with
  | true => (xs, p)
  | false => match pk b (p + 1) 40 == 0 with
    | true => (updR kb xs (pk b p xs.length).toNat 0 [.string ⟨#[65]⟩], p + 1 + 1)
    | false => match pk b (p + 1) 40 == 1 with
      | true => (updR kb xs (pk b p xs.length).toNat 1 [.int .i64 (IntKind.i64.wrap (3 - (xs.getD (pk b p xs.length).toNat (edflt kb)).2.1))], p + 1 + 1)
      | false => match pk b (p + 1) 40 == 2 with
        | true => (updR kb xs (pk b p xs.length).toNat 2 [.string (at1 [(⟨#[110, 111, 110, 101]⟩, ()), ((xs.getD (pk b p xs.length).toNat (edflt kb)).1, ()), (⟨#[97]⟩, ())] (pk b (p + 1 + 1) 3).toNat)], p + 1 + 1 + 1)
        | false => match pk b (p + 1) 40 == 3 with
          | true => (xs ++ [xs.getD (pk b p xs.length).toNat (edflt kb)], p + 1 + 1)
          | false => match pk b (p + 1) 40 == 4 with
            | true => (updR kb xs (pk b p xs.length).toNat 3 [.string (mny ⟨#[121]⟩ 25)], p + 1 + 1)
            | false => (xs, p + 1 + 1)
def bkD (b : List (Elem ku)) (p : Int) : List (Elem kb) × Int := bnt b (ply b (nmC b p).toNat (p + 1, [])).1 (ply b (nmC b p).toNat (p + 1, [])).2
def g37 : G1
  | [.ptr 0 0], [.box [.rsl [.int .u8] b, .val (.int .i64 p)]], k => br (okY b && (decide (b.length ≤ 1048576) && decide (0 ≤ p ∧ p ≤ 100))) (k ⟨.agg [.ows 0], [.row kb (bkD b p).1, .box [.rsl ku b, .val (.int .i64 (bkD b p).2)]], [some 1]⟩) False
  | _, _, _ => False
theorem nmC_b (b : List (Elem ku)) (p : Int) : 0 ≤ nmC b p ∧ nmC b p ≤ 35 := by
  unfold nmC
  generalize (pk b p 5).toNat = i
  match i with
  | 0 => decide
  | 1 => decide
  | 2 => decide
  | 3 => decide
  | 4 => decide
  | n + 5 => exact (show (0 : Int) ≤ 0 ∧ (0 : Int) ≤ 35 by decide)
def smX' (xs : List (Elem kb)) : Prop := xs.length ≤ 7 ∧ ∀ e ∈ xs, e.1.size ≤ 100
theorem sm_upd {xs : List (Elem kb)} (h : smX xs) (q j : Nat) (vs : List Value) (hv : ∀ e : Elem kb, e.1.size ≤ 100 → (putV kb j vs e).1.size ≤ 100) : smX' (updR kb xs q j vs) := by
  unfold updR
  refine ⟨by rw [List.length_set]; have := h.1; omega, fun e he => ?_⟩
  rcases List.mem_or_eq_of_mem_set he with he | he
  · exact (h.2 e he).1
  · rw [he]
    exact hv _ (smE_at h q).1
theorem bnt_ok (b : List (Elem ku)) (p : Int) {xs : List (Elem kb)} (h : smX xs) : smX' (bnt b p xs).1 := by
  have h0 : smX' xs := ⟨by have := h.1; omega, fun e he => (h.2 e he).1⟩
  unfold bnt
  repeat' split
  · exact h0
  · exact sm_upd h _ _ _ fun e he => by show 1 ≤ 100; omega
  · exact sm_upd h _ _ _ fun e he => he
  · exact sm_upd h _ _ _ fun e he => he
  · refine ⟨by rw [List.length_append]; have := h.1; show xs.length + 1 ≤ 7; omega, fun e he => ?_⟩
    rcases List.mem_append.1 he with he | he
    · exact (h.2 e he).1
    · rw [List.mem_singleton] at he
      rw [he]
      exact (smE_at h _).1
  · exact sm_upd h _ _ _ fun e he => he
  · exact h0
theorem bkD_ok (b : List (Elem ku)) (p : Int) : smB (bkD b p).1 = true := by
  have h := bnt_ok b (ply b (nmC b p).toNat (p + 1, [])).1 (ply_ok b (p + 1) (nmC b p).toNat).1
  unfold smB
  rw [Bool.and_eq_true, decide_eq_true_eq, List.all_eq_true]
  refine ⟨Nat.le_trans h.1 (by decide), fun e he => decide_eq_true (Nat.le_trans (h.2 e he) (by decide))⟩
noncomputable def E37 : Env := Er.of Tryd.f37
noncomputable def G37 : Gk := gk [(34, g34), (35, g35), (58, g58), (57, g57), (59, g59)]
theorem hg37 : HG Tryd.prog G37 := (hg_cons h34 (hg_cons h35 (hg_cons h58 (hg_cons h57 (hg_cons h59 hg_nil)))))
theorem okf37 : Ok Tryd.prog E37 := okr.of Tryd.f37
noncomputable def kk37 (R : Option Res → Prop) : Kt := endK E37 Tryd.f37.results.toList R
noncomputable def pt37 (n : Nat) : Code := fsC (rstC n (codeOf Tryd.f37))
noncomputable def jj37 (n : Nat) : List Tmp := jnk E37 200 (rstC (n + 1) (codeOf Tryd.f37))
theorem u0 (L : Lp) (R : Option Res → Prop) (N : St → Prop) (b : List (Elem [.int .u8])) (p : Int) : (evP E37 G37 L (pt37 0) (initSt Tryd.f37.ntmps [.ptr 0 0] [.box [.rsl [.int .u8] b, .val (.int .i64 p)]]) (rk (jj37 0) N (kk37 R))) = (
    N { tm := [AV.ptr 0 0, vJ, AV.ptr 1 0, vJ, vJ, vJ, vJ, vJ, vJ, vJ, vJ, vJ, vJ, vJ, vJ, vJ, vJ, vJ, vJ, vJ, vJ, vJ, vJ, vJ, vJ, vJ, vJ, vJ, vJ, vJ, vJ, vJ, vJ, vJ, vJ, vJ, vJ, vJ, vJ, vJ, vJ, vJ, vJ, vJ, vJ, vJ, vJ, vJ, vJ, vJ, vJ, vJ, vJ, vJ, vJ, vJ, vJ, vJ, vJ, vJ, vJ, vJ, vJ, vJ, vJ, vJ, vJ, vJ, vJ, vJ, vJ, vJ, vJ, vJ, vJ, vJ, vJ, vJ, vJ, vJ, vJ], ob := [(0, AO.box [AV.rsl ku b, vI p]), (1, AO.box [AV.ows 2]), (2, AO.row kb [])], nx := 1000000, ps := [some 0] }) := by kernel_rfl
def v1 (b : List (Elem [.int .u8])) (p : Int) : St :=  ⟨[AV.ptr 0 0, vJ, AV.ptr 1 0, vJ, vJ, vJ, vJ, vJ, vJ, vJ, vJ, vJ, vJ, vJ, vJ, vJ, vJ, vJ, vJ, vJ, vJ, vJ, vJ, vJ, vJ, vJ, vJ, vJ, vJ, vJ, vJ, vJ, vJ, vJ, vJ, vJ, vJ, vJ, vJ, vJ, vJ, vJ, vJ, vJ, vJ, vJ, vJ, vJ, vJ, vJ, vJ, vJ, vJ, vJ, vJ, vJ, vJ, vJ, vJ, vJ, vJ, vJ, vJ, vJ, vJ, vJ, vJ, vJ, vJ, vJ, vJ, vJ, vJ, vJ, vJ, vJ, vJ, vJ, vJ, vJ, vJ], [(0, AO.box [AV.rsl ku b, vI p]), (1, AO.box [AV.ows 2]), (2, AO.row kb [])], 1000000, [some 0]⟩
theorem u1 (L : Lp) (R : Option Res → Prop) (N : St → Prop) (b : List (Elem [.int .u8])) (p : Int) : (evP E37 G37 L (pt37 1) (v1 b p) (rk (jj37 1) N (kk37 R))) = (
    br (okY b && (decide (b.length ≤ 1048576) && (decide (0 ≤ p ∧ p ≤ 1000000) && true))) (br (okY b && (decide (b.length ≤ 1048576) && (decide (0 ≤ p + 1 ∧ p + 1 ≤ 1000) && decide (0 ≤ ([(0, ()), (4, ()), (10, ()), (20, ()), (35, ())].getD (pk b p 5).toNat (edflt ki)).fst ∧ ([(0, ()), (4, ()), (10, ()), (20, ()), (35, ())].getD (pk b p 5).toNat (edflt ki)).fst ≤ 100)))) (N { tm := [AV.ptr 0 0, vJ, AV.ptr 1 0, AV.ptr 3 0, vJ, vJ, vJ, vJ, vJ, vJ, vJ, vJ, vJ, vJ, vJ, vJ, vJ, vJ, vJ, vJ, vJ, vJ, vJ, vJ, vJ, vJ, vJ, vJ, vJ, vJ, vJ, vJ, vJ, vJ, vJ, vJ, vJ, vJ, vJ, vJ, vJ, vJ, vJ, vJ, vJ, vJ, vJ, vJ, vJ, vJ, vJ, vJ, vJ, vJ, vJ, vJ, vJ, vJ, vJ, vJ, vJ, vJ, vJ, vJ, vJ, vJ, vJ, vJ, vJ, vJ, vJ, vJ, vJ, vJ, vJ, vJ, vJ, vJ, vJ, vJ, vJ], ob := [(0, AO.box [AV.rsl ku b, vI (ply b (Int.toNat ([(0, ()), (4, ()), (10, ()), (20, ()), (35, ())].getD (pk b p 5).toNat (edflt ki)).fst) (p + 1, [])).fst]), (1, AO.box [AV.ows 2]), (2, AO.row kb []), (3, AO.box [AV.ows 4]), (4, AO.row kb (ply b (Int.toNat ([(0, ()), (4, ()), (10, ()), (20, ()), (35, ())].getD (pk b p 5).toNat (edflt ki)).fst) (p + 1, [])).snd)], nx := 1000000, ps := [some 0] }) False) False) := by kernel_rfl
def v2 (b : List (Elem [.int .u8])) (p : Int) (xs : List (Elem kb)) : St :=  ⟨[AV.ptr 0 0, vJ, AV.ptr 1 0, AV.ptr 3 0, vJ, vJ, vJ, vJ, vJ, vJ, vJ, vJ, vJ, vJ, vJ, vJ, vJ, vJ, vJ, vJ, vJ, vJ, vJ, vJ, vJ, vJ, vJ, vJ, vJ, vJ, vJ, vJ, vJ, vJ, vJ, vJ, vJ, vJ, vJ, vJ, vJ, vJ, vJ, vJ, vJ, vJ, vJ, vJ, vJ, vJ, vJ, vJ, vJ, vJ, vJ, vJ, vJ, vJ, vJ, vJ, vJ, vJ, vJ, vJ, vJ, vJ, vJ, vJ, vJ, vJ, vJ, vJ, vJ, vJ, vJ, vJ, vJ, vJ, vJ, vJ, vJ], [(0, .box [.rsl ku b, .val (.int .i64 p)]), (1, AO.box [AV.ows 2]), (2, AO.row kb []), (3, AO.box [AV.ows 4]), (4, .row kb xs)], 1000000, [some 0]⟩
theorem u2 (L : Lp) (R : Option Res → Prop) (b : List (Elem [.int .u8])) (p : Int) (xs : List (Elem kb)) : (evP E37 G37 L (rstC 2 (codeOf Tryd.f37)) (v2 b p xs) (kk37 R)) = (
    br ((↑xs.length : Int) == 0) (R (some { av := AV.agg [AV.ows 0], obs := [AO.row kb xs, AO.box [AV.rsl ku b, vI p]], outs := [some 1] })) (br (okY b && (decide (b.length ≤ 1048576) && (decide (0 ≤ p ∧ p ≤ 1000000) && decide ((↑xs.length : Int) ≤ 1000000)))) (br (okY b && (decide (b.length ≤ 1048576) && (decide (0 ≤ p + 1 ∧ p + 1 ≤ 1000000) && true))) (br (pk b (p + 1) 40 == 0) (br (decide (0 ≤ pk b p (↑xs.length : Int) ∧ pk b p (↑xs.length : Int) < (↑xs.length : Int))) (R (some { av := AV.agg [AV.ows 0], obs := [AO.row kb (updR kb xs (pk b p (↑xs.length : Int)).toNat 0 [Value.string { data := #[65] }]), AO.box [AV.rsl ku b, vI (p + 1 + 1)]], outs := [some 1] })) False) (br (pk b (p + 1) 40 == 1) (br (decide (0 ≤ pk b p (↑xs.length : Int) ∧ pk b p (↑xs.length : Int) < (↑xs.length : Int))) (br (decide (0 ≤ pk b p (↑xs.length : Int) ∧ pk b p (↑xs.length : Int) < (↑xs.length : Int))) (R (some { av := AV.agg [AV.ows 0], obs := [AO.row kb (updR kb xs (pk b p (↑xs.length : Int)).toNat 1 [Value.int IntKind.i64 (IntKind.i64.wrap (3 - (xs.getD (pk b p (↑xs.length : Int)).toNat (edflt kb)).snd.fst))]), AO.box [AV.rsl ku b, vI (p + 1 + 1)]], outs := [some 1] })) False) False) (br (pk b (p + 1) 40 == 2) (br (decide (0 ≤ pk b p (↑xs.length : Int) ∧ pk b p (↑xs.length : Int) < (↑xs.length : Int))) (br (okY b && (decide (b.length ≤ 1048576) && (decide (0 ≤ p + 1 + 1 ∧ p + 1 + 1 ≤ 1000000) && (decide (1 ≤ [({ data := #[110, 111, 110, 101] }, ()), ((xs.getD (pk b p (↑xs.length : Int)).toNat (edflt kb)).fst, ()), ({ data := #[97] }, ())].length) && decide ([({ data := #[110, 111, 110, 101] }, ()), ((xs.getD (pk b p (↑xs.length : Int)).toNat (edflt kb)).fst, ()), ({ data := #[97] }, ())].length ≤ 1000000))))) (br (decide (0 ≤ pk b p (↑xs.length : Int) ∧ pk b p (↑xs.length : Int) < (↑xs.length : Int))) (R (some { av := AV.agg [AV.ows 0], obs := [AO.row kb (updR kb xs (pk b p (↑xs.length : Int)).toNat 2 [Value.string (at1 [({ data := #[110, 111, 110, 101] }, ()), ((xs.getD (pk b p (↑xs.length : Int)).toNat (edflt kb)).fst, ()), ({ data := #[97] }, ())] (pk b (p + 1 + 1) (↑[({ data := #[110, 111, 110, 101] }, ()), ((xs.getD (pk b p (↑xs.length : Int)).toNat (edflt kb)).fst, ()), ({ data := #[97] }, ())].length : Int)).toNat)]), AO.box [AV.rsl ku b, vI (p + 1 + 1 + 1)]], outs := [some 1] })) False) False) False) (br (pk b (p + 1) 40 == 3) (br (decide (0 ≤ pk b p (↑xs.length : Int) ∧ pk b p (↑xs.length : Int) < (↑xs.length : Int))) (br (decide ((xs.length + [xs.getD (pk b p (↑xs.length : Int)).toNat (edflt kb)].length) * 168 ≤ 140737488355328)) (R (some { av := AV.agg [AV.ows 0], obs := [AO.row kb (xs ++ [xs.getD (pk b p (↑xs.length : Int)).toNat (edflt kb)]), AO.box [AV.rsl ku b, vI (p + 1 + 1)]], outs := [some 1] })) False) False) (br (pk b (p + 1) 40 == 4) (br (decide (0 ≤ pk b p (↑xs.length : Int) ∧ pk b p (↑xs.length : Int) < (↑xs.length : Int))) (R (some { av := AV.agg [AV.ows 0], obs := [AO.row kb (updR kb xs (pk b p (↑xs.length : Int)).toNat 3 [Value.string (mny { data := #[121] } 25)]), AO.box [AV.rsl ku b, vI (p + 1 + 1)]], outs := [some 1] })) False) (R (some { av := AV.agg [AV.ows 0], obs := [AO.row kb xs, AO.box [AV.rsl ku b, vI (p + 1 + 1)]], outs := [some 1] }))))))) False) False)) := by kernel_rfl
theorem q37_0 : codeOf Tryd.f37 = (pt37 0).seq (rstC 1 (codeOf Tryd.f37)) := by kernel_rfl
theorem q37_1 : rstC 1 (codeOf Tryd.f37) = (pt37 1).seq (rstC 2 (codeOf Tryd.f37)) := by kernel_rfl
theorem w2 (C : Cx) {b : List (Elem ku)} (hb : okY b = true) (hl : b.length ≤ 1048576) {p' : Int} (hp0 : 0 ≤ p') (hp1 : p' ≤ 900000) {xs : List (Elem kb)} (hxl : xs.length ≤ 6) : RunOk Tryd.prog C (rstC 2 (codeOf Tryd.f37)) (v2 b p' xs) (kk37 fun o => o = some ⟨.agg [.ows 0], [.row kb (bnt b p' xs).1, .box [.rsl ku b, .val (.int .i64 (bnt b p' xs).2)]], [some 1]⟩) := by
  have d1 : ∀ x : Int, 0 ≤ x → x ≤ 1000000 → (okY b && (decide (b.length ≤ 1048576) && (decide (0 ≤ x ∧ x ≤ 1000000) && true))) = true := fun x h0 h1 => by
    rw [hb, decide_eq_true hl, decide_eq_true (And.intro h0 h1)]
    rfl
  refine run_of okf37 hg37 ?_
  show evP E37 G37 _ (rstC 2 (codeOf Tryd.f37)) (v2 b p' xs) (kk37 _)
  rw [u2]
  unfold bnt
  refine br_intro (fun e0 => by rw [e0]) (fun e0 => br_t ?_ (br_t (d1 (p' + 1) (by omega) (by omega)) ?_))
  · rw [hb, decide_eq_true hl, decide_eq_true (show 0 ≤ p' ∧ p' ≤ 1000000 by omega)]
    exact decide_eq_true (by omega)
  have hne : (xs.length : Int) ≠ 0 := fun e => by rw [e] at e0; cases e0
  have hr := pk_lt hb (p := p') (n := xs.length) (by omega) (by omega) (by omega)
  refine br_intro (fun e1 => br_yes hr ?_) (fun e1 => br_intro (fun e2 => br_yes hr (br_yes hr ?_)) (fun e2 => br_intro (fun e3 => br_yes hr (br_t ?_ (br_yes hr ?_))) (fun e3 => br_intro (fun e4 => br_yes hr (br_yes ?_ ?_)) (fun e4 => br_intro (fun e5 => br_yes hr ?_) (fun e5 => ?_)))))
  · rw [e0, e1]
  · rw [e0, e1, e2]
  · rw [hb, decide_eq_true hl, decide_eq_true (show 0 ≤ p' + 1 + 1 ∧ p' + 1 + 1 ≤ 1000000 by omega)]
    rfl
  · rw [e0, e1, e2, e3]
    rfl
  · show (xs.length + 1) * 168 ≤ _
    omega
  · rw [e0, e1, e2, e3, e4]
  · rw [e0, e1, e2, e3, e4, e5]
  · rw [e0, e1, e2, e3, e4, e5]
theorem w1 (C : Cx) (r : Res) {b : List (Elem ku)} (hb : okY b = true) (hl : b.length ≤ 1048576) {p : Int} (hp0 : 0 ≤ p) (hp1 : p ≤ 100) (n : RunOk Tryd.prog C (rstC 2 (codeOf Tryd.f37)) (v2 b (ply b (nmC b p).toNat (p + 1, [])).1 (ply b (nmC b p).toNat (p + 1, [])).2) (kk37 fun o => o = some r)) : RunOk Tryd.prog C (rstC 1 (codeOf Tryd.f37)) (v1 b p) (kk37 fun o => o = some r) := by
  have hn := nmC_b b p
  rw [q37_1]
  refine run_cut okf37 hg37 (jj37 1) ?_
  show evP E37 G37 _ (pt37 1) (v1 b p) (rk (jj37 1) _ (kk37 _))
  rw [u1]
  refine br_t ?_ (br_t ?_ n)
  · rw [hb, decide_eq_true hl, decide_eq_true (show 0 ≤ p ∧ p ≤ 1000000 by omega)]
    rfl
  · rw [hb, decide_eq_true hl, decide_eq_true (show 0 ≤ p + 1 ∧ p + 1 ≤ 1000 by omega)]
    exact decide_eq_true (show 0 ≤ nmC b p ∧ nmC b p ≤ 100 by omega)
theorem h37 : G1Ok Tryd.prog 37 g37 := by
  intro args obs k h
  unfold g37 at h
  split at h
  · rename_i b p
    obtain ⟨hq, h⟩ := br_and h
    simp only [Bool.and_eq_true, decide_eq_true_eq] at hq
    obtain ⟨hb, hl, hp0, hp1⟩ := hq
    refine ⟨_, ctr_run okr Tryd.func37 (by kernel_rfl) (by kernel_rfl) (by kernel_rfl) fun C => ?_, h⟩
    have hn := nmC_b b p
    obtain ⟨⟨hx, hm⟩, h2, h3⟩ := ply_ok b (p + 1) (nmC b p).toNat
    show RunOk Tryd.prog C (codeOf Tryd.f37) _ (kk37 _)
    rw [q37_0]
    refine run_cut okf37 hg37 (jj37 0) ?_
    show evP E37 G37 _ (pt37 0) (initSt Tryd.f37.ntmps [.ptr 0 0] [.box [.rsl [.int .u8] b, .val (.int .i64 p)]]) (rk (jj37 0) _ (kk37 _))
    rw [u0]
    exact w1 C _ hb hl hp0 hp1 (w2 C hb hl (by omega) (by omega) hx)
  · exact h.elim
end Go.Proofs.YtkjnijddbiconaaDoor.Ev
