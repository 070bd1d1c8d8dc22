/- What is drawn. -/
import Derived.Test.YtkjnijddbiconaaD1
namespace Go.Proofs.Ytkjnijddbiconaa.Ev
open Go
set_option linter.unusedVariables false
set_option linter.unusedSimpArgs false
set_option maxRecDepth 100000
def Er : Env := ⟨tt, [1000000, 27, 31, 38, 29, 28], E0.eqs, .skip, []⟩
theorem okr : Ok Try.prog Er := ⟨ttOK, eqsOK, by kernel_rfl⟩
def bA (b : List (Elem ku)) (i : Nat) : Int := (b.getD i (edflt ku)).1
def okB (b : List (Elem ku)) : Bool := b.all fun e => decide (0 ≤ (e.1 : Int) ∧ (e.1 : Int) ≤ 255)
def kX (b : List (Elem ku)) (p : Int) : Int := bA b (p.tmod b.length).toNat * 131 + bA b ((p * 7 + 3).tmod b.length).toNat * 1117 + p * 29 + p.tdiv b.length * 53
def kY (x : Int) : Int := IntKind.i64.wrap (BitVec.ofInt 64 x ^^^ BitVec.ofInt 64 (x.tdiv 64)).toNat
def pk (b : List (Elem ku)) (p n : Int) : Int := match decide (n < 1) || decide ((b.length : Int) = 0) with
  | true => 0
  | false => match decide (p < b.length) with
    | true => (bA b p.toNat).tmod n
    | false => (kY (kX b p)).tmod n
def opB (b : List (Elem ku)) : List (Elem ku) := match decide ((b.length : Int) > 2000) with
  | true => b.take 2000
  | false => b
def g27 : G1
  | [.rsl [.int .u8] b], [], k => br (okB b && decide (b.length ≤ 1048576)) (k ⟨.ptr 0 0, [.box [.rsl ku (opB b), .val (.int .i64 0)]], []⟩) False
  | _, _, _ => False
def g31 : G1
  | [.ptr 0 0, .val (.int .i64 n)], [.box [.rsl [.int .u8] b, .val (.int .i64 p)]], k => br (okB b && (decide (b.length ≤ 1048576) && (decide (0 ≤ p ∧ p ≤ 1000000) && decide (n ≤ 1000000)))) (k ⟨.val (.int .i64 (pk b p n)), [.box [.rsl ku b, .val (.int .i64 (p + 1))]], [some 0]⟩) False
  | _, _, _ => False
def g38 : G1
  | [.ptr 0 0, .ows 1], [.box [.rsl [.int .u8] b, .val (.int .i64 p)], .row [.str] xs], k => br (okB b && (decide (b.length ≤ 1048576) && (decide (0 ≤ p ∧ p ≤ 1000000) && (decide (1 ≤ xs.length) && decide (xs.length ≤ 1000000))))) (k ⟨.val (.string (at1 xs (pk b p xs.length).toNat)), [.box [.rsl ku b, .val (.int .i64 (p + 1))], .row ks xs], [some 0, some 1]⟩) False
  | _, _, _ => False
theorem bA_lt {b : List (Elem ku)} (h : okB b = true) (i : Nat) : 0 ≤ bA b i ∧ bA b i ≤ 255 := by
  unfold bA
  rw [List.getD_eq_getElem?_getD]
  cases hx : b[i]? with
  | none => exact ⟨by show (0 : Int) ≤ 0; omega, by show (0 : Int) ≤ 255; omega⟩
  | some e =>
    have hm : e ∈ b := List.mem_of_getElem? hx
    unfold okB at h
    exact of_decide_eq_true (List.all_eq_true.1 h e hm)
theorem kY_lt {x : Int} (h0 : 0 ≤ x) (h1 : x ≤ 1099511627775) : 0 ≤ kY x ∧ kY x ≤ 1099511627775 := by
  obtain ⟨m, rfl⟩ : ∃ m : Nat, x = m := ⟨x.toNat, by omega⟩
  unfold kY
  have e1 : (BitVec.ofInt 64 (m : Int)).toNat = m := by rw [BitVec.toNat_ofInt]; omega
  have e2 : (BitVec.ofInt 64 ((m : Int).tdiv 64)).toNat = m / 64 := by rw [BitVec.toNat_ofInt, Int.tdiv_eq_ediv_of_nonneg (by omega)]; omega
  rw [BitVec.toNat_xor, e1, e2]
  have hlt : m ^^^ m / 64 < 2 ^ 40 := Nat.xor_lt_two_pow (by omega) (by omega)
  rw [wrap_id (by omega) (by omega)]
  omega
theorem kX_lt {b : List (Elem ku)} (h : okB b = true) {p : Int} (h0 : 0 ≤ p) (h1 : p ≤ 1048576) : 0 ≤ kX b p ∧ kX b p ≤ 1099511627775 := by
  have a1 := bA_lt h (p.tmod b.length).toNat
  have a2 := bA_lt h ((p * 7 + 3).tmod b.length).toNat
  have a3 : 0 ≤ p.tdiv b.length ∧ p.tdiv b.length ≤ p := by
    rw [Int.tdiv_eq_ediv_of_nonneg h0]
    exact ⟨Int.ediv_nonneg h0 (Int.natCast_nonneg _), Int.ediv_le_self _ h0⟩
  unfold kX
  omega
theorem tmod_lt {x n : Int} (h0 : 0 ≤ x) (h1 : 1 ≤ n) : 0 ≤ x.tmod n ∧ x.tmod n < n := by
  rw [Int.tmod_eq_emod_of_nonneg h0]
  exact ⟨Int.emod_nonneg _ (by omega), Int.emod_lt_of_pos _ (by omega)⟩
theorem pk_lt {b : List (Elem ku)} (h : okB b = true) {p n : Int} (h0 : 0 ≤ p) (h1 : p ≤ 1048576) (hn : 1 ≤ n) : 0 ≤ pk b p n ∧ pk b p n < n := by
  unfold pk
  split
  · omega
  · split
    · exact tmod_lt (bA_lt h _).1 hn
    · have := kX_lt h h0 h1
      exact tmod_lt (kY_lt this.1 this.2).1 hn
theorem pk_0 {b : List (Elem ku)} {p n : Int} (hn : n < 1) : pk b p n = 0 := by
  unfold pk
  rw [decide_eq_true hn]
  rfl
noncomputable def E27 : Env := Er.of Try.f27
noncomputable def G27 : Gk := gk []
noncomputable def lp27 (n : Nat) : Code := (loopOf n (codeOf Try.f27)).getD .skip
noncomputable def ct27 (L : Lp) (R : Option Res → Prop) (n : Nat) : Kt := contOf E27 G27 L n (codeOf Try.f27) (endK E27 Try.f27.results.toList R)
noncomputable def rk27 (L : Lp) (R : Option Res → Prop) (n : Nat) (N : St → Prop) : Kt := rk (jof E27 (lp27 n)) N (ct27 L R n)
noncomputable def rkn27 (L : Lp) (R : Option Res → Prop) (n : Nat) (N : St → Prop) (m : Nat) (N2 : St → Prop) : Kt := rk (jof E27 (lp27 m)) N2 (contOf E27 G27 L m (lp27 n) (rk27 L R n N))
noncomputable def LOOPN27 (L : Lp) (R : Option Res → Prop) (n : Nat) (N : St → Prop) (m : Nat) (st : St) : Prop := L (lp27 m) st (contOf E27 G27 L m (lp27 n) (rk27 L R n N))
noncomputable def LOOP27 (L : Lp) (R : Option Res → Prop) (n : Nat) (st : St) : Prop := L (lp27 n) st (ct27 L R n)
theorem hg27 : HG Try.prog G27 := hg_nil
theorem okf27 : Ok Try.prog E27 := okr.of Try.f27
theorem e27 (L : Lp) (R : Option Res → Prop) (b : List (Elem [.int .u8])) : (bodyP Er G27 L Try.f27 [.rsl [.int .u8] b] [] R) = (
    br (decide ((↑b.length : Int) > 2000)) (br (decide ((0 : Int) ≤ 0 ∧ (0 : Int) ≤ 2000 ∧ 2000 ≤ (↑b.length : Int) ∧ (↑b.length : Int) ≤ (↑b.length : Int))) (R (some { av := AV.ptr 0 0, obs := [AO.box [AV.rsl ku (List.drop 0 (List.take 2000 b)), vI 0]], outs := [] })) False) (R (some { av := AV.ptr 0 0, obs := [AO.box [AV.rsl ku b, vI 0]], outs := [] }))) := by kernel_rfl
theorem h27 : G1Ok Try.prog 27 g27 := by
  intro args obs k h
  unfold g27 at h
  split at h
  · rename_i k b
    obtain ⟨hp, h⟩ := br_and h
    refine ⟨_, ctr_fn okr hg27 Try.func27 (by kernel_rfl) (by kernel_rfl) (by kernel_rfl) fun C => ?_, h⟩
    rw [e27]
    unfold opB
    refine br_intro (fun h1 => br_yes ⟨by omega, by omega, by have := of_decide_eq_true h1; omega, by omega⟩ ?_) (fun h1 => ?_)
    · rw [h1]
      rfl
    · rw [h1]
  · exact h.elim
theorem okB_take {b : List (Elem ku)} (h : okB b = true) (n : Nat) : okB (b.take n) = true := by
  unfold okB at h ⊢
  rw [List.all_eq_true] at h ⊢
  exact fun e he => h e (List.mem_of_mem_take he)
theorem opB_ok {b : List (Elem ku)} (h : okB b = true) : okB (opB b) = true := by
  unfold opB
  split
  · exact okB_take h _
  · exact h
theorem opB_len (b : List (Elem ku)) : (opB b).length ≤ 2000 := by
  unfold opB
  split
  · rw [List.length_take]
    omega
  · rename_i h
    have := of_decide_eq_false h
    omega
noncomputable def E31 : Env := Er.of Try.f31
noncomputable def G31 : Gk := gk []
noncomputable def lp31 (n : Nat) : Code := (loopOf n (codeOf Try.f31)).getD .skip
noncomputable def ct31 (L : Lp) (R : Option Res → Prop) (n : Nat) : Kt := contOf E31 G31 L n (codeOf Try.f31) (endK E31 Try.f31.results.toList R)
noncomputable def rk31 (L : Lp) (R : Option Res → Prop) (n : Nat) (N : St → Prop) : Kt := rk (jof E31 (lp31 n)) N (ct31 L R n)
noncomputable def rkn31 (L : Lp) (R : Option Res → Prop) (n : Nat) (N : St → Prop) (m : Nat) (N2 : St → Prop) : Kt := rk (jof E31 (lp31 m)) N2 (contOf E31 G31 L m (lp31 n) (rk31 L R n N))
noncomputable def LOOPN31 (L : Lp) (R : Option Res → Prop) (n : Nat) (N : St → Prop) (m : Nat) (st : St) : Prop := L (lp31 m) st (contOf E31 G31 L m (lp31 n) (rk31 L R n N))
noncomputable def LOOP31 (L : Lp) (R : Option Res → Prop) (n : Nat) (st : St) : Prop := L (lp31 n) st (ct31 L R n)
theorem hg31 : HG Try.prog G31 := hg_nil
theorem okf31 : Ok Try.prog E31 := okr.of Try.f31
theorem e31 (L : Lp) (R : Option Res → Prop) (b : List (Elem [.int .u8])) (p n : Int) : (bodyP Er G31 L Try.f31 [.ptr 0 0, .val (.int .i64 n)] [.box [.rsl [.int .u8] b, .val (.int .i64 p)]] R) = (
    br (decide (n < 1)) (R (some { av := vI 0, obs := [AO.box [AV.rsl ku b, vI (IntKind.i64.wrap (p + 1))]], outs := [some 0] })) (br ((↑b.length : Int) == 0) (R (some { av := vI 0, obs := [AO.box [AV.rsl ku b, vI (IntKind.i64.wrap (p + 1))]], outs := [some 0] })) (br (decide (IntKind.i64.wrap (IntKind.i64.wrap (p + 1) - 1) < (↑b.length : Int))) (br (decide (0 ≤ IntKind.i64.wrap (IntKind.i64.wrap (p + 1) - 1) ∧ IntKind.i64.wrap (IntKind.i64.wrap (p + 1) - 1) < (↑b.length : Int))) (br (!decide (n = 0)) (R (some { av := vI ((IntKind.i64.wrap (b.getD (IntKind.i64.wrap (IntKind.i64.wrap (p + 1) - 1)).toNat (edflt ku)).fst).tmod n), obs := [AO.box [AV.rsl ku b, vI (IntKind.i64.wrap (p + 1))]], outs := [some 0] })) False) False) (br (!decide ((↑b.length : Int) = 0)) (br (decide (0 ≤ (IntKind.i64.wrap (IntKind.i64.wrap (p + 1) - 1)).tmod (↑b.length : Int) ∧ (IntKind.i64.wrap (IntKind.i64.wrap (p + 1) - 1)).tmod (↑b.length : Int) < (↑b.length : Int))) (br (!decide ((↑b.length : Int) = 0)) (br (decide (0 ≤ (IntKind.i64.wrap (IntKind.i64.wrap (IntKind.i64.wrap (IntKind.i64.wrap (p + 1) - 1) * 7) + 3)).tmod (↑b.length : Int) ∧ (IntKind.i64.wrap (IntKind.i64.wrap (IntKind.i64.wrap (IntKind.i64.wrap (p + 1) - 1) * 7) + 3)).tmod (↑b.length : Int) < (↑b.length : Int))) (br (!decide ((↑b.length : Int) = 0)) (br (!decide (n = 0)) (R (some { av := vI ((IntKind.i64.wrap (↑(BitVec.ofInt 64 (IntKind.i64.wrap (IntKind.i64.wrap (IntKind.i64.wrap (IntKind.i64.wrap (IntKind.i64.wrap (b.getD ((IntKind.i64.wrap (IntKind.i64.wrap (p + 1) - 1)).tmod (↑b.length : Int)).toNat (edflt ku)).fst * 131) + IntKind.i64.wrap (IntKind.i64.wrap (b.getD ((IntKind.i64.wrap (IntKind.i64.wrap (IntKind.i64.wrap (IntKind.i64.wrap (p + 1) - 1) * 7) + 3)).tmod (↑b.length : Int)).toNat (edflt ku)).fst * 1117)) + IntKind.i64.wrap (IntKind.i64.wrap (IntKind.i64.wrap (p + 1) - 1) * 29)) + IntKind.i64.wrap (IntKind.i64.wrap ((IntKind.i64.wrap (IntKind.i64.wrap (p + 1) - 1)).tdiv (↑b.length : Int)) * 53))) ^^^ BitVec.ofInt 64 (IntKind.i64.wrap ((IntKind.i64.wrap (IntKind.i64.wrap (IntKind.i64.wrap (IntKind.i64.wrap (IntKind.i64.wrap (b.getD ((IntKind.i64.wrap (IntKind.i64.wrap (p + 1) - 1)).tmod (↑b.length : Int)).toNat (edflt ku)).fst * 131) + IntKind.i64.wrap (IntKind.i64.wrap (b.getD ((IntKind.i64.wrap (IntKind.i64.wrap (IntKind.i64.wrap (IntKind.i64.wrap (p + 1) - 1) * 7) + 3)).tmod (↑b.length : Int)).toNat (edflt ku)).fst * 1117)) + IntKind.i64.wrap (IntKind.i64.wrap (IntKind.i64.wrap (p + 1) - 1) * 29)) + IntKind.i64.wrap (IntKind.i64.wrap ((IntKind.i64.wrap (IntKind.i64.wrap (p + 1) - 1)).tdiv (↑b.length : Int)) * 53))).tdiv 64))).toNat : Int)).tmod n), obs := [AO.box [AV.rsl ku b, vI (IntKind.i64.wrap (p + 1))]], outs := [some 0] })) False) False) False) False) False) False)))) := by kernel_rfl
theorem h31 : G1Ok Try.prog 31 g31 := by
  intro args obs k h
  unfold g31 at h
  split at h
  · rename_i k n b p
    obtain ⟨hq, h⟩ := br_and h
    simp only [Bool.and_eq_true, decide_eq_true_eq] at hq
    obtain ⟨hb, hl, ⟨hp0, hp1⟩, hn⟩ := hq
    refine ⟨_, ctr_fn okr hg31 Try.func31 (by kernel_rfl) (by kernel_rfl) (by kernel_rfl) fun C => ?_, h⟩
    rw [e31]
    have e1 : IntKind.i64.wrap (p + 1) = p + 1 := wrap_id (by omega) (by omega)
    have e2 : IntKind.i64.wrap (p + 1 - 1) = p := by rw [show p + 1 - 1 = p by omega]; exact wrap_id (by omega) (by omega)
    have e3 : IntKind.i64.wrap (p * 7) = p * 7 := wrap_id (by omega) (by omega)
    have e4 : IntKind.i64.wrap (p * 7 + 3) = p * 7 + 3 := wrap_id (by omega) (by omega)
    have a0 := bA_lt hb p.toNat
    have a1 := bA_lt hb (p.tmod b.length).toNat
    have a2 := bA_lt hb ((p * 7 + 3).tmod b.length).toNat
    have hx := kX_lt hb hp0 (show p ≤ 1048576 by omega)
    rw [e1, e2, e3, e4]
    have ex : IntKind.i64.wrap (IntKind.i64.wrap (IntKind.i64.wrap (IntKind.i64.wrap (IntKind.i64.wrap (bA b (p.tmod b.length).toNat) * 131) + IntKind.i64.wrap (IntKind.i64.wrap (bA b ((p * 7 + 3).tmod b.length).toNat) * 1117)) + IntKind.i64.wrap (p * 29)) + IntKind.i64.wrap (IntKind.i64.wrap (p.tdiv b.length) * 53)) = kX b p := by
      have a3 : 0 ≤ p.tdiv b.length ∧ p.tdiv b.length ≤ p := by
        rw [Int.tdiv_eq_ediv_of_nonneg hp0]
        exact ⟨Int.ediv_nonneg hp0 (Int.natCast_nonneg _), Int.ediv_le_self _ hp0⟩
      unfold kX
      generalize bA b (p.tmod b.length).toNat = x at *
      generalize bA b ((p * 7 + 3).tmod b.length).toNat = y at *
      generalize p.tdiv b.length = z at *
      rw [wrap_id (n := x) (by omega) (by omega), wrap_id (n := y) (by omega) (by omega), wrap_id (n := z) (by omega) (by omega), wrap_id (n := x * 131) (by omega) (by omega), wrap_id (n := y * 1117) (by omega) (by omega), wrap_id (n := p * 29) (by omega) (by omega), wrap_id (n := z * 53) (by omega) (by omega),
        wrap_id (n := x * 131 + y * 1117) (by omega) (by omega), wrap_id (n := x * 131 + y * 1117 + p * 29) (by omega) (by omega), wrap_id (by omega) (by omega)]
    have ed : ∀ x : Int, 0 ≤ x → x ≤ 1099511627775 → IntKind.i64.wrap (x.tdiv 64) = x.tdiv 64 := fun x h0 h1 => by
      rw [Int.tdiv_eq_ediv_of_nonneg h0]
      exact wrap_id (by omega) (by omega)
    unfold bA at ex a0 a1 a2
    rw [ex, ed _ hx.1 hx.2]
    unfold pk
    refine br_dec (fun h1 => ?_) (fun h1 => ?_)
    · rw [decide_eq_true h1]
      rfl
    · rw [decide_eq_false h1]
      refine br_intro (fun h2 => ?_) (fun h2 => ?_)
      · have h2 := eq_of_beq h2
        rw [decide_eq_true h2]
        rfl
      · have h2 : (b.length : Int) ≠ 0 := by simpa using h2
        rw [decide_eq_false h2]
        refine br_dec (fun h3 => ?_) (fun h3 => ?_)
        · rw [decide_eq_true h3]
          refine br_yes ⟨hp0, h3⟩ (br_t (by simp <;> omega) ?_)
          rw [wrap_id (by omega) (by omega)]
          rfl
        · rw [decide_eq_false h3]
          have m1 := tmod_lt hp0 (show (1 : Int) ≤ b.length by omega)
          have m2 := tmod_lt (show 0 ≤ p * 7 + 3 by omega) (show (1 : Int) ≤ b.length by omega)
          refine br_t (by simp <;> omega) (br_yes m1 (br_t (by simp <;> omega) (br_yes m2 (br_t (by simp <;> omega) (br_t (by simp <;> omega) ?_)))))
          rfl
  · exact h.elim
noncomputable def E38 : Env := Er.of Try.f38
noncomputable def G38 : Gk := gk [(31, g31)]
noncomputable def lp38 (n : Nat) : Code := (loopOf n (codeOf Try.f38)).getD .skip
noncomputable def ct38 (L : Lp) (R : Option Res → Prop) (n : Nat) : Kt := contOf E38 G38 L n (codeOf Try.f38) (endK E38 Try.f38.results.toList R)
noncomputable def rk38 (L : Lp) (R : Option Res → Prop) (n : Nat) (N : St → Prop) : Kt := rk (jof E38 (lp38 n)) N (ct38 L R n)
noncomputable def rkn38 (L : Lp) (R : Option Res → Prop) (n : Nat) (N : St → Prop) (m : Nat) (N2 : St → Prop) : Kt := rk (jof E38 (lp38 m)) N2 (contOf E38 G38 L m (lp38 n) (rk38 L R n N))
noncomputable def LOOPN38 (L : Lp) (R : Option Res → Prop) (n : Nat) (N : St → Prop) (m : Nat) (st : St) : Prop := L (lp38 m) st (contOf E38 G38 L m (lp38 n) (rk38 L R n N))
noncomputable def LOOP38 (L : Lp) (R : Option Res → Prop) (n : Nat) (st : St) : Prop := L (lp38 n) st (ct38 L R n)
theorem hg38 : HG Try.prog G38 := (hg_cons h31 hg_nil)
theorem okf38 : Ok Try.prog E38 := okr.of Try.f38
theorem e38 (L : Lp) (R : Option Res → Prop) (b : List (Elem [.int .u8])) (p : Int) (xs : List (Elem [.str])) : (bodyP Er G38 L Try.f38 [.ptr 0 0, .ows 1] [.box [.rsl [.int .u8] b, .val (.int .i64 p)], .row [.str] xs] R) = (
    br (okB b && (decide (b.length ≤ 1048576) && (decide (0 ≤ p ∧ p ≤ 1000000) && decide ((↑xs.length : Int) ≤ 1000000)))) (br (decide (0 ≤ pk b p (↑xs.length : Int) ∧ pk b p (↑xs.length : Int) < (↑xs.length : Int))) (R (some { av := vS (xs.getD (pk b p (↑xs.length : Int)).toNat (edflt ks)).fst, obs := [AO.box [AV.rsl ku b, vI (p + 1)], AO.row ks xs], outs := [some 0, some 1] })) False) False) := by kernel_rfl
theorem h38 : G1Ok Try.prog 38 g38 := by
  intro args obs k h
  unfold g38 at h
  split at h
  · rename_i k b p xs
    obtain ⟨hq, h⟩ := br_and h
    simp only [Bool.and_eq_true, decide_eq_true_eq] at hq
    obtain ⟨hb, hl, ⟨hp0, hp1⟩, hn1, hn2⟩ := hq
    refine ⟨_, ctr_fn okr hg38 Try.func38 (by kernel_rfl) (by kernel_rfl) (by kernel_rfl) fun C => ?_, h⟩
    rw [e38]
    have hr := pk_lt hb hp0 (show p ≤ 1048576 by omega) (show (1 : Int) ≤ xs.length by omega)
    refine br_t (by rw [hb, decide_eq_true hl, decide_eq_true (And.intro hp0 hp1), decide_eq_true (show ((xs.length : Int)) ≤ 1000000 by omega)]; rfl) (br_yes hr ?_)
    rfl
  · exact h.elim
end Go.Proofs.Ytkjnijddbiconaa.Ev
