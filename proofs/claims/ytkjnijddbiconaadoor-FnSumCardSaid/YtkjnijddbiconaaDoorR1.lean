/- Texts that are drawn. -/
import Derived.Test.YtkjnijddbiconaaDoorR0
import Derived.Test.YtkjnijddbiconaaDoorH1
namespace Go.Proofs.YtkjnijddbiconaaDoor.Ev
open Go
set_option linter.unusedVariables false
set_option linter.unusedSimpArgs false
set_option maxRecDepth 100000
def txW : List (Elem ks) := [(⟨#[97]⟩, ()), (⟨#[98]⟩, ()), (⟨#[32]⟩, ()), (⟨#[58]⟩, ()), (⟨#[10]⟩, ()), (⟨#[49, 50]⟩, ()), (⟨#[255]⟩, ()), (⟨#[0]⟩, ()), (⟨#[120, 121, 122]⟩, ())]
def txL (b : List (Elem ku)) (p : Int) : Nat → ByteArray
  | 0 => ⟨#[]⟩
  | j + 1 => txL b p j ++ at1 txW (pk b (p + 1 + j) 9).toNat
def tx (b : List (Elem ku)) (p : Int) : ByteArray := txL b p (pk b p 7).toNat
def txP (b : List (Elem ku)) (p : Int) : Int := p + 1 + pk b p 7
def g28 : G1
  | [.ptr 0 0], [.box [.rsl [.int .u8] b, .val (.int .i64 p)]], k => br (okB b && (decide (b.length ≤ 1048576) && decide (0 ≤ p ∧ p ≤ 500000))) (k ⟨.val (.string (tx b p)), [.box [.rsl ku b, .val (.int .i64 (txP b p))]], [some 0]⟩) False
  | _, _, _ => False
theorem txW_size (i : Nat) : (at1 txW i).size ≤ 3 := by
  unfold at1 txW
  match i with
  | 0 | 1 | 2 | 3 | 4 | 5 | 6 | 7 | 8 => decide
  | i + 9 => exact Nat.zero_le _
theorem txL_size (b : List (Elem ku)) (p : Int) : ∀ j, (txL b p j).size ≤ 3 * j
  | 0 => Nat.le_refl _
  | j + 1 => by
    have h1 := txL_size b p j
    have h2 := txW_size (pk b (p + 1 + j) 9).toNat
    show (txL b p j ++ at1 txW (pk b (p + 1 + j) 9).toNat).size ≤ _
    rw [ByteArray.size_append]
    omega
noncomputable def E28 : Env := Er.of Tryd.f28
noncomputable def G28 : Gk := gk [(34, g34), (35, g35)]
noncomputable def lp28 (n : Nat) : Code := (loopOf n (codeOf Tryd.f28)).getD .skip
noncomputable def ct28 (L : Lp) (R : Option Res → Prop) (n : Nat) : Kt := contOf E28 G28 L n (codeOf Tryd.f28) (endK E28 Tryd.f28.results.toList R)
noncomputable def rk28 (L : Lp) (R : Option Res → Prop) (n : Nat) (N : St → Prop) : Kt := rk (jof E28 (lp28 n)) N (ct28 L R n)
noncomputable def LOOP28 (L : Lp) (R : Option Res → Prop) (n : Nat) (st : St) : Prop := L (lp28 n) st (ct28 L R n)
theorem hg28 : HG Tryd.prog G28 := (hg_cons h34 (hg_cons h35 hg_nil))
theorem okf28 : Ok Tryd.prog E28 := okr.of Tryd.f28
theorem e28 (L : Lp) (R : Option Res → Prop) (b : List (Elem [.int .u8])) (p : Int) : (bodyP Er G28 L Tryd.f28 [.ptr 0 0] [.box [.rsl [.int .u8] b, .val (.int .i64 p)]] R) = (
    br (okB b && (decide (b.length ≤ 1048576) && (decide (0 ≤ p ∧ p ≤ 1000000) && true))) (LOOP28 L R 3 { tm := [AV.ptr 0 0, vJ, vJ, vS { data := #[] }, vI (pk b p 7), vJ, vJ, vJ, vJ, vJ, vJ, vJ, vJ, vJ, vJ, vJ, vJ], ob := [(0, AO.box [AV.rsl ku b, vI (p + 1)])], nx := 1000000, ps := [some 0] }) False) := by kernel_rfl
def st28 (b : List (Elem [.int .u8])) (p : Int) (o : ByteArray) (i : Int) : St :=  ⟨[AV.ptr 0 0, vJ, vJ, .val (.string o), .val (.int .i64 i), vJ, vJ, vJ, vJ, vJ, vJ, vJ, vJ, vJ, vJ, vJ, vJ], [(0, .box [.rsl ku b, .val (.int .i64 p)])], 1000000, [some 0]⟩
theorem b28 (L : Lp) (R : Option Res → Prop) (N : St → Prop) (b : List (Elem [.int .u8])) (p : Int) (o : ByteArray) (i : Int) : (evP E28 G28 L (lp28 3) (st28 b p o i) (rk28 L R 3 N)) = (
    br (decide (i > 0)) (br (okB b && (decide (b.length ≤ 1048576) && (decide (0 ≤ p ∧ p ≤ 1000000) && true))) (br (decide (o.size + (at1 [({ data := #[97] }, ()), ({ data := #[98] }, ()), ({ data := #[32] }, ()), ({ data := #[58] }, ()), ({ data := #[10] }, ()), ({ data := #[49, 50] }, ()), ({ data := #[255] }, ()), ({ data := #[0] }, ()), ({ data := #[120, 121, 122] }, ())] (pk b p 9).toNat).size ≤ 9223372036854775807)) (N { tm := [AV.ptr 0 0, vJ, vJ, vS (o ++ at1 [({ data := #[97] }, ()), ({ data := #[98] }, ()), ({ data := #[32] }, ()), ({ data := #[58] }, ()), ({ data := #[10] }, ()), ({ data := #[49, 50] }, ()), ({ data := #[255] }, ()), ({ data := #[0] }, ()), ({ data := #[120, 121, 122] }, ())] (pk b p 9).toNat), vI (IntKind.i64.wrap (i - 1)), vJ, vJ, vJ, vJ, vJ, vJ, vJ, vJ, vJ, vJ, vJ, vJ], ob := [(0, AO.box [AV.rsl ku b, vI (p + 1)])], nx := 1000000, ps := [some 0] }) False) False) (R (some { av := vS o, obs := [AO.box [AV.rsl ku b, vI p]], outs := [some 0] }))) := by kernel_rfl
theorem h28 : G1Ok Tryd.prog 28 g28 := by
  intro args obs k h
  unfold g28 at h
  split at h
  · rename_i k b p
    obtain ⟨hq, h⟩ := br_and h
    simp only [Bool.and_eq_true, decide_eq_true_eq] at hq
    obtain ⟨hb, hl, hp0, hp1⟩ := hq
    refine ⟨_, ctr_fn okr hg28 Tryd.func28 (by kernel_rfl) (by kernel_rfl) (by kernel_rfl) fun C => ?_, h⟩
    rw [e28]
    have h7 := pk_lt hb hp0 (show p ≤ 1048576 by omega) (show (1 : Int) ≤ 7 by omega)
    refine br_t (by rw [hb, decide_eq_true hl, decide_eq_true (show 0 ≤ p ∧ p ≤ 1000000 by omega)]; rfl) ?_
    obtain ⟨n, hn⟩ : ∃ n : Nat, pk b p 7 = n := ⟨(pk b p 7).toNat, by omega⟩
    have hn7 : n < 7 := by omega
    show LoopOk _ _ _ (st28 b (p + 1) ⟨#[]⟩ (pk b p 7)) _
    rw [show st28 b (p + 1) ⟨#[]⟩ (pk b p 7) = st28 b (p + 1 + ((0 : Nat) : Int)) (txL b p 0) ((n : Int) - ((0 : Nat) : Int)) from by rw [hn]; simp [txL]]
    refine loopSeq okf28 hg28 (fun j => st28 b (p + 1 + (j : Int)) (txL b p j) ((n : Int) - (j : Int))) n (fun N j hj next => ?_) (fun N => ?_)
    · show evP E28 G28 _ (lp28 3) (st28 b (p + 1 + (j : Int)) (txL b p j) ((n : Int) - (j : Int))) (rk28 _ _ 3 _)
      have h1 := txL_size b p j
      have h2 := txW_size (pk b (p + 1 + (j : Int)) 9).toNat
      rw [b28, wrap_id (n := (n : Int) - (j : Int) - 1) (by omega) (by omega)]
      refine br_yes (by omega) (br_t (by rw [hb, decide_eq_true hl, decide_eq_true (show 0 ≤ p + 1 + (j : Int) ∧ p + 1 + (j : Int) ≤ 1000000 by omega)]; rfl) (br_yes ?_ ?_))
      · show (txL b p j).size + (at1 txW (pk b (p + 1 + (j : Int)) 9).toNat).size ≤ _
        omega
      · have e1 : p + 1 + (j : Int) + 1 = p + 1 + ((j + 1 : Nat) : Int) := by omega
        have e2 : (n : Int) - (j : Int) - 1 = (n : Int) - ((j + 1 : Nat) : Int) := by omega
        rw [e1, e2]
        exact next
    · show evP E28 G28 _ (lp28 3) (st28 b (p + 1 + (n : Int)) (txL b p n) ((n : Int) - (n : Int))) (rk28 _ _ 3 _)
      rw [b28]
      refine br_no (by omega) ?_
      show _ = _
      unfold tx txP
      rw [hn, Int.toNat_natCast]
  · exact h.elim
theorem tx_size {b : List (Elem ku)} (hb : okB b = true) {p : Int} (h0 : 0 ≤ p) (h1 : p ≤ 500000) : (tx b p).size ≤ 18 := by
  have h7 := pk_lt hb h0 (show p ≤ 1048576 by omega) (show (1 : Int) ≤ 7 by omega)
  have := txL_size b p (pk b p 7).toNat
  unfold tx
  omega
theorem txP_lt {b : List (Elem ku)} (hb : okB b = true) {p : Int} (h0 : 0 ≤ p) (h1 : p ≤ 500000) : 0 ≤ txP b p ∧ txP b p ≤ p + 7 := by
  have h7 := pk_lt hb h0 (show p ≤ 1048576 by omega) (show (1 : Int) ≤ 7 by omega)
  unfold txP
  omega
def drT (c : List (Elem ku)) : ByteArray := tx (opB c) 0
def g6 : G1
  | [.rsl [.int .u8] c], [], k => br (okB c && decide (c.length ≤ 1048576)) (k ⟨.val (.string (drT c)), [], []⟩) False
  | _, _, _ => False
noncomputable def G6 : Gk := gk [(29, g29), (28, g28)]
theorem hg6 : HG Tryd.prog G6 := (hg_cons h29 (hg_cons h28 hg_nil))
theorem e6 (L : Lp) (R : Option Res → Prop) (c : List (Elem [.int .u8])) : (bodyP Er G6 L Tryd.f6 [.rsl [.int .u8] c] [] R) = (
    br (okB c && decide (c.length ≤ 1048576)) (br (okB (opB c) && (decide ((opB c).length ≤ 1048576) && true)) (R (some { av := vS (tx (opB c) 0), obs := [], outs := [] })) False) False) := by kernel_rfl
theorem h6 : G1Ok Tryd.prog 6 g6 := by
  intro args obs k h
  unfold g6 at h
  split at h
  · rename_i k c
    obtain ⟨hq, h⟩ := br_and h
    have hq' := hq
    simp only [Bool.and_eq_true, decide_eq_true_eq] at hq'
    have hl := opB_len c
    refine ⟨_, ctr_fn okr hg6 Tryd.func6 (by kernel_rfl) (by kernel_rfl) (by kernel_rfl) fun C => ?_, h⟩
    rw [e6]
    refine br_t hq (br_t (by rw [opB_ok hq'.1, decide_eq_true (show (opB c).length ≤ 1048576 by omega)]; rfl) ?_)
    rfl
  · exact h.elim
def toS (B : List (Elem ku)) : ByteArray := sealT (tx B 0)
def toK (B : List (Elem ku)) : Int := pk B (txP B 0 + 1) (toS B).size
def toW : List (Elem ks) := [(⟨#[]⟩, ()), (⟨#[48]⟩, ()), (⟨#[58]⟩, ()), (⟨#[97]⟩, ())]
def torn (B : List (Elem ku)) : ByteArray := match (pk B (txP B 0) 2 == 0) with
  | true => toS B
  | false => (toS B).extract 0 (toK B).toNat ++ at1 toW (pk B (txP B 0 + 1 + 1) 4).toNat ++ (toS B).extract (IntKind.i64.wrap (toK B + pk B (txP B 0 + 1 + 1 + 1) 2)).toNat ((toS B).size : Int).toNat
def g14 : G1
  | [.rsl [.int .u8] c], [], k => br (okB c && decide (c.length ≤ 1048576)) (k ⟨.val (.string (torn (opB c))), [], []⟩) False
  | _, _, _ => False
theorem toW_size (i : Nat) : (at1 toW i).size ≤ 1 := by
  unfold at1 toW
  match i with
  | 0 | 1 | 2 | 3 => decide
  | i + 4 => exact Nat.zero_le _
theorem seal_size {t : ByteArray} (h : t.size ≤ 18) : 1 ≤ (sealT t).size ∧ (sealT t).size ≤ 40000 := by
  obtain ⟨_, _, _, e⟩ := seal_list (t := t) (by omega)
  rw [e, ByteArray.size_append, ByteArray.size_append]
  have := sumN_lt t
  have := dec_size (n := sumN t) (by omega) (by omega)
  have e1 : (⟨#[58]⟩ : ByteArray).size = 1 := rfl
  omega
theorem toS_size {B : List (Elem ku)} (hb : okB B = true) : 1 ≤ (toS B).size ∧ (toS B).size ≤ 40000 := seal_size (tx_size hb (by omega) (by omega))
theorem ext_size (s : ByteArray) (i j : Nat) : (s.extract i j).size ≤ s.size := by
  rw [ByteArray.size_extract]
  omega
theorem torn_size {B : List (Elem ku)} (hb : okB B = true) : (torn B).size ≤ 100000 := by
  have h1 := toS_size hb
  unfold torn
  split
  · omega
  · rw [ByteArray.size_append, ByteArray.size_append]
    have := ext_size (toS B) 0 (toK B).toNat
    have := toW_size (pk B (txP B 0 + 1 + 1) 4).toNat
    have := ext_size (toS B) (IntKind.i64.wrap (toK B + pk B (txP B 0 + 1 + 1 + 1) 2)).toNat ((toS B).size : Int).toNat
    omega
noncomputable def G14 : Gk := gk [(29, g29), (28, g28), (34, g34), (35, g35), (13, g13)]
theorem hg14 : HG Tryd.prog G14 := (hg_cons h29 (hg_cons h28 (hg_cons h34 (hg_cons h35 (hg_cons h13 hg_nil)))))
theorem e14 (L : Lp) (R : Option Res → Prop) (c : List (Elem [.int .u8])) : (bodyP Er G14 L Tryd.f14 [.rsl [.int .u8] c] [] R) = (
    br (okB c && decide (c.length ≤ 1048576)) (br (okB (opB c) && (decide ((opB c).length ≤ 1048576) && true)) (br (decide ((tx (opB c) 0).size ≤ 4611686018427387904)) (br (okB (opB c) && (decide ((opB c).length ≤ 1048576) && (decide (0 ≤ txP (opB c) 0 ∧ txP (opB c) 0 ≤ 1000000) && true))) (br (pk (opB c) (txP (opB c) 0) 2 == 0) (R (some { av := vS (sealT (tx (opB c) 0)), obs := [], outs := [] })) (br (okB (opB c) && (decide ((opB c).length ≤ 1048576) && (decide (0 ≤ txP (opB c) 0 + 1 ∧ txP (opB c) 0 + 1 ≤ 1000000) && decide ((↑(sealT (tx (opB c) 0)).size : Int) ≤ 1000000)))) (br (decide ((0 : Int) ≤ 0 ∧ 0 ≤ pk (opB c) (txP (opB c) 0 + 1) (↑(sealT (tx (opB c) 0)).size : Int) ∧ pk (opB c) (txP (opB c) 0 + 1) (↑(sealT (tx (opB c) 0)).size : Int) ≤ (↑(sealT (tx (opB c) 0)).size : Int))) (br (okB (opB c) && (decide ((opB c).length ≤ 1048576) && (decide (0 ≤ txP (opB c) 0 + 1 + 1 ∧ txP (opB c) 0 + 1 + 1 ≤ 1000000) && true))) (br (decide (((sealT (tx (opB c) 0)).extract 0 (pk (opB c) (txP (opB c) 0 + 1) (↑(sealT (tx (opB c) 0)).size : Int)).toNat).size + (at1 [({ data := #[] }, ()), ({ data := #[48] }, ()), ({ data := #[58] }, ()), ({ data := #[97] }, ())] (pk (opB c) (txP (opB c) 0 + 1 + 1) 4).toNat).size ≤ 9223372036854775807)) (br (okB (opB c) && (decide ((opB c).length ≤ 1048576) && (decide (0 ≤ txP (opB c) 0 + 1 + 1 + 1 ∧ txP (opB c) 0 + 1 + 1 + 1 ≤ 1000000) && true))) (br (decide (0 ≤ IntKind.i64.wrap (pk (opB c) (txP (opB c) 0 + 1) (↑(sealT (tx (opB c) 0)).size : Int) + pk (opB c) (txP (opB c) 0 + 1 + 1 + 1) 2) ∧ IntKind.i64.wrap (pk (opB c) (txP (opB c) 0 + 1) (↑(sealT (tx (opB c) 0)).size : Int) + pk (opB c) (txP (opB c) 0 + 1 + 1 + 1) 2) ≤ (↑(sealT (tx (opB c) 0)).size : Int) ∧ (↑(sealT (tx (opB c) 0)).size : Int) ≤ (↑(sealT (tx (opB c) 0)).size : Int))) (br (decide (((sealT (tx (opB c) 0)).extract 0 (pk (opB c) (txP (opB c) 0 + 1) (↑(sealT (tx (opB c) 0)).size : Int)).toNat ++ at1 [({ data := #[] }, ()), ({ data := #[48] }, ()), ({ data := #[58] }, ()), ({ data := #[97] }, ())] (pk (opB c) (txP (opB c) 0 + 1 + 1) 4).toNat).size + ((sealT (tx (opB c) 0)).extract (IntKind.i64.wrap (pk (opB c) (txP (opB c) 0 + 1) (↑(sealT (tx (opB c) 0)).size : Int) + pk (opB c) (txP (opB c) 0 + 1 + 1 + 1) 2)).toNat (↑(sealT (tx (opB c) 0)).size : Int).toNat).size ≤ 9223372036854775807)) (R (some { av := vS ((sealT (tx (opB c) 0)).extract 0 (pk (opB c) (txP (opB c) 0 + 1) (↑(sealT (tx (opB c) 0)).size : Int)).toNat ++ at1 [({ data := #[] }, ()), ({ data := #[48] }, ()), ({ data := #[58] }, ()), ({ data := #[97] }, ())] (pk (opB c) (txP (opB c) 0 + 1 + 1) 4).toNat ++ (sealT (tx (opB c) 0)).extract (IntKind.i64.wrap (pk (opB c) (txP (opB c) 0 + 1) (↑(sealT (tx (opB c) 0)).size : Int) + pk (opB c) (txP (opB c) 0 + 1 + 1 + 1) 2)).toNat (↑(sealT (tx (opB c) 0)).size : Int).toNat), obs := [], outs := [] })) False) False) False) False) False) False) False)) False) False) False) False) := by kernel_rfl
theorem h14 : G1Ok Tryd.prog 14 g14 := by
  intro args obs k h
  unfold g14 at h
  split at h
  · rename_i k c
    obtain ⟨hq, h⟩ := br_and h
    have hq' := hq
    simp only [Bool.and_eq_true, decide_eq_true_eq] at hq'
    have hl := opB_len c
    have hb := opB_ok hq'.1
    refine ⟨_, ctr_fn okr hg14 Tryd.func14 (by kernel_rfl) (by kernel_rfl) (by kernel_rfl) fun C => ?_, h⟩
    rw [e14]
    refine br_t hq ?_
    generalize opB c = B at *
    have hx := tx_size hb (p := 0) (by omega) (by omega)
    have hP := txP_lt hb (p := 0) (by omega) (by omega)
    have hS := toS_size hb
    have hlen : decide (B.length ≤ 1048576) = true := decide_eq_true (by omega)
    have hd : ∀ x : Int, 0 ≤ x → x ≤ 1000 → (okB B && (decide (B.length ≤ 1048576) && (decide (0 ≤ x ∧ x ≤ 1000000) && true))) = true := fun x h0 h1 => by
      rw [hb, hlen, decide_eq_true (show 0 ≤ x ∧ x ≤ 1000000 by omega)]
      rfl
    have hK : 0 ≤ toK B ∧ toK B < (toS B).size := pk_lt hb (by omega) (by omega) (by omega)
    have h2 : 0 ≤ pk B (txP B 0 + 1 + 1 + 1) 2 ∧ pk B (txP B 0 + 1 + 1 + 1) 2 < 2 := pk_lt hb (by omega) (by omega) (by omega)
    have hw : IntKind.i64.wrap (toK B + pk B (txP B 0 + 1 + 1 + 1) 2) = toK B + pk B (txP B 0 + 1 + 1 + 1) 2 := wrap_id (by omega) (by omega)
    have z1 : ((sealT (tx B 0)).extract 0 (pk B (txP B 0 + 1) ((sealT (tx B 0)).size : Int)).toNat).size ≤ (toS B).size := ext_size (toS B) 0 (toK B).toNat
    have z2 := toW_size (pk B (txP B 0 + 1 + 1) 4).toNat
    have z3 : ((sealT (tx B 0)).extract (IntKind.i64.wrap (pk B (txP B 0 + 1) ((sealT (tx B 0)).size : Int) + pk B (txP B 0 + 1 + 1 + 1) 2)).toNat ((sealT (tx B 0)).size : Int).toNat).size ≤ (toS B).size := ext_size (toS B) (IntKind.i64.wrap (toK B + pk B (txP B 0 + 1 + 1 + 1) 2)).toNat ((toS B).size : Int).toNat
    have hfin : torn B = match (pk B (txP B 0) 2 == 0) with
      | true => sealT (tx B 0)
      | false => (sealT (tx B 0)).extract 0 (pk B (txP B 0 + 1) ((sealT (tx B 0)).size : Int)).toNat ++ at1 toW (pk B (txP B 0 + 1 + 1) 4).toNat ++ (sealT (tx B 0)).extract (IntKind.i64.wrap (pk B (txP B 0 + 1) ((sealT (tx B 0)).size : Int) + pk B (txP B 0 + 1 + 1 + 1) 2)).toNat ((sealT (tx B 0)).size : Int).toNat := rfl
    have hK' : 0 ≤ pk B (txP B 0 + 1) ((sealT (tx B 0)).size : Int) ∧ pk B (txP B 0 + 1) ((sealT (tx B 0)).size : Int) < ((sealT (tx B 0)).size : Int) := hK
    have hS' : ((sealT (tx B 0)).size : Int) ≤ 1000000 := by have : ((toS B).size : Int) ≤ 1000000 := by omega
                                                             exact this
    have hw' : IntKind.i64.wrap (pk B (txP B 0 + 1) ((sealT (tx B 0)).size : Int) + pk B (txP B 0 + 1 + 1 + 1) 2) = pk B (txP B 0 + 1) ((sealT (tx B 0)).size : Int) + pk B (txP B 0 + 1 + 1 + 1) 2 := hw
    rw [hfin]
    unfold toW at z2 ⊢
    generalize (sealT (tx B 0)).extract 0 (pk B (txP B 0 + 1) ((sealT (tx B 0)).size : Int)).toNat = X at *
    generalize at1 [(⟨#[]⟩, ()), (⟨#[48]⟩, ()), (⟨#[58]⟩, ()), (⟨#[97]⟩, ())] (pk B (txP B 0 + 1 + 1) 4).toNat = Y at *
    generalize (sealT (tx B 0)).extract (IntKind.i64.wrap (pk B (txP B 0 + 1) ((sealT (tx B 0)).size : Int) + pk B (txP B 0 + 1 + 1 + 1) 2)).toNat ((sealT (tx B 0)).size : Int).toNat = Z at *
    refine br_t (hd 0 (by omega) (by omega)) (br_yes (by omega) (br_t (hd (txP B 0) (by omega) (by omega)) (br_intro (fun h1 => ?_) (fun h1 => ?_))))
    · rw [h1]
    · rw [h1]
      refine br_t (by rw [hb, hlen, decide_eq_true (show 0 ≤ txP B 0 + 1 ∧ txP B 0 + 1 ≤ 1000000 by omega), decide_eq_true hS']; rfl) (br_yes (And.intro (Int.le_refl 0) (And.intro hK'.1 (Int.le_of_lt hK'.2))) (br_t (hd (txP B 0 + 1 + 1) (by omega) (by omega)) (br_yes (by omega) (br_t (hd (txP B 0 + 1 + 1 + 1) (by omega) (by omega)) ?_))))
      rw [hw']
      exact br_yes ⟨by omega, by omega, Int.le_refl _⟩ (br_yes (by rw [ByteArray.size_append]; omega) rfl)
  · exact h.elim
end Go.Proofs.YtkjnijddbiconaaDoor.Ev
