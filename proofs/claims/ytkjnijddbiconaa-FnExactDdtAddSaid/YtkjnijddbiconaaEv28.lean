/- The order of strings; looking for the first in a row, from one end and by halves; chains that end. -/
import Derived.Test.YtkjnijddbiconaaEv25
import Derived.Lib.Bytealg
namespace Go.Proofs.Ytkjnijddbiconaa.Ev
open Go
set_option linter.unusedVariables false
variable {P : Program}
theorem bl_irrefl : ∀ (a : List UInt8), Op.bytesLess a a = false
  | [] => rfl
  | x :: a => by simp [Op.bytesLess, bl_irrefl a]
theorem bl_trans : ∀ (a b c : List UInt8), Op.bytesLess a b = true → Op.bytesLess b c = true → Op.bytesLess a c = true
  | [], [], c, h, _ => by simp [Op.bytesLess] at h
  | [], _ :: _, [], _, h => by simp [Op.bytesLess] at h
  | [], _ :: _, _ :: _, _, _ => by simp [Op.bytesLess]
  | _ :: _, [], _, h, _ => by simp [Op.bytesLess] at h
  | _ :: _, _ :: _, [], _, h => by simp [Op.bytesLess] at h
  | x :: a, y :: b, z :: c, h1, h2 => by
    simp only [Op.bytesLess, Bool.or_eq_true, Bool.and_eq_true, decide_eq_true_eq, beq_iff_eq, UInt8.lt_iff_toNat_lt, ← UInt8.toNat_inj] at *
    rcases h1 with h1 | ⟨h1, h1'⟩ <;> rcases h2 with h2 | ⟨h2, h2'⟩
    · exact .inl (by omega)
    · exact .inl (by omega)
    · exact .inl (by omega)
    · exact .inr ⟨by omega, bl_trans a b c h1' h2'⟩
theorem bl_tri : ∀ (a b : List UInt8), Op.bytesLess a b = true ∨ a = b ∨ Op.bytesLess b a = true
  | [], [] => by simp
  | [], _ :: _ => by simp [Op.bytesLess]
  | _ :: _, [] => by simp [Op.bytesLess]
  | x :: a, y :: b => by
    simp only [Op.bytesLess, Bool.or_eq_true, Bool.and_eq_true, decide_eq_true_eq, beq_iff_eq, UInt8.lt_iff_toNat_lt, ← UInt8.toNat_inj, List.cons.injEq]
    rcases Nat.lt_trichotomy x.toNat y.toNat with h | h | h
    · exact .inl (.inl h)
    · rcases bl_tri a b with g | g | g
      · exact .inl (.inr ⟨h, g⟩)
      · exact .inr (.inl ⟨h, g⟩)
      · exact .inr (.inr (.inr ⟨h.symm, g⟩))
    · exact .inr (.inr (.inl h))
theorem bs_ext {a b : ByteArray} (h : a.toList = b.toList) : a = b := by
  rw [ByteArray.toList_eq, ByteArray.toList_eq] at h
  apply ByteArray.ext
  apply Array.ext'
  exact h
theorem strLt_irrefl (a : ByteArray) : strLt a a = false := bl_irrefl _
theorem strLt_trans {a b c : ByteArray} (h1 : strLt a b = true) (h2 : strLt b c = true) : strLt a c = true := bl_trans _ _ _ h1 h2
theorem strLt_tri (a b : ByteArray) : strLt a b = true ∨ a = b ∨ strLt b a = true := by
  rcases bl_tri a.toList b.toList with h | h | h
  · exact .inl h
  · exact .inr (.inl (bs_ext h))
  · exact .inr (.inr h)
theorem strLt_asymm {a b : ByteArray} (h1 : strLt a b = true) : strLt b a = false := by
  cases h : strLt b a with
  | false => rfl
  | true =>
    have := strLt_trans h1 h
    rw [strLt_irrefl] at this
    cases this
theorem strEq_iff {a b : ByteArray} : strEq a b = true ↔ a = b := by
  unfold strEq
  rw [beq_iff_eq]
  exact ⟨bs_ext, fun h => by rw [h]⟩
theorem strEq_dec (a b : ByteArray) : strEq a b = decide (a = b) := by
  rw [Bool.eq_iff_iff, strEq_iff, decide_eq_true_eq]
/-- How strings.Compare holds two strings against each other. -/
def cmpS (a b : ByteArray) : Int := Lib.compareBytes a.data.toList b.data.toList
theorem cmpB : ∀ (a b : List UInt8), (Lib.compareBytes a b = -1 ∧ Op.bytesLess a b = true) ∨ (Lib.compareBytes a b = 0 ∧ a = b) ∨ (Lib.compareBytes a b = 1 ∧ Op.bytesLess b a = true)
  | [], [] => by simp [Lib.compareBytes]
  | [], _ :: _ => by simp [Lib.compareBytes, Op.bytesLess]
  | _ :: _, [] => by simp [Lib.compareBytes, Op.bytesLess]
  | x :: a, y :: b => by
    unfold Lib.compareBytes
    by_cases h : x < y
    · simp [h, Op.bytesLess]
    by_cases h' : y < x
    · simp [h, h', Op.bytesLess]
    have e : x = y := by
      rw [UInt8.lt_iff_toNat_lt] at h h'
      rw [← UInt8.toNat_inj]
      omega
    subst e
    simpa [h, Op.bytesLess] using cmpB a b
theorem cmpS_all (a b : ByteArray) : (cmpS a b = -1 ∧ strLt a b = true) ∨ (cmpS a b = 0 ∧ a = b) ∨ (cmpS a b = 1 ∧ strLt b a = true) := by
  have h := cmpB a.data.toList b.data.toList
  unfold cmpS strLt
  rw [ByteArray.toList_eq, ByteArray.toList_eq]
  rcases h with h | ⟨h, g⟩ | h
  · exact .inl h
  · exact .inr (.inl ⟨h, bs_ext (by rw [ByteArray.toList_eq, ByteArray.toList_eq]; exact g)⟩)
  · exact .inr (.inr h)
theorem cmpS_lt (a b : ByteArray) : decide (cmpS a b < 0) = strLt a b := by
  rcases cmpS_all a b with ⟨h, g⟩ | ⟨h, g⟩ | ⟨h, g⟩
  · rw [h, g]; rfl
  · subst g; rw [h, strLt_irrefl]; rfl
  · rw [h, strLt_asymm g]; rfl
theorem cmpS_eq (a b : ByteArray) : (cmpS a b == 0) = strEq a b := by
  rcases cmpS_all a b with ⟨h, g⟩ | ⟨h, g⟩ | ⟨h, g⟩
  · rw [h, strEq_dec, decide_eq_false (fun e => by subst e; rw [strLt_irrefl] at g; cases g)]; rfl
  · rw [h, strEq_dec, decide_eq_true g]; rfl
  · rw [h, strEq_dec, decide_eq_false (fun e => by subst e; rw [strLt_irrefl] at g; cases g)]; rfl
/-- The first place that fails, or the end. -/
def ln (p : Nat → Bool) (n : Nat) : Nat := (List.range n).findIdx (fun i => !p i)
theorem ln_at {p : Nat → Bool} {n i : Nat} (h : ∀ j, j < i → p j = true) (hi : i < n) (hp : p i = false) : ln p n = i := by
  unfold ln
  rw [List.findIdx_eq (by simpa using hi)]
  simp only [List.getElem_range]
  exact ⟨by simp [hp], fun j hj => by simp [h j hj]⟩
theorem ln_end {p : Nat → Bool} {n : Nat} (h : ∀ j, j < n → p j = true) : ln p n = n := by
  unfold ln
  have : (List.range n).findIdx (fun i => !p i) = (List.range n).length := List.findIdx_eq_length.2 (by
    intro x hx
    simp [h x (by simpa using hx)])
  simpa using this
theorem ln_le (p : Nat → Bool) (n : Nat) : ln p n ≤ n := by
  have := List.findIdx_le_length (p := fun i => !p i) (xs := List.range n)
  simpa [ln] using this
theorem ln_below {p : Nat → Bool} {n j : Nat} (hj : j < ln p n) : p j = true := by
  have h := List.not_of_lt_findIdx (p := fun i => !p i) (xs := List.range n) hj
  simpa using h
theorem ln_fails {p : Nat → Bool} {n : Nat} (h : ln p n < n) : p (ln p n) = false := by
  have h2 := List.findIdx_getElem (p := fun i => !p i) (xs := List.range n) (w := by rw [List.length_range]; exact h)
  simpa [ln] using h2
theorem ln_uniq {p : Nat → Bool} {n i : Nat} (h : ∀ j, j < i → p j = true) (hi : i ≤ n) (hp : i < n → p i = false) : ln p n = i := by
  by_cases e : i < n
  · exact ln_at h e (hp e)
  · have : i = n := by omega
    subst this
    exact ln_end h
theorem ln_congr {p q : Nat → Bool} {n : Nat} (h : ∀ j, j < n → p j = q j) : ln p n = ln q n := by
  have l := ln_le q n
  exact ln_uniq (fun j hj => by rw [h j (by omega)]; exact ln_below hj) l (fun hi => by rw [h _ hi]; exact ln_fails hi)
/-- By halves. -/
def bsf (p : Nat → Bool) (i j : Nat) : Nat :=
  if h : i < j then if p ((i + j) / 2) then bsf p ((i + j) / 2 + 1) j else bsf p i ((i + j) / 2) else i
termination_by j - i
theorem bsf_le (p : Nat → Bool) (i j : Nat) (h : i ≤ j) : i ≤ bsf p i j ∧ bsf p i j ≤ j := by
  fun_induction bsf p i j with
  | case1 i j hlt hp ih => have := ih (by omega); omega
  | case2 i j hlt hp ih => have := ih (by omega); omega
  | case3 i j hlt => omega
theorem bsf_ok (p : Nat → Bool) (n : Nat) (hp : ∀ a b, a ≤ b → b < n → p b = true → p a = true) : ∀ (i j : Nat), i ≤ j → j ≤ n → (∀ k, k < i → p k = true) → (∀ k, j ≤ k → k < n → p k = false) →
    (∀ k, k < bsf p i j → p k = true) ∧ (∀ k, bsf p i j ≤ k → k < n → p k = false) := by
  intro i j
  fun_induction bsf p i j with
  | case1 i j hlt hm ih =>
    intro h1 h2 h3 h4
    refine ih (by omega) h2 (fun k hk => hp k ((i + j) / 2) (by omega) (by omega) hm) h4
  | case2 i j hlt hm ih =>
    intro h1 h2 h3 h4
    refine ih (by omega) (by omega) h3 (fun k hk hn => ?_)
    cases hk' : p k with
    | false => rfl
    | true => exact absurd (hp _ k hk hn hk') hm
  | case3 i j hlt =>
    intro h1 h2 h3 h4
    exact ⟨h3, fun k hk hn => h4 k (by omega) hn⟩
theorem bsf_ln {p : Nat → Bool} {n : Nat} (hp : ∀ a b, a ≤ b → b < n → p b = true → p a = true) : bsf p 0 n = ln p n := by
  obtain ⟨h1, h2⟩ := bsf_ok p n hp 0 n (Nat.zero_le _) (Nat.le_refl _) (fun k hk => by omega) (fun k h1 h2 => by omega)
  obtain ⟨_, h4⟩ := bsf_le p 0 n (Nat.zero_le _)
  exact (ln_uniq h1 h4 (fun h => h2 _ (Nat.le_refl _) h)).symm
theorem mid_eq {i j : Nat} (h1 : i ≤ j) (h2 : j ≤ 4611686018427387903) : IntKind.i64.wrap ((IntKind.u64.wrap (IntKind.i64.wrap ((i : Int) + j))).fdiv 2) = (((i + j) / 2 : Nat) : Int) := by
  rw [wrap_id (n := (i : Int) + j) (by omega) (by omega)]
  have hu : IntKind.u64.wrap ((i : Int) + j) = (i : Int) + j := by rw [IntKind.wrap_u64]; omega
  rw [hu, Int.fdiv_eq_ediv_of_nonneg _ (by omega)]
  rw [wrap_id (by omega) (by omega)]
  omega
/-- A loop that looks by halves. -/
theorem loopBs {E : Env} (ok : Ok P E) {G : Gk} (hG : HG P G) {C : Cx} (ST : Int → Int → St) (n : Nat) (p : Nat → Bool) {c : Code} {k : Kt} (hn : n ≤ 4611686018427387903)
    (body : ∀ (N : St → Prop) (i j : Nat), i ≤ j → j ≤ n → IntKind.i64.wrap ((IntKind.u64.wrap (IntKind.i64.wrap ((i : Int) + j))).fdiv 2) = (((i + j) / 2 : Nat) : Int) →
      (i < j → IntKind.i64.wrap ((((i + j) / 2 : Nat) : Int) + 1) = (((i + j) / 2 + 1 : Nat) : Int)) →
      (i < j → p ((i + j) / 2) = true → N (ST (((i + j) / 2 + 1 : Nat) : Int) j)) → (i < j → p ((i + j) / 2) = false → N (ST i (((i + j) / 2 : Nat) : Int))) → (¬ i < j → bsf p 0 n = i) →
      evP E G (LoopOk P C) c (ST i j) (rk (jof E c) N k)) (m : Int) (hm : m = n) : LoopOk P C c (ST 0 m) k := by
  subst hm
  exact loopR ok hG (ι := {q : Nat × Nat // q.1 ≤ q.2 ∧ q.2 ≤ n ∧ bsf p q.1 q.2 = bsf p 0 n}) (fun q => ST q.1.1 q.1.2) (fun q => q.1.2 - q.1.1) (fun ⟨(i, j), h0, h1, hb⟩ => by
    simp only at h0 h1 hb
    refine body _ i j h0 h1 (mid_eq h0 (by omega)) (fun h => ?_) (fun h2 h3 => ?_) (fun h2 h3 => ?_) (fun h2 => ?_)
    · rw [wrap_id (by omega) (by omega)]; omega
    · rw [bsf, dif_pos h2, if_pos h3] at hb
      exact ⟨⟨((i + j) / 2 + 1, j), by show (i + j) / 2 + 1 ≤ j; omega, h1, hb⟩, rfl, by show j - ((i + j) / 2 + 1) < j - i; omega⟩
    · rw [bsf, dif_pos h2, if_neg (by simp [h3])] at hb
      exact ⟨⟨(i, (i + j) / 2), by show i ≤ (i + j) / 2; omega, by show (i + j) / 2 ≤ n; omega, hb⟩, rfl, by show (i + j) / 2 - i < j - i; omega⟩
    · rw [bsf, dif_neg h2] at hb
      exact hb.symm) ⟨(0, n), Nat.zero_le _, Nat.le_refl _, rfl⟩
/-- A loop that goes on as long as something holds. -/
theorem loopLn {E : Env} (ok : Ok P E) {G : Gk} (hG : HG P G) {C : Cx} (ST : Int → St) (n : Nat) (p : Nat → Bool) {c : Code} {k : Kt}
    (hn : n < 9223372036854775807)
    (body : ∀ (N : St → Prop) (i : Nat), i ≤ n → IntKind.i64.wrap ((i : Int) + 1) = (i : Int) + 1 → (i < n → p i = true → N (ST ((i : Int) + 1))) → (i < n → p i = false → ln p n = i) → (¬ i < n → ln p n = i) →
      evP E G (LoopOk P C) c (ST i) (rk (jof E c) N k)) : LoopOk P C c (ST 0) k :=
  loopUp ok hG (α := Unit) (fun i _ => ST i) n (fun i _ => ∀ j, j < i → p j = true)
    (fun N i _ hi hall hN => body N i hi (wrap_id (by omega) (by omega)) (fun h1 h2 => hN h1 () (fun j hj => by
      by_cases e : j < i
      · exact hall j e
      · have : j = i := by omega
        rw [this]; exact h2)) (fun h1 h2 => ln_at hall h1 h2) (fun h1 => by
          have : i = n := by omega
          subst this
          exact ln_end hall)) () (fun j hj => by omega)
/-- In a row that ascends, what is found by order is what is found by looking. -/
theorem fd_ln {p e : Nat → Bool} {n : Nat} (h1 : ∀ i, i < n → p i = true → e i = false) (h2 : ∀ i j, i < j → j < n → e j = true → p i = true) :
    fd n e = match decide (ln p n < n) && e (ln p n) with | true => some (ln p n) | false => none := by
  have hle := ln_le p n
  cases he : decide (ln p n < n) && e (ln p n) with
  | true =>
    simp only [Bool.and_eq_true, decide_eq_true_eq] at he
    exact fd_at (fun j hj => h1 j (by omega) (ln_below hj)) he.1 he.2
  | false =>
    refine fd_none fun j hj => ?_
    rcases Nat.lt_trichotomy j (ln p n) with h | h | h
    · exact h1 j hj (ln_below h)
    · subst h
      rw [decide_eq_true hj, Bool.true_and] at he
      exact he
    · cases hej : e j with
      | false => rfl
      | true =>
        have := h2 _ j h hj hej
        rw [ln_fails (p := p) (n := n) (by omega)] at this
        cases this
/-- A chain: each place ends, with a word, or leads to another. -/
def chain (st : Nat → Bool ⊕ Nat) : Nat → Nat → Bool
  | 0, _ => false
  | m + 1, a => match st a with
    | .inl b => b
    | .inr k => chain st m k
theorem chain_mono (st : Nat → Bool ⊕ Nat) : ∀ (m a : Nat), chain st m a = true → chain st (m + 1) a = true
  | 0, a, h => by cases h
  | m + 1, a, h => by
    unfold chain at h ⊢
    split at h
    · exact h
    · exact chain_mono st m _ h
theorem chain_stable (st : Nat → Bool ⊕ Nat) (n : Nat) (hst : ∀ a k, a < n → st a = .inr k → k < n) (m : Nat) (h : ∀ a, a < n → chain st m a = chain st (m + 1) a) :
    ∀ a, a < n → chain st (m + 1) a = chain st (m + 2) a := by
  intro a ha
  conv => lhs; unfold chain
  conv => rhs; unfold chain
  split
  · rfl
  · rename_i k hk
    exact h k (hst a k ha hk)
theorem cnt_le {p q : Nat → Bool} : ∀ (l : List Nat), (∀ a ∈ l, p a = true → q a = true) → l.countP p ≤ l.countP q
  | l, h => List.countP_mono_left h
theorem cnt_eq {p q : Nat → Bool} : ∀ (l : List Nat), (∀ a ∈ l, p a = true → q a = true) → l.countP p = l.countP q → ∀ a ∈ l, p a = q a
  | [], _, _, a, ha => by cases ha
  | x :: l, h, e, a, ha => by
    have h1 := cnt_le (p := p) (q := q) l (fun a ha => h a (by simp [ha]))
    have hx := h x (by simp)
    rw [List.countP_cons, List.countP_cons] at e
    have e1 : p x = q x := by
      cases hp : p x with
      | true => rw [hx hp]
      | false =>
        cases hq : q x with
        | false => rfl
        | true => simp [hp, hq] at e; omega
    rw [e1] at e
    rcases List.mem_cons.1 ha with rfl | ha
    · exact e1
    · exact cnt_eq l (fun a ha => h a (by simp [ha])) (by omega) a ha
/-- A chain over n places ends within n steps, or not at all. -/
theorem chain_enough (st : Nat → Bool ⊕ Nat) (n : Nat) (hst : ∀ a k, a < n → st a = .inr k → k < n) : ∀ a, a < n → chain st n a = chain st (n + 1) a := by
  have key : ∀ m, m ≤ (List.range n).countP (chain st m) ∨ ∀ a, a < n → chain st m a = chain st (m + 1) a := by
    intro m
    induction m with
    | zero => exact .inl (Nat.zero_le _)
    | succ m ih =>
      rcases ih with ih | ih
      · by_cases e : (List.range n).countP (chain st m) = (List.range n).countP (chain st (m + 1))
        · have h2 := cnt_eq (List.range n) (fun a _ h => chain_mono st m a h) e
          exact .inr (chain_stable st n hst m fun a ha => h2 a (by simpa using ha))
        · have h2 := cnt_le (List.range n) (fun a _ h => chain_mono st m a h)
          exact .inl (by omega)
      · exact .inr (chain_stable st n hst m ih)
  rcases key n with h | h
  · by_cases e : (List.range n).countP (chain st n) = (List.range n).countP (chain st (n + 1))
    · intro a ha
      exact cnt_eq (List.range n) (fun a _ h => chain_mono st n a h) e a (by simpa using ha)
    · have h2 := cnt_le (List.range n) (fun a _ h => chain_mono st n a h)
      have h3 : (List.range n).countP (chain st (n + 1)) ≤ n := by
        have := List.countP_le_length (p := chain st (n + 1)) (l := List.range n)
        simpa using this
      omega
  · exact h
end Go.Proofs.Ytkjnijddbiconaa.Ev
