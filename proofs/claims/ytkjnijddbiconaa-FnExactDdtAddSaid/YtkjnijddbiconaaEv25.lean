/- Loops of the common shapes: counting up, all-of, copies, sizes. -/
import Derived.Test.YtkjnijddbiconaaEv22
namespace Go.Proofs.Ytkjnijddbiconaa.Ev
open Go
set_option linter.unusedVariables false
variable {P : Program}
abbrev vI (n : Int) : AV := .val (.int .i64 n)
abbrev vS (s : ByteArray) : AV := .val (.string s)
abbrev vB (b : Bool) : AV := .val (.bool b)
abbrev vU : AV := .val (.tuple #[])
abbrev vJ : AV := .junk
theorem resI {a b : Int} (h : a = b) : (some ⟨.val (.int .i64 a), [], []⟩ : Option Res) = some ⟨.val (.int .i64 b), [], []⟩ := by rw [h]
theorem wrap_id {n : Int} (h1 : -9223372036854775808 ≤ n) (h2 : n ≤ 9223372036854775807) : IntKind.i64.wrap n = n := by rw [IntKind.wrap_i64]; omega
theorem br_dec {p : Prop} {d : Decidable p} {t e : Prop} (h1 : p → t) (h2 : ¬p → e) : br (@decide p d) t e :=
  br_intro (fun h => h1 (of_decide_eq_true h)) (fun h => h2 (of_decide_eq_false h))
theorem br_yes {p : Prop} {d : Decidable p} {t e : Prop} (h : p) (h1 : t) : br (@decide p d) t e := br_dec (fun _ => h1) (fun n => absurd h n)
theorem br_no {p : Prop} {d : Decidable p} {t e : Prop} (h : ¬p) (h1 : e) : br (@decide p d) t e := br_dec (fun n => absurd n h) (fun _ => h1)
theorem br_not {b : Bool} {t e : Prop} (h1 : b = false → t) (h2 : b = true → e) : br (!b) t e := by
  cases b
  · exact h1 rfl
  · exact h2 rfl
theorem br_t {b : Bool} {t e : Prop} (h : b = true) (h1 : t) : br b t e := by subst h; exact h1
theorem br_f {b : Bool} {t e : Prop} (h : b = false) (h1 : e) : br b t e := by subst h; exact h1
theorem brd {p : Prop} {d : Decidable p} {t : Prop} (h : br (@decide p d) t False) : p ∧ t := by
  obtain ⟨h1, h2⟩ := br_and h
  exact ⟨of_decide_eq_true h1, h2⟩
theorem br_bne {α : Type} [BEq α] {a b : α} {t e : Prop} (h1 : (a == b) = false → t) (h2 : (a == b) = true → e) : br (a != b) t e := br_not h1 h2
theorem flatAVs_inv : ∀ {us : List AV} {vs : List Value}, flatAVs us = some vs → us = vs.map .val
  | [], vs, h => by
    simp only [flatAVs] at h
    cases h
    rfl
  | a :: az, vs, h => by
    simp only [flatAVs] at h
    split at h
    · rename_i v hv
      split at h
      · rename_i ws hw
        cases h
        have e := flatAVs_inv hw
        cases a <;> simp only [flatAV] at hv <;> cases hv
        rw [e]
        rfl
      · cases h
    · cases h
theorem ckOfVal_inv {c : CK} {v : Value} {x : c.T} (h : c.ofVal v = some x) : v = c.val x := by
  cases c <;> cases v <;> simp only [CK.ofVal] at h <;> first | (cases h; done) | skip
  · split at h
    · rename_i e
      cases h
      rw [e]
      rfl
    · cases h
  · cases h
    rfl
  · cases h
    rfl
theorem ofVals_inv : ∀ {cs : List CK} {vs : List Value} {e : Elem cs}, ofVals cs vs = some e → vs = vals cs e
  | [], [], e, h => rfl
  | [], _ :: _, e, h => by cases h
  | _ :: _, [], e, h => by cases h
  | c :: cs, v :: vs, e, h => by
    simp only [ofVals] at h
    split at h
    · rename_i x hx
      split at h
      · rename_i y hy
        cases h
        rw [ckOfVal_inv hx, ofVals_inv hy]
        rfl
      · cases h
    · cases h
theorem elemOf_inv {cs : List CK} {us : List AV} {e : Elem cs} (h : elemOf cs us = some e) : us = (vals cs e).map .val := by
  unfold elemOf at h
  split at h
  · rename_i vs hv
    rw [flatAVs_inv hv, ofVals_inv h]
  · cases h
theorem castE_inv {cs cs' : List CK} {xs : List (Elem cs')} {ys : List (Elem cs)} (h : castE cs cs' xs = some ys) : (⟨cs', xs⟩ : (cs : List CK) × List (Elem cs)) = ⟨cs, ys⟩ := by
  unfold castE at h
  split at h
  · rename_i e
    subst e
    cases h
    rfl
  · cases h
/-- A loop that counts up and carries something. -/
theorem loopUp {E : Env} (ok : Ok P E) {G : Gk} (hG : HG P G) {C : Cx} {α : Type} (ST : Int → α → St) (n : Nat) (I : Nat → α → Prop) {c : Code} {k : Kt}
    (body : ∀ (N : St → Prop) (i : Nat) (a : α), i ≤ n → I i a → (i < n → ∀ a', I (i + 1) a' → N (ST ((i : Int) + 1) a')) → evP E G (LoopOk P C) c (ST i a) (rk (jof E c) N k))
    (a : α) (h : I 0 a) : LoopOk P C c (ST 0 a) k :=
  loopR ok hG (ι := {p : Nat × α // p.1 ≤ n ∧ I p.1 p.2}) (fun p => ST p.1.1 p.1.2) (fun p => n - p.1.1)
    (fun ⟨(i, a), hi, h⟩ => body _ i a hi h (fun hlt a' ha' => ⟨⟨(i + 1, a'), hlt, ha'⟩, rfl, by show n - (i + 1) < n - i; omega⟩)) ⟨(0, a), Nat.zero_le _, h⟩
theorem loopUpFrom {E : Env} (ok : Ok P E) {G : Gk} (hG : HG P G) {C : Cx} {α : Type} (ST : Int → α → St) (n : Nat) (I : Nat → α → Prop) {c : Code} {k : Kt}
    (body : ∀ (N : St → Prop) (i : Nat) (a : α), i ≤ n → I i a → (i < n → ∀ a', I (i + 1) a' → N (ST ((i : Int) + 1) a')) → evP E G (LoopOk P C) c (ST i a) (rk (jof E c) N k))
    (i0 : Nat) (hi0 : i0 ≤ n) (a : α) (h : I i0 a) : LoopOk P C c (ST i0 a) k :=
  loopR ok hG (ι := {p : Nat × α // p.1 ≤ n ∧ I p.1 p.2}) (fun p => ST p.1.1 p.1.2) (fun p => n - p.1.1)
    (fun ⟨(i, a), hi, h⟩ => body _ i a hi h (fun hlt a' ha' => ⟨⟨(i + 1, a'), hlt, ha'⟩, rfl, by show n - (i + 1) < n - i; omega⟩)) ⟨(i0, a), hi0, h⟩
/-- A loop of so many rounds, one state after the other. -/
theorem loopSeq {E : Env} (ok : Ok P E) {G : Gk} (hG : HG P G) {C : Cx} (ST : Nat → St) (n : Nat) {c : Code} {k : Kt}
    (body : ∀ (N : St → Prop) (i : Nat), i < n → N (ST (i + 1)) → evP E G (LoopOk P C) c (ST i) (rk (jof E c) N k))
    (last : ∀ (N : St → Prop), evP E G (LoopOk P C) c (ST n) (rk (jof E c) N k)) : LoopOk P C c (ST 0) k :=
  loopR ok hG (ι := {p : Nat // p ≤ n}) (fun p => ST p.1) (fun p => n - p.1)
    (fun ⟨i, hi⟩ => by
      by_cases h : i < n
      · exact body _ i h ⟨⟨i + 1, h⟩, rfl, by show n - (i + 1) < n - i; omega⟩
      · have : i = n := by omega
        subst this
        exact last _) ⟨0, Nat.zero_le _⟩
/-- A loop that counts down to the first. -/
theorem loopDown {E : Env} (ok : Ok P E) {G : Gk} (hG : HG P G) {C : Cx} (ST : Int → St) (n : Nat) (I : Nat → Prop) {c : Code} {k : Kt}
    (base : ∀ (N : St → Prop), I 0 → evP E G (LoopOk P C) c (ST (-1)) (rk (jof E c) N k))
    (step : ∀ (N : St → Prop) (q : Nat), q < n → I (q + 1) → (I q → N (ST ((q : Int) - 1))) → evP E G (LoopOk P C) c (ST (q : Int)) (rk (jof E c) N k))
    (m : Int) (hm : m = (n : Int) - 1) (h : I n) : LoopOk P C c (ST m) k := by
  subst hm
  refine loopR ok hG (ι := {q : Nat // q ≤ n ∧ I q}) (fun p => ST ((p.1 : Int) - 1)) (fun p => p.1) (fun ⟨q, hq, hI⟩ => ?_) ⟨n, Nat.le_refl _, h⟩
  cases q with
  | zero => exact base _ hI
  | succ q =>
    have e : ((q + 1 : Nat) : Int) - 1 = q := by omega
    show evP E G (LoopOk P C) c (ST (((q + 1 : Nat) : Int) - 1)) _
    rw [e]
    exact step _ q (by omega) hI (fun hI' => ⟨⟨q, by omega, hI'⟩, rfl, by show q < q + 1; omega⟩)
def allB (n : Nat) (p : Nat → Bool) : Bool := (List.range n).all p
theorem allB_f {n : Nat} {p : Nat → Bool} {i : Nat} (hi : i < n) (h : p i = false) : allB n p = false := by
  unfold allB
  rw [List.all_eq_false]
  exact ⟨i, by simpa using hi, by simp [h]⟩
theorem allB_t {n : Nat} {p : Nat → Bool} (h : ∀ i, i < n → p i = true) : allB n p = true := by
  unfold allB
  rw [List.all_eq_true]
  intro i hi
  exact h i (by simpa using hi)
theorem allB_at {n : Nat} {p : Nat → Bool} (h : allB n p = true) {i : Nat} (hi : i < n) : p i = true := by
  unfold allB at h
  rw [List.all_eq_true] at h
  exact h i (by simpa using hi)
theorem allB_congr {n : Nat} {p q : Nat → Bool} (h : ∀ i, i < n → p i = q i) : allB n p = allB n q := by
  cases hq : allB n q with
  | true => exact allB_t fun i hi => by rw [h i hi]; exact allB_at hq hi
  | false =>
    cases hp : allB n p with
    | false => rfl
    | true => exact absurd (allB_t fun i hi => by rw [← h i hi]; exact allB_at hp hi : allB n q = true) (by rw [hq]; simp)
/-- A loop that goes through all and stops at the first that fails. -/
theorem loopAll {E : Env} (ok : Ok P E) {G : Gk} (hG : HG P G) {C : Cx} (ST : Int → St) (n : Nat) (p : Nat → Bool) {c : Code} {k : Kt}
    (hn : n < 9223372036854775807)
    (body : ∀ (N : St → Prop) (i : Nat), i ≤ n → IntKind.i64.wrap ((i : Int) + 1) = (i : Int) + 1 → (i < n → p i = true → N (ST ((i : Int) + 1))) → (i < n → p i = false → allB n p = false) → (¬ i < n → allB n p = true) →
      evP E G (LoopOk P C) c (ST i) (rk (jof E c) N k)) : LoopOk P C c (ST 0) k :=
  loopUp ok hG (α := Unit) (fun i _ => ST i) n (fun i _ => ∀ j, j < i → p j = true)
    (fun N i _ hi hall hN => body N i hi (wrap_id (by omega) (by omega)) (fun h1 h2 => hN h1 () (fun j hj => by
      by_cases e : j < i
      · exact hall j e
      · have : j = i := by omega
        rw [this]; exact h2)) (fun h1 h2 => allB_f h1 h2) (fun h1 => allB_t fun j hj => hall j (by omega))) () (fun j hj => by omega)
/-- The first that has a property, or -1. -/
def fIx (n : Nat) (p : Nat → Bool) : Int := match (List.range n).find? p with | some i => (i : Int) | none => -1
def anyB (n : Nat) (p : Nat → Bool) : Bool := (List.range n).any p
theorem fIx_at {n : Nat} {p : Nat → Bool} {i : Nat} (h : ∀ j, j < i → p j = false) (hi : i < n) (hp : p i = true) : fIx n p = i := by
  unfold fIx
  have : (List.range n).find? p = some i := by
    rw [List.find?_range_eq_some]
    exact ⟨hp, by simpa using hi, fun j hj => by simp [h j hj]⟩
  rw [this]
theorem fIx_none {n : Nat} {p : Nat → Bool} (h : ∀ j, j < n → p j = false) : fIx n p = -1 := by
  unfold fIx
  have : (List.range n).find? p = none := by
    rw [List.find?_eq_none]
    intro x hx
    simp [h x (by simpa using hx)]
  rw [this]
theorem fIx_ge {n : Nat} {p : Nat → Bool} : decide (fIx n p ≥ 0) = anyB n p := by
  unfold fIx anyB
  cases h : (List.range n).find? p with
  | none =>
    rw [List.find?_eq_none] at h
    have : (List.range n).any p = false := by rw [List.any_eq_false]; exact h
    rw [this]
    rfl
  | some i =>
    have : (List.range n).any p = true := by rw [List.any_eq_true]; exact ⟨i, List.mem_of_find?_eq_some h, List.find?_some h⟩
    rw [this]
    simp
theorem anyB_t {n : Nat} {p : Nat → Bool} {i : Nat} (hi : i < n) (h : p i = true) : anyB n p = true := by
  unfold anyB
  rw [List.any_eq_true]
  exact ⟨i, by simpa using hi, h⟩
theorem anyB_f {n : Nat} {p : Nat → Bool} (h : ∀ i, i < n → p i = false) : anyB n p = false := by
  unfold anyB
  rw [List.any_eq_false]
  intro i hi
  simp [h i (by simpa using hi)]
theorem anyB_at {n : Nat} {p : Nat → Bool} (h : anyB n p = false) {i : Nat} (hi : i < n) : p i = false := by
  cases hp : p i with
  | false => rfl
  | true => rw [anyB_t hi hp] at h; cases h
theorem anyB_all {n : Nat} {p : Nat → Bool} : anyB n p = !allB n (fun i => !p i) := by
  unfold anyB allB
  rw [List.not_all_eq_any_not]
  simp
def fd (n : Nat) (p : Nat → Bool) : Option Nat := (List.range n).find? p
theorem fd_at {n : Nat} {p : Nat → Bool} {i : Nat} (h : ∀ j, j < i → p j = false) (hi : i < n) (hp : p i = true) : fd n p = some i := by
  unfold fd
  rw [List.find?_range_eq_some]
  exact ⟨hp, by simpa using hi, fun j hj => by simp [h j hj]⟩
theorem fd_none {n : Nat} {p : Nat → Bool} (h : ∀ j, j < n → p j = false) : fd n p = none := by
  unfold fd
  rw [List.find?_eq_none]
  intro x hx
  simp [h x (by simpa using hx)]
theorem loopFd {E : Env} (ok : Ok P E) {G : Gk} (hG : HG P G) {C : Cx} (ST : Int → St) (n : Nat) (p : Nat → Bool) {c : Code} {k : Kt}
    (hn : n < 9223372036854775807)
    (body : ∀ (N : St → Prop) (i : Nat), i ≤ n → IntKind.i64.wrap ((i : Int) + 1) = (i : Int) + 1 → (i < n → p i = false → N (ST ((i : Int) + 1))) → (i < n → p i = true → fd n p = some i) → (¬ i < n → fd n p = none) →
      evP E G (LoopOk P C) c (ST i) (rk (jof E c) N k)) : LoopOk P C c (ST 0) k :=
  loopUp ok hG (α := Unit) (fun i _ => ST i) n (fun i _ => ∀ j, j < i → p j = false)
    (fun N i _ hi hall hN => body N i hi (wrap_id (by omega) (by omega)) (fun h1 h2 => hN h1 () (fun j hj => by
      by_cases e : j < i
      · exact hall j e
      · have : j = i := by omega
        rw [this]; exact h2)) (fun h1 h2 => fd_at hall h1 h2) (fun h1 => fd_none fun j hj => hall j (by omega))) () (fun j hj => by omega)
/-- A loop that looks for the first. -/
theorem loopFind {E : Env} (ok : Ok P E) {G : Gk} (hG : HG P G) {C : Cx} (ST : Int → St) (n : Nat) (p : Nat → Bool) {c : Code} {k : Kt}
    (hn : n < 9223372036854775807)
    (body : ∀ (N : St → Prop) (i : Nat), i ≤ n → IntKind.i64.wrap ((i : Int) + 1) = (i : Int) + 1 → (i < n → p i = false → N (ST ((i : Int) + 1))) → (i < n → p i = true → fIx n p = i) → (¬ i < n → fIx n p = -1) →
      evP E G (LoopOk P C) c (ST i) (rk (jof E c) N k)) : LoopOk P C c (ST 0) k :=
  loopUp ok hG (α := Unit) (fun i _ => ST i) n (fun i _ => ∀ j, j < i → p j = false)
    (fun N i _ hi hall hN => body N i hi (wrap_id (by omega) (by omega)) (fun h1 h2 => hN h1 () (fun j hj => by
      by_cases e : j < i
      · exact hall j e
      · have : j = i := by omega
        rw [this]; exact h2)) (fun h1 h2 => fIx_at hall h1 h2) (fun h1 => fIx_none fun j hj => hall j (by omega))) () (fun j hj => by omega)
def eqL {α : Type} (e : α → α → Bool) (d : α) (xs ys : List α) : Bool := decide (xs.length = ys.length) && allB xs.length fun i => e (xs.getD i d) (ys.getD i d)
theorem eqL_self {α : Type} {e : α → α → Bool} {d : α} (he : ∀ a, e a a = true) (xs : List α) : eqL e d xs xs = true := by
  unfold eqL
  rw [allB_t fun i hi => he _]
  simp
theorem eqL_len {α : Type} {e : α → α → Bool} {d : α} {xs ys : List α} (h : xs.length ≠ ys.length) : eqL e d xs ys = false := by
  unfold eqL
  simp [h]
theorem eqL_of {α : Type} {e : α → α → Bool} {d : α} {xs ys : List α} (h : xs.length = ys.length) : eqL e d xs ys = allB xs.length fun i => e (xs.getD i d) (ys.getD i d) := by
  unfold eqL
  simp [h]
/-- What is copied so far. -/
def Cp {α : Type} (xs : List α) (i : Nat) (ys : List α) : Prop := ys.length = xs.length ∧ ys.take i = xs.take i
theorem Cp.zero {α : Type} (xs : List α) (d : α) : Cp xs 0 (List.replicate xs.length d) := ⟨by simp, by simp⟩
theorem Cp.len {α : Type} {xs ys : List α} {i : Nat} (h : Cp xs i ys) : ys.length = xs.length := h.1
theorem Cp.next {α : Type} {xs ys : List α} {i : Nat} {d : α} (h : Cp xs i ys) (hi : i < xs.length) : Cp xs (i + 1) (ys.set i (xs.getD i d)) := by
  refine ⟨by simp [h.1], ?_⟩
  have hx : xs[i]? = some (xs.getD i d) := by rw [List.getD_eq_getElem?_getD, List.getElem?_eq_getElem hi]; rfl
  rw [List.take_add_one, List.take_add_one, List.take_set_of_le (Nat.le_refl i), h.2, List.getElem?_set_self (by rw [h.1]; exact hi), hx]
theorem Cp.done {α : Type} {xs ys : List α} {i : Nat} (h : Cp xs i ys) (hi : ¬ i < xs.length) : ys = xs := by
  have := h.2
  rwa [List.take_of_length_le (by rw [h.1]; omega), List.take_of_length_le (by omega)] at this
/-- Sizes: what is left, or -1. -/
def szR (l : Int) (t : Nat) : Int := if (t : Int) ≤ l then l - t else -1
theorem szR_neg {l : Int} {t : Nat} (h : l < t) : szR l t = -1 := if_neg (by omega)
theorem szR_pos {l : Int} {t : Nat} (h : (t : Int) ≤ l) : szR l t = l - t := if_pos h
theorem szR_lt {l : Int} {t : Nat} : szR l t < 0 ↔ l < t ∨ l - t < 0 := by
  unfold szR
  split <;> omega
theorem szR_lt0 {l : Int} {t : Nat} (h : szR l t < 0) : l < t := by
  rw [szR_lt] at h
  omega
theorem szR_ge0 {l : Int} {t : Nat} (h : ¬ szR l t < 0) : (t : Int) ≤ l := by
  rw [szR_lt] at h
  omega
def preS {α : Type} (f : α → Nat) (xs : List α) (i : Nat) : Nat := ((xs.take i).map f).sum
theorem preS_zero {α : Type} (f : α → Nat) (xs : List α) : preS f xs 0 = 0 := by simp [preS]
theorem preS_next {α : Type} (f : α → Nat) (xs : List α) {i : Nat} (d : α) (hi : i < xs.length) : preS f xs (i + 1) = preS f xs i + f (xs.getD i d) := by
  unfold preS
  rw [List.take_add_one, List.getD_eq_getElem?_getD, List.getElem?_eq_getElem hi]
  simp only [List.map_append, List.sum_append, Option.toList, List.map_cons, List.map_nil, List.sum_cons, List.sum_nil, Option.getD_some, Nat.add_zero]
theorem preS_end {α : Type} (f : α → Nat) (xs : List α) {i : Nat} (hi : ¬ i < xs.length) : preS f xs i = (xs.map f).sum := by
  unfold preS
  rw [List.take_of_length_le (by omega)]
theorem preS_le {α : Type} (f : α → Nat) (xs : List α) (i : Nat) : preS f xs i ≤ (xs.map f).sum := by
  unfold preS
  have e : (xs.map f).sum = ((xs.take i ++ xs.drop i).map f).sum := by rw [List.take_append_drop]
  rw [e, List.map_append, List.sum_append]
  omega
theorem getD_mem {α : Type} {xs : List α} {i : Nat} (d : α) (hi : i < xs.length) : xs.getD i d ∈ xs := by
  rw [List.getD_eq_getElem?_getD, List.getElem?_eq_getElem hi]
  exact List.getElem_mem hi
theorem all_at {α : Type} {xs : List α} {p : α → Bool} (h : xs.all p = true) (d : α) {i : Nat} (hi : i < xs.length) : p (xs.getD i d) = true :=
  List.all_eq_true.1 h _ (getD_mem d hi)
/-- A loop that takes the sizes of all elements away from what is left. -/
theorem loopSz {E : Env} (ok : Ok P E) {G : Gk} (hG : HG P G) {C : Cx} {α : Type} (ST : Int → Int → St) (xs : List α) (d : α) (f : α → Nat) (pr : α → Bool) (l : Int) {c : Code} {k : Kt}
    (hlen : xs.length < 9223372036854775807) (hl : l ≤ 1048576) (hpr : xs.all pr = true)
    (body : ∀ (N : St → Prop) (i : Nat) (m : Int), i ≤ xs.length → 0 ≤ m → m ≤ 1048576 → IntKind.i64.wrap ((i : Int) + 1) = (i : Int) + 1 → (i < xs.length → pr (xs.getD i d) = true) →
      (i < xs.length → m < f (xs.getD i d) → szR l (xs.length + (xs.map f).sum) = -1) → (i < xs.length → (f (xs.getD i d) : Int) ≤ m → N (ST ((i : Int) + 1) (m - f (xs.getD i d)))) → (¬ i < xs.length → szR l (xs.length + (xs.map f).sum) = m) →
      evP E G (LoopOk P C) c (ST i m) (rk (jof E c) N k)) (m0 : Int) (hm0 : m0 = l - xs.length) (h0 : (xs.length : Int) ≤ l) : LoopOk P C c (ST 0 m0) k :=
  loopUp ok hG ST xs.length (fun i m => 0 ≤ m ∧ m = l - xs.length - preS f xs i)
    (fun N i m hi ⟨hm, he⟩ hN => by
      refine body N i m hi hm (by omega) (wrap_id (by omega) (by omega)) (fun h => all_at hpr d h) (fun h1 h2 => ?_) (fun h1 h2 => ?_) (fun h1 => ?_)
      · have a1 := preS_next f xs d h1
        have a2 := preS_le f xs (i + 1)
        exact szR_neg (by omega)
      · have a1 := preS_next f xs d h1
        exact hN h1 _ ⟨by omega, by omega⟩
      · have a1 := preS_end f xs h1
        rw [szR_pos (by omega)]
        omega)
    m0 ⟨by omega, by rw [preS_zero]; omega⟩
end Go.Proofs.Ytkjnijddbiconaa.Ev
