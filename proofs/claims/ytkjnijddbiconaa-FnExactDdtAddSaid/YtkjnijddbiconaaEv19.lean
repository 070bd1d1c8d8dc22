/- A loop's head: the state without nil slices, with new names. -/
import Derived.Test.YtkjnijddbiconaaEv18
namespace Go.Proofs.Ytkjnijddbiconaa.Ev
open Go
set_option linter.unusedVariables false
set_option linter.unusedSimpArgs false
variable {P : Program} {E : Env} {C : Cx} {S : Sb} {σ : Sg} {a : Act} {w : World}

theorem slots_iff {l : List AV} : Slots S σ l a ↔ RL S σ l a.tmps.toList := by
  constructor
  · intro h
    refine ⟨by simp [h.len], fun j u v hu hv => ?_⟩
    have := h.tm j v (by simpa using hv)
    rwa [getT_eq l j u hu] at this
  · intro h
    refine ⟨by simpa using h.1.symm, fun s v hv => ?_⟩
    cases hu : l[s]? with
    | none => rw [getT_none l s (by simpa using hu)]; exact .junk v
    | some u => rw [getT_eq l s u hu]; exact h.2 s u v hu (by simpa using hv)
theorem setT_junk : ∀ (l : List AV) (vs : List Value) (s : Nat), RL S σ l vs → RL S σ (setT l s .junk) vs
  | [], vs, s, h => h
  | x :: l, vs, 0, h => by
    obtain ⟨v, vs', rfl, h1, h2⟩ := h.uncons
    exact .cons (.junk v) h2
  | x :: l, vs, s + 1, h => by
    obtain ⟨v, vs', rfl, h1, h2⟩ := h.uncons
    exact .cons h1 (setT_junk l vs' s h2)
theorem junkT_RL : ∀ (ts : List Tmp) (l : List AV) (vs : List Value), RL S σ l vs → RL S σ (junkT l ts) vs
  | [], l, vs, h => h
  | t :: ts, l, vs, h => junkT_RL ts _ vs (setT_junk l vs t h)

/-! ### No nil slices -/
def fake : Bk := ⟨0, 0, 0, 0, false⟩
def rows (n n' : Nat) (xs : List (Nat × AO)) : Prop := ∀ p ∈ xs, n ≤ p.1 ∧ p.1 < n' ∧ ∃ cs, p.2 = .row cs []
theorem rows.append {n m k : Nat} {xs ys : List (Nat × AO)} (h : rows n m xs) (h' : rows m k ys) (h1 : n ≤ m) (h2 : m ≤ k) : rows n k (xs ++ ys) := by
  intro p hp
  rcases List.mem_append.1 hp with hp | hp
  · obtain ⟨g1, g2, g3⟩ := h p hp; exact ⟨g1, by omega, g3⟩
  · obtain ⟨g1, g2, g3⟩ := h' p hp; exact ⟨by omega, g2, g3⟩
def Faked (σ : Sg) (n n' : Nat) : Prop := ∀ m, n ≤ m → m < n' → σ m = some fake
theorem denilL_facts {g : Nat → AV → AV × List (Nat × AO) × Nat} (hg : ∀ n a, n ≤ (g n a).2.2 ∧ rows n (g n a).2.2 (g n a).2.1) : ∀ (us : List AV) (n : Nat), n ≤ (denilL g n us).2.2 ∧ rows n (denilL g n us).2.2 (denilL g n us).2.1
  | [], n => ⟨Nat.le_refl n, fun p hp => by simp [denilL] at hp⟩
  | a :: us, n => by
    obtain ⟨h1, h2⟩ := hg n a
    obtain ⟨h3, h4⟩ := denilL_facts hg us (g n a).2.2
    exact ⟨Nat.le_trans h1 h3, h2.append h4 h1 h3⟩
theorem denil_facts : ∀ (d n : Nat) (a : AV), n ≤ (denil d n a).2.2 ∧ rows n (denil d n a).2.2 (denil d n a).2.1
  | 0, n, a => ⟨Nat.le_refl n, fun p hp => by simp [denil] at hp⟩
  | d + 1, n, a => by
    have keep : ∀ (b : AV), n ≤ ((b, ([] : List (Nat × AO)), n) : AV × List (Nat × AO) × Nat).2.2 ∧ rows n n [] := fun b => ⟨Nat.le_refl n, fun p hp => by simp at hp⟩
    cases a with
    | nsl cs =>
      refine ⟨by simp [denil], fun p hp => ?_⟩
      simp [denil] at hp ⊢
      subst hp
      exact ⟨Nat.le_refl n, by simp, cs, rfl⟩
    | agg us => simp only [denil]; exact denilL_facts (fun n a => denil_facts d n a) us n
    | tup us => simp only [denil]; exact denilL_facts (fun n a => denil_facts d n a) us n
    | _ => exact keep .junk
theorem denilL_RL {g : Nat → AV → AV × List (Nat × AO) × Nat} (hf : ∀ n a, n ≤ (g n a).2.2 ∧ rows n (g n a).2.2 (g n a).2.1) (hg : ∀ n a v, R S σ a v → Faked σ n (g n a).2.2 → R S σ (g n a).1 v) :
    ∀ (us : List AV) (vs : List Value) (n : Nat), RL S σ us vs → Faked σ n (denilL g n us).2.2 → RL S σ (denilL g n us).1 vs
  | [], vs, n, h, _ => h
  | a :: us, vs, n, h, hF => by
    obtain ⟨v, vs', rfl, h1, h2⟩ := h.uncons
    have m1 := (hf n a).1
    have m2 := (denilL_facts hf us (g n a).2.2).1
    simp only [denilL] at hF ⊢
    exact .cons (hg n a v h1 fun m g1 g2 => hF m g1 (by omega)) (denilL_RL hf hg us vs' _ h2 fun m g1 g2 => hF m (by omega) g2)
theorem denil_R : ∀ (d n : Nat) (a : AV) (v : Value), R S σ a v → Faked σ n (denil d n a).2.2 → R S σ (denil d n a).1 v
  | 0, n, a, v, h, _ => h
  | d + 1, n, a, v, h, hF => by
    cases h with
    | nsl cs => exact .ows0 n fake none (hF n (Nat.le_refl n) (by simp [denil])) rfl rfl
    | agg us vs hl hh => exact (fun h => .agg _ vs h.1 h.2) (denilL_RL (fun n a => denil_facts d n a) (fun n a v => denil_R d n a v) us vs n ⟨hl, hh⟩ hF)
    | tup us vs hl hh => exact (fun h => .tup _ vs h.1 h.2) (denilL_RL (fun n a => denil_facts d n a) (fun n a v => denil_R d n a v) us vs n ⟨hl, hh⟩ hF)
    | val v => exact .val v
    | junk v => exact .junk v
    | ifc t v => exact .ifc t v
    | rsl cs xs A c hc h => exact .rsl cs xs A c hc h
    | rel us ad h => exact .rel us ad h
    | rpt us vs ad hl h hv => exact .rpt us vs ad hl h hv
    | ows o k cap hk hr h1 h2 => exact .ows o k cap hk hr h1 h2
    | ows0 o k x hk hr hn => exact .ows0 o k x hk hr hn
    | osl o lo n k cap hk hr h0 h1 h2 => exact .osl o lo n k cap hk hr h0 h1 h2
    | osl0 o lo k x hk h0 => exact .osl0 o lo k x hk h0
    | oel o i j k hk hr h => exact .oel o i j k hk hr h
    | ptr o j k hk hr => exact .ptr o j k hk hr
    | bsl o j cs n k c hk hr hc => exact .bsl o j cs n k c hk hr hc
    | fn f us vs hl h => exact .fn f us vs hl h
theorem denilO_facts : ∀ (xs : List (Nat × AO)) (n : Nat), n ≤ (denilO n xs).2.2 ∧ rows n (denilO n xs).2.2 (denilO n xs).2.1
  | [], n => ⟨Nat.le_refl n, fun p hp => by simp [denilO] at hp⟩
  | (o, .box us) :: xs, n => by
    obtain ⟨h1, h2⟩ := denilL_facts (fun n a => denil_facts depth n a) us n
    obtain ⟨h3, h4⟩ := denilO_facts xs (denilL (denil depth) n us).2.2
    exact ⟨Nat.le_trans h1 h3, h2.append h4 h1 h3⟩
  | (o, .row cs es) :: xs, n => denilO_facts xs n
theorem denilO_look : ∀ (xs : List (Nat × AO)) (n o : Nat) (x : AO), lookN (denilO n xs).1 o = some x → Faked σ n (denilO n xs).2.2 → ∃ y, lookN xs o = some y ∧ ∀ k, objOK S σ w k y → objOK S σ w k x
  | [], n, o, x, h, _ => by simp [denilO, lookN] at h
  | (p, .box us) :: xs, n, o, x, h, hF => by
    have m1 := (denilL_facts (fun n a => denil_facts depth n a) us n).1
    have m2 := (denilO_facts xs (denilL (denil depth) n us).2.2).1
    simp only [denilO] at h hF
    simp only [lookN] at h ⊢
    split at h
    · rename_i e
      rw [if_pos e]
      obtain rfl := Option.some.inj h
      refine ⟨_, rfl, fun k ⟨h1, cur, et, h2, h3⟩ => ⟨h1, cur, et, h2, ?_⟩⟩
      exact denilL_RL (fun n a => denil_facts depth n a) (fun n a v => denil_R depth n a v) us _ n h3 fun m g1 g2 => hF m g1 (by omega)
    · rename_i e
      rw [if_neg e]
      exact denilO_look xs _ o x h fun m g1 g2 => hF m (by omega) g2
  | (p, .row cs es) :: xs, n, o, x, h, hF => by
    simp only [denilO] at h hF
    simp only [lookN] at h ⊢
    split at h
    · rename_i e
      rw [if_pos e]
      obtain rfl := Option.some.inj h
      exact ⟨_, rfl, fun k h => h⟩
    · rename_i e
      rw [if_neg e]
      exact denilO_look xs _ o x h hF
theorem lookN_append {α : Type} : ∀ (xs ys : List (Nat × α)) (o : Nat) (x : α), lookN (xs ++ ys) o = some x → lookN xs o = some x ∨ lookN ys o = some x
  | [], ys, o, x, h => .inr h
  | (p, y) :: xs, ys, o, x, h => by
    simp only [List.cons_append, lookN] at h ⊢
    split at h
    · rename_i e; rw [if_pos e]; exact .inl h
    · rename_i e; rw [if_neg e]; exact lookN_append xs ys o x h
def fk (σ : Sg) (n n' : Nat) : Sg := fun o => if n ≤ o ∧ o < n' then some fake else σ o
/-- The objects without nil slices. -/
theorem denil_OI {xs new : List (Nat × AO)} {nx n' : Nat} (oi : OI S σ (lookN xs) w) (hn : ∀ o, σ o ≠ none → o < nx) (h1 : nx ≤ n') (h2 : rows nx n' new) :
    (∀ o k, σ o = some k → fk σ nx (denilO n' xs).2.2 o = some k) ∧ Faked (fk σ nx (denilO n' xs).2.2) nx (denilO n' xs).2.2 ∧
    OI S (fk σ nx (denilO n' xs).2.2) (lookN ((denilO n' xs).1 ++ new ++ (denilO n' xs).2.1)) w := by
  obtain ⟨m1, m2⟩ := denilO_facts xs n'
  have hext : ∀ o k, σ o = some k → fk σ nx (denilO n' xs).2.2 o = some k := by
    intro o k h
    have := hn o (by simp [h])
    simp [fk, h, show ¬ nx ≤ o by omega]
  have hF : Faked (fk σ nx (denilO n' xs).2.2) nx (denilO n' xs).2.2 := fun m g1 g2 => by simp [fk, g1, g2]
  have oi2 : ∀ o x, lookN xs o = some x → ∃ k, σ o = some k ∧ objOK S (fk σ nx (denilO n' xs).2.2) w k x := by
    intro o x h
    obtain ⟨k, hk, ok⟩ := oi.ok o x h
    exact ⟨k, hk, ok.at hext fun _ => rfl⟩
  have cases_ : ∀ o x, lookN ((denilO n' xs).1 ++ new ++ (denilO n' xs).2.1) o = some x → (∃ y, lookN xs o = some y ∧ ∀ k, objOK S (fk σ nx (denilO n' xs).2.2) w k y → objOK S (fk σ nx (denilO n' xs).2.2) w k x) ∨
      (nx ≤ o ∧ o < (denilO n' xs).2.2 ∧ ∃ cs, x = .row cs []) := by
    intro o x h
    rcases lookN_append _ _ o x h with h | h
    · rcases lookN_append _ _ o x h with h | h
      · exact .inl (denilO_look xs n' o x h fun m g1 g2 => hF m (by omega) g2)
      · obtain ⟨g1, g2, cs, g3⟩ := h2 _ (lookN_mem _ _ _ h)
        exact .inr ⟨g1, by simp at g2; omega, cs, g3⟩
    · obtain ⟨g1, g2, cs, g3⟩ := m2 _ (lookN_mem _ _ _ h)
      exact .inr ⟨by simp at g1; omega, g2, cs, g3⟩
  have old : ∀ o y k, lookN xs o = some y → fk σ nx (denilO n' xs).2.2 o = some k → σ o = some k := by
    intro o y k hy hk
    obtain ⟨k2, hk2, _⟩ := oi.ok o y hy
    rw [hext o k2 hk2] at hk
    rw [hk2]; exact hk
  refine ⟨hext, hF, ?_, ?_, oi.st, ?_, oi.tab⟩
  · intro o x h
    rcases cases_ o x h with ⟨y, g1, g2⟩ | ⟨g1, g2, cs, rfl⟩
    · obtain ⟨k, hk, ok⟩ := oi2 o y g1
      exact ⟨k, hext o k hk, g2 k ok⟩
    · exact ⟨fake, hF o g1 g2, rfl, fun _ => rfl, fun h => by simp [fake] at h⟩
  · intro o o' x x' k k' h h' hk hk' r1 r2 hb
    rcases cases_ o x h with ⟨y, g1, g2⟩ | ⟨g1, g2, cs, rfl⟩
    · rcases cases_ o' x' h' with ⟨y', g1', g2'⟩ | ⟨g1', g2', cs, rfl⟩
      · exact oi.inj o o' y y' k k' g1 g1' (old o y k g1 hk) (old o' y' k' g1' hk') r1 r2 hb
      · rw [hF o' g1' g2'] at hk'
        obtain rfl := Option.some.inj hk'
        simp [fake] at r2
    · rw [hF o g1 g2] at hk
      obtain rfl := Option.some.inj hk
      simp [fake] at r1
  · intro o x k h hk hr
    rcases cases_ o x h with ⟨y, g1, g2⟩ | ⟨g1, g2, cs, rfl⟩
    · exact oi.sep o y k g1 (old o y k g1 hk) hr
    · rw [hF o g1 g2] at hk
      obtain rfl := Option.some.inj hk
      simp [fake] at hr
/-- The objects with new names. -/
theorem number_OI {ob : Ob} (oi : OI S σ ob w) {acc : List Nat} (hnd : nodupB acc = true) {os : List AO} (hos : getOb ob acc = some os) : OI S (names σ acc) (lookN (number 0 (os.map (renO (ixFrom 0 acc))))) w := by
  obtain ⟨hlen, hget⟩ := getOb_ok acc os hos
  have hρ : ∀ o q, ixFrom 0 acc o = some q → names σ acc q = σ o := by
    intro o q hq
    obtain ⟨_, h2⟩ := ixFrom_ok acc 0 o q hq
    simp only [Nat.sub_zero] at h2
    simp [names, h2]
  have at_ : ∀ (q : Nat) (x : AO), (os.map (renO (ixFrom 0 acc)))[q]? = some x → ∃ (o : Nat) (y : AO), acc[q]? = some o ∧ ob o = some y ∧ x = renO (ixFrom 0 acc) y := by
    intro q x hx
    rw [List.getElem?_map] at hx
    cases hy : os[q]? with
    | none => simp [hy] at hx
    | some y =>
      simp [hy] at hx
      have hlt := (List.getElem?_eq_some_iff.1 hy).1
      obtain ⟨o, ho⟩ : ∃ o, acc[q]? = some o := ⟨acc[q], by simp [show q < acc.length by omega]⟩
      obtain ⟨x', h1, h2⟩ := hget q o ho
      rw [hy] at h1
      obtain rfl := Option.some.inj h1
      exact ⟨o, y, ho, h2, hx.symm⟩
  refine ⟨?_, ?_, oi.st, ?_, oi.tab⟩
  · intro q x hx
    rw [lookN_num] at hx
    obtain ⟨o, y, h1, h2, rfl⟩ := at_ q x hx
    obtain ⟨k, hk, ok⟩ := oi.ok o y h2
    exact ⟨k, by simp [names, h1, hk], renO_ok hρ ok⟩
  · intro p p' x x' k k' h1 h2 h3 h4 r1 r2 hb
    rw [lookN_num] at h1 h2
    obtain ⟨o, y, g1, g2, rfl⟩ := at_ p x h1
    obtain ⟨o', y', g1', g2', rfl⟩ := at_ p' x' h2
    simp only [names, g1] at h3
    simp only [names, g1'] at h4
    have := oi.inj o o' y y' k k' g2 g2' h3 h4 r1 r2 hb
    subst this
    exact nodupB_ok acc hnd p p' o g1 g1'
  · intro p x k hp hk hr
    rw [lookN_num] at hp
    obtain ⟨o, y, g1, g2, rfl⟩ := at_ p x hp
    simp only [names, g1] at hk
    exact oi.sep o y k g2 hk hr
theorem names_ix {acc : List Nat} : ∀ o q, ixFrom 0 acc o = some q → names σ acc q = σ o := by
  intro o q hq
  obtain ⟨_, h2⟩ := ixFrom_ok acc 0 o q hq
  simp only [Nat.sub_zero] at h2
  simp [names, h2]
theorem renP_at {ρ : Nat → Option Nat} : ∀ (ps : List (Option Nat)) (i q : Nat), (renP ρ ps)[i]? = some (some q) → ∃ o, ps[i]? = some (some o) ∧ ρ o = some q
  | [], i, q, h => by simp [renP] at h
  | some o :: ps, i, q, h => by
    cases i with
    | zero => simp [renP] at h; exact ⟨o, rfl, h⟩
    | succ i => simpa using renP_at ps i q (by simpa [renP] using h)
  | none :: ps, i, q, h => by
    cases i with
    | zero => simp [renP] at h
    | succ i => simpa using renP_at ps i q (by simpa [renP] using h)
theorem canon_ok {st st' : St} (h : canon st = some st') (hi : Inv C σ st a w) : ∃ σ', Inv C σ' st' a w := by
  unfold canon at h
  simp only at h
  generalize visitL (visit depth (lookN _)) _ _ = acc at h
  obtain ⟨f1, f2⟩ := denilL_facts (fun n a => denil_facts depth n a) st.tm st.nx
  obtain ⟨hext, hF, oi2⟩ := denil_OI hi.oi hi.nx f1 f2
  have fle := (denilO_facts st.ob (denilL (denil depth) st.nx st.tm).2.2).1
  split at h
  · rename_i os hb hos
    obtain rfl := Option.some.inj h
    simp only [Bool.and_eq_true, Nat.blt_eq] at hb
    have oi3 := number_OI oi2 hb.1 hos
    have sl2 := (slots_iff.1 hi.sl).mono hext fun _ _ h => h
    have sl3 := denilL_RL (fun n a => denil_facts depth n a) (fun n a v => denil_R depth n a v) st.tm _ st.nx sl2 fun m g1 g2 => hF m g1 (by omega)
    have sl4 := slots_iff.2 (renL_RL (fun a v => ren_R (names_ix (acc := acc)) depth a v) sl3)
    refine ⟨_, sl4.len, sl4.tm, oi3, fun o ho => ?_, fun i q hq => ?_, hi.df, hi.tl⟩
    · show o < start
      refine Nat.lt_trans (Nat.lt_of_not_le fun hle => ho ?_) hb.2
      simp [names, List.getElem?_eq_none hle]
    · obtain ⟨o, h1, h2⟩ := renP_at _ _ _ hq
      obtain ⟨k, h3, h4⟩ := hi.ps i o h1
      exact ⟨k, by rw [names_ix o q h2]; exact hext o k h3, h4⟩
  · cases h
theorem head_ok {ts : List Tmp} {st st' : St} (h : head ts st = some st') (hi : Inv C σ st a w) : ∃ σ', Inv C σ' st' a w := by
  have sl := slots_iff.2 (junkT_RL ts _ _ (slots_iff.1 hi.sl))
  exact canon_ok h ⟨sl.len, sl.tm, hi.oi, hi.nx, hi.ps, hi.df, hi.tl⟩
end Go.Proofs.Ytkjnijddbiconaa.Ev
