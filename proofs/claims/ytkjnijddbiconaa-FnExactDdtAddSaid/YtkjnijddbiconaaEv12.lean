/- Calls: what is handed over, what comes back. -/
import Derived.Test.YtkjnijddbiconaaEv11
namespace Go.Proofs.Ytkjnijddbiconaa.Ev
open Go
set_option linter.unusedVariables false
set_option linter.unusedSimpArgs false
variable {P : Program} {E : Env} {S : Sb} {σ : Sg} {l : List AV} {a : Act} {ob : Ob} {w : World}

/-! ### New names -/
theorem renL_RL {g : AV → AV} {π : Sg} (h : ∀ a v, R S σ a v → R S π (g a) v) : ∀ {us : List AV} {vs : List Value}, RL S σ us vs → RL S π (renL g us) vs
  | [], vs, hl => by
    have : vs = [] := List.eq_nil_of_length_eq_zero (by have := hl.1; simpa using this.symm)
    subst this; exact .nil
  | a :: us, vs, hl => by
    obtain ⟨v, vs', rfl, h1, h2⟩ := hl.uncons
    exact .cons (h a v h1) (renL_RL h h2)
theorem ren_R {π : Sg} {ρ : Nat → Option Nat} (hρ : ∀ o q, ρ o = some q → π q = σ o) : ∀ (d : Nat) (a : AV) (v : Value), R S σ a v → R S π (ren ρ d a) v
  | 0, a, v, _ => .junk v
  | d + 1, a, v, h => by
    cases h with
    | val v => exact .val v
    | junk v => exact .junk v
    | ifc t v => exact .ifc t v
    | nsl cs => exact .nsl cs
    | rsl cs xs A c hc h => exact .rsl cs xs A c hc h
    | rel us ad h => exact .rel us ad h
    | rpt us vs ad hl h hv => exact (fun h => .rpt _ vs ad h.1 h.2 hv) (renL_RL (fun a v => ren_R hρ d a v) ⟨hl, h⟩)
    | ows o k cap hk hr h1 h2 =>
      simp only [ren]
      split
      · rename_i q hq; exact .ows q k cap (by rw [hρ _ _ hq, hk]) hr h1 h2
      · exact .junk _
    | ows0 o k x hk hr hn =>
      simp only [ren]
      split
      · rename_i q hq; exact .ows0 q k x (by rw [hρ _ _ hq, hk]) hr hn
      · exact .junk _
    | osl o lo n k cap hk hr h0 h1 h2 =>
      simp only [ren]
      split
      · rename_i q hq; exact .osl q lo n k cap (by rw [hρ _ _ hq, hk]) hr h0 h1 h2
      · exact .junk _
    | osl0 o lo k x hk h0 =>
      simp only [ren]
      split
      · rename_i q hq; exact .osl0 q lo k x (by rw [hρ _ _ hq, hk]) h0
      · exact .junk _
    | oel o i j k hk hr h =>
      simp only [ren]
      split
      · rename_i q hq; exact .oel q i j k (by rw [hρ _ _ hq, hk]) hr h
      · exact .junk _
    | ptr o j k hk hr =>
      simp only [ren]
      split
      · rename_i q hq; exact .ptr q j k (by rw [hρ _ _ hq, hk]) hr
      · exact .junk _
    | bsl o j cs n k c hk hr hc =>
      simp only [ren]
      split
      · rename_i q hq; exact .bsl q j cs n k c (by rw [hρ _ _ hq, hk]) hr hc
      · exact .junk _
    | agg us vs hl h => exact (fun h => .agg _ vs h.1 h.2) (renL_RL (fun a v => ren_R hρ d a v) ⟨hl, h⟩)
    | fn f us vs hl h => exact (fun h => .fn f _ vs h.1 h.2) (renL_RL (fun a v => ren_R hρ d a v) ⟨hl, h⟩)
    | tup us vs hl h => exact (fun h => .tup _ vs h.1 h.2) (renL_RL (fun a v => ren_R hρ d a v) ⟨hl, h⟩)
theorem renO_ok {π : Sg} {ρ : Nat → Option Nat} (hρ : ∀ o q, ρ o = some q → π q = σ o) {k : Bk} {x : AO} (h : objOK S σ w k x) : objOK S π w k (renO ρ x) := by
  cases x with
  | row cs xs => exact h
  | box us =>
    obtain ⟨h1, cur, e, h2, h3⟩ := h
    exact ⟨h1, cur, e, h2, renL_RL (fun a v => ren_R hρ depth a v) h3⟩

/-! ### No memory that is read only -/
theorem noMem_R {S' : Sb} : ∀ (d : Nat) (a : AV) (v : Value), noMem d a = true → R S' σ a v → R S σ a v
  | 0, a, v, h, _ => by simp [noMem] at h
  | d + 1, a, v, h, hR => by
    have many : ∀ (us : List AV) (vs : List Value), noRefL (noMem d) us = true → RL S' σ us vs → RL S σ us vs := by
      intro us
      induction us with
      | nil =>
        intro vs _ hl
        have : vs = [] := List.eq_nil_of_length_eq_zero (by have := hl.1; simpa using this.symm)
        subst this; exact .nil
      | cons u us ih =>
        intro vs hn hl
        obtain ⟨v, vs', rfl, h1, h2⟩ := hl.uncons
        simp [noRefL] at hn
        exact .cons (noMem_R d u v hn.1 h1) (ih vs' hn.2 h2)
    cases hR with
    | val v => exact .val v
    | junk v => exact .junk v
    | ifc t v => exact .ifc t v
    | nsl cs => exact .nsl cs
    | rsl cs xs A c hc hh => simp [noMem] at h
    | rel us ad hh => simp [noMem] at h
    | rpt us vs ad hl hh hv => simp [noMem] at h
    | ows o k cap hk hr h1 h2 => exact .ows o k cap hk hr h1 h2
    | ows0 o k x hk hr hn => exact .ows0 o k x hk hr hn
    | osl o lo n k cap hk hr h0 h1 h2 => exact .osl o lo n k cap hk hr h0 h1 h2
    | osl0 o lo k x hk h0 => exact .osl0 o lo k x hk h0
    | oel o i j k hk hr hi => exact .oel o i j k hk hr hi
    | ptr o j k hk hr => exact .ptr o j k hk hr
    | bsl o j cs n k c hk hr hc => exact .bsl o j cs n k c hk hr hc
    | agg us vs hl hh => exact (fun h => .agg _ vs h.1 h.2) (many us vs (by simpa [noMem] using h) ⟨hl, hh⟩)
    | fn f us vs hl hh => exact (fun h => .fn f _ vs h.1 h.2) (many us vs (by simpa [noMem] using h) ⟨hl, hh⟩)
    | tup us vs hl hh => exact (fun h => .tup _ vs h.1 h.2) (many us vs (by simpa [noMem] using h) ⟨hl, hh⟩)
theorem noMemL_RL {S' : Sb} (d : Nat) : ∀ (us : List AV) (vs : List Value), noRefL (noMem d) us = true → RL S' σ us vs → RL S σ us vs
  | [], vs, _, hl => by
    have : vs = [] := List.eq_nil_of_length_eq_zero (by have := hl.1; simpa using this.symm)
    subst this; exact .nil
  | u :: us, vs, hn, hl => by
    obtain ⟨v, vs', rfl, h1, h2⟩ := hl.uncons
    simp [noRefL] at hn
    exact .cons (noMem_R d u v hn.1 h1) (noMemL_RL d us vs' hn.2 h2)
theorem noMemO_ok {S' : Sb} {k : Bk} {x : AO} (hn : noMemO x = true) (h : objOK S' σ w k x) : objOK S σ w k x := by
  cases x with
  | row cs xs => exact h
  | box us =>
    obtain ⟨h1, cur, e, h2, h3⟩ := h
    exact ⟨h1, cur, e, h2, noMemL_RL depth us _ (by simpa [noMemO] using hn) h3⟩

/-! ### Read only -/
theorem cellS_of {w : World} {ad : Addr} {v : Value} (h : w.cell? ad = some v) : cellS (SH w) ad = some v := by
  unfold World.cell? at h
  unfold cellS
  exact h
theorem takeX_self {α : Type} : ∀ (xs : List α), takeX xs.length xs = some xs
  | [] => rfl
  | x :: xs => by simp [takeX, takeX_self xs]
theorem mapX_RL {π : Sg} {S' : Sb} {g : AV → Option AV} (h : ∀ a b v, g a = some b → R S σ a v → R S' π b v) : ∀ {us us' : List AV} {vs : List Value}, mapX g us = some us' → RL S σ us vs → RL S' π us' vs
  | [], us', vs, hm, hl => by
    simp [mapX] at hm; subst hm
    have : vs = [] := List.eq_nil_of_length_eq_zero (by have := hl.1; simpa using this.symm)
    subst this; exact .nil
  | a :: us, us', vs, hm, hl => by
    obtain ⟨v, vs', rfl, h1, h2⟩ := hl.uncons
    simp only [mapX] at hm
    split at hm
    · rename_i b hb
      split at hm
      · rename_i bs hbs
        simp at hm; subst hm
        exact .cons (h a b v hb h1) (mapX_RL h hbs h2)
      · cases hm
    · cases hm
theorem ro_slice {π : Sg} (oi : OI S σ ob w) {cs : List CK} {xs : List (Elem cs)} {a : AV} {v : Value} (h : elems ob cs a = some xs) (hR : R S σ a v) : R (SH w) π (.rsl cs xs) v := by
  obtain ⟨A, c, rfl, hc, hcell⟩ := elems_ok oi h hR
  exact .rsl cs xs A c hc fun j u hu => by
    obtain ⟨ad, h1, h2⟩ := hcell j u hu
    exact ⟨ad, h1, cellS_of h2⟩
theorem ro_R {π : Sg} (oi : OI S σ ob w) : ∀ (d : Nat) (a b : AV) (v : Value), roOf d ob a = some b → R S σ a v → R (SH w) π b v
  | 0, a, b, v, h, _ => by simp [roOf] at h
  | d + 1, a, b, v, h, hR => by
    simp only [roOf] at h
    split at h
    · rename_i o
      split at h
      · rename_i cs xs ho
        simp at h; subst h
        exact ro_slice oi (by simp [elems, ho, castE]) hR
      · cases h
    · rename_i o lo n
      split at h
      · rename_i cs xs ho
        simp at h; subst h
        exact ro_slice oi (by simp [elems, ho, castE]) hR
      · cases h
    · rename_i cs
      simp at h; subst h
      exact ro_slice oi (by simp [elems]) hR
    · rename_i o j cs n
      split at h
      · rename_i us ho
        split at h
        · rename_i xs hxs
          simp at h; subst h
          exact ro_slice oi (by simp [elems, ho, hxs, castE]) hR
        · cases h
      · cases h
    · rename_i o i j
      split at h
      · rename_i cs xs ho
        obtain rfl := Option.some.inj h
        obtain ⟨ad, vs, rfl, hl, hRL, hc⟩ := readAt_ok oi (n := ((vals cs (xs.getD i (edflt cs))).drop j).length) (us := ((vals cs (xs.getD i (edflt cs))).drop j).map .val) (by
          simp only [readAt, ho]
          have := takeX_self (((vals cs (xs.getD i (edflt cs))).drop j).map AV.val)
          rwa [List.length_map] at this) hR
        have hvs : vs = (vals cs (xs.getD i (edflt cs))).drop j := by
          apply flatAVs_RL (us := ((vals cs (xs.getD i (edflt cs))).drop j).map .val) (S := S) (σ := σ) _ hRL
          generalize (vals cs (xs.getD i (edflt cs))).drop j = zs
          induction zs with
          | nil => rfl
          | cons z zs ih => simp [flatAVs, flatAV, ih]
        rw [← hvs]
        exact .rel vs ad fun q u hu => cellS_of (hc q u hu)
      · cases h
    · rename_i o j
      split at h
      · rename_i us ho
        split at h
        · rename_i vs hvs
          simp at h; subst h
          obtain ⟨ad, zs, rfl, hl, hRL, hc⟩ := readAt_ok oi (n := (us.drop j).length) (us := us.drop j) (by simp only [readAt, ho]; exact takeX_self _) hR
          have := mapX_RL (π := π) (S' := SH w) (fun a b v => ro_R oi d a b v) hvs hRL
          exact .rpt vs zs ad this.1 this.2 fun q u hu => cellS_of (hc q u hu)
        · cases h
      · cases h
    · rename_i us
      split at h
      · rename_i vs hvs
        simp at h; subst h
        cases hR with
        | agg _ zs hl hh =>
          have := mapX_RL (π := π) (S' := SH w) (fun a b v => ro_R oi d a b v) hvs ⟨hl, hh⟩
          exact .agg vs zs this.1 this.2
      · cases h
    · rename_i f us
      split at h
      · rename_i vs hvs
        simp at h; subst h
        cases hR with
        | fn _ _ zs hl hh =>
          have := mapX_RL (π := π) (S' := SH w) (fun a b v => ro_R oi d a b v) hvs ⟨hl, hh⟩
          exact .fn f vs zs this.1 this.2
      · cases h
    · cases h
    · rename_i us
      split at h
      · rename_i vs hvs
        simp at h; subst h
        cases hR with
        | rpt _ zs ad hl hh hv =>
          have := mapX_RL (π := π) (S' := SH w) (fun a b v => ro_R oi d a b v) hvs ⟨hl, hh⟩
          exact .rpt vs zs ad this.1 this.2 fun q u hu => cellS_mono (fun b x h => oi.st b x (S.sub b x h)) (hv q u hu)
      · cases h
    · simp at h; subst h
      cases hR with
      | val v => exact .val v
      | junk v => exact .junk v
      | ifc t v => exact .ifc t v
      | rsl cs xs A c hc hh => exact .rsl cs xs A c hc fun j u hu => let ⟨a, e, h⟩ := hh j u hu; ⟨a, e, cellS_mono (fun b x h => oi.st b x (S.sub b x h)) h⟩
      | rel us ad hh => exact .rel us ad fun j u hu => cellS_mono (fun b x h => oi.st b x (S.sub b x h)) (hh j u hu)
      | bsl o j cs n k c hk hr hc => exact (‹∀ (o' j' : Nat) (cs' : List CK) (n' : Nat), AV.bsl o j cs n = AV.bsl o' j' cs' n' → False› _ _ _ _ rfl).elim
      | _ => simp_all
end Go.Proofs.Ytkjnijddbiconaa.Ev
