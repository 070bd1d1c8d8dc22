/- Cuts, indices, parts, conversions, literals, make: the evaluator says what the model does. -/
import Derived.Test.YtkjnijddbiconaaEv7
import Derived.Laws.BytesArg
namespace Go.Proofs.Ytkjnijddbiconaa.Ev
open Go
set_option linter.unusedVariables false
set_option linter.unusedSimpArgs false
variable {P : Program} {E : Env} {S : Sb} {σ : Sg} {l : List AV} {a : Act} {ob : Ob} {w : World}

theorem Addr.add_add (ad : Addr) (n j : Nat) : (ad.add n).add j = ad.add (n + j) := by
  unfold Addr.add
  by_cases h1 : n = 0 <;> by_cases h2 : j = 0 <;> simp [h1, h2, Nat.add_assoc]
theorem addOff_ok {n : Nat} {av r : AV} (h : addOff n av = some r) {v : Value} (hv : R S σ av v) : ∃ ad, v = .pointer (some ad) ∧ R S σ r (.pointer (some (ad.add n))) := by
  unfold addOff at h
  split at h
  · simp at h; subst h
    cases hv with
    | ptr o j k hk hr => exact ⟨_, rfl, by rw [Addr.add_mid]; exact .ptr _ _ k hk hr⟩
  · simp at h; subst h
    cases hv with
    | oel o i j k hk hr hi => exact ⟨_, rfl, by rw [Addr.add_mid, Nat.add_assoc]; exact .oel _ _ _ k hk hr hi⟩
  · simp at h; subst h
    cases hv with
    | rel us ad hc => exact ⟨_, rfl, .rel _ _ fun j u hu => by rw [Addr.add_add]; exact hc _ _ (by simpa [List.getElem?_drop] using hu)⟩
  · simp at h; subst h
    cases hv with
    | rpt us vs ad hl hR hc =>
      exact ⟨_, rfl, .rpt _ (vs.drop n) _ (by simp [hl]) (fun j u v hu hv => hR (n + j) u v (by simpa [List.getElem?_drop] using hu) (by simpa [List.getElem?_drop] using hv))
        fun j u hu => by rw [Addr.add_add]; exact hc _ _ (by simpa [List.getElem?_drop] using hu)⟩
  · cases h
theorem kindO_eq {o : Nat} {n : Nat} (h : (kindO ob o).length = n) (hn : 0 < n) : ∃ cs xs, ob o = some (.row cs xs) ∧ cs.length = n := by
  unfold kindO at h
  split at h
  · rename_i cs xs ho; exact ⟨cs, xs, ho, h⟩
  · simp at h; omega
theorem indexAddr_ok (tt : TTOK P E.tt) (oi : OI S σ ob w) {t : Nat} {av r : AV} {i : Int} (h : indexAddrA E ob t av i = some (true, r)) {v : Value} (hv : R S σ av v) (k : IntKind) :
    ∃ u, (Instr.indexAt t v (.int k i)).run P w = .ok u w ∧ R S σ r u := by
  unfold indexAddrA at h
  split at h
  · rename_i n e _ _ _ _ hl
    have hu := (tt.row hl).array rfl
    split at h
    · rename_i ti hte
      have row := tt.row hte
      unfold condV at h
      split at h
      · rename_i r' hr'
        simp at h
        obtain ⟨⟨h0, h1⟩, rfl⟩ := h
        obtain ⟨ad, rfl, hR⟩ := addOff_ok hr' hv
        refine ⟨_, ?_, hR⟩
        simp [Instr.indexAt, asIntOf, run_underlying hu, Instr.sureAddr, h0, h1, row.sizeOf w]
      · cases h
    · cases h
  · rename_i e _ _ _ _ hl
    have hu := (tt.row hl).slice rfl
    split at h
    · rename_i ti n hte hn
      have row := tt.row hte
      have run : ∀ (ad : Addr) (len c : Nat), 0 ≤ i → i < (len : Int) → (Instr.indexAt t (.slice (some ad) len c) (.int k i)).run P w = .ok (.pointer (some (ad.add (i.toNat * ti.size)))) w := by
        intro ad len c h0 h1
        simp [Instr.indexAt, asIntOf, run_underlying hu, h0, h1, row.sizeOf w]
      split at h
      · rename_i cs xs
        split at h
        · rename_i hc
          obtain ⟨hc, hpos⟩ := hc
          simp at h
          obtain ⟨⟨h0, h1⟩, rfl⟩ := h
          simp [lenAV] at hn
          subst hn
          cases hv with
          | rsl _ _ A c hcap hcell =>
            have hi : i.toNat < xs.length := by omega
            have hg : ∀ j u, (vals cs (xs.getD i.toNat (edflt cs)))[j]? = some u → ∃ ad, A = some ad ∧ cellS S (ad.add (i.toNat * cs.length + j)) = some u := by
              intro j u hj
              have hjl : j < cs.length := by
                have := (List.getElem?_eq_some_iff.1 hj).1
                rwa [vals_length] at this
              rw [← flat_get cs xs i.toNat j hi hjl] at hj
              exact hcell _ _ hj
            have hne : ∃ u, (vals cs (xs.getD i.toNat (edflt cs)))[0]? = some u := by
              have : 0 < (vals cs (xs.getD i.toNat (edflt cs))).length := by rw [vals_length]; omega
              exact ⟨_, List.getElem?_eq_getElem this⟩
            obtain ⟨u0, hu0⟩ := hne
            obtain ⟨ad, rfl, _⟩ := hg 0 u0 hu0
            refine ⟨_, run ad xs.length c h0 h1, .rel _ _ fun j u hj => ?_⟩
            obtain ⟨ad', e', hh⟩ := hg j u hj
            obtain rfl := Option.some.inj e'
            rw [Addr.add_add, ← hc]
            exact hh
        · cases h
      · rename_i o
        split at h
        · rename_i hc
          obtain ⟨cs, xs, ho, hcs⟩ := kindO_eq hc.1 hc.2
          simp at h
          obtain ⟨⟨h0, h1⟩, rfl⟩ := h
          simp [lenAV, ho] at hn
          subst hn
          obtain ⟨k', hk', hx, hvt, hreal⟩ := oi.ok o _ ho
          cases hv with
          | ows _ k2 cap hk hr g1 g2 =>
            rw [hk] at hk'
            obtain rfl := Option.some.inj hk'
            obtain ⟨hm, _⟩ := hreal hr
            refine ⟨_, run _ _ _ h0 (by omega), ?_⟩
            rw [Addr.add_mid, Nat.zero_add, ← hcs, hm]
            exact .oel _ _ 0 k2 hk hr (by omega)
          | ows0 _ k2 x hk hr hn =>
            rw [hk] at hk'
            obtain rfl := Option.some.inj hk'
            rw [hvt hr] at h1
            simp at h1; omega
        · cases h
      · rename_i o lo n'
        split at h
        · rename_i hc
          obtain ⟨cs, xs, ho, hcs⟩ := kindO_eq hc.1 hc.2
          simp at h
          obtain ⟨⟨h0, h1⟩, rfl⟩ := h
          simp [lenAV] at hn
          subst hn
          obtain ⟨k', hk', hx, hvt, hreal⟩ := oi.ok o _ ho
          cases hv with
          | osl _ _ _ k2 cap hk hr g0 g1 g2 =>
            rw [hk] at hk'
            obtain rfl := Option.some.inj hk'
            obtain ⟨hm, _⟩ := hreal hr
            refine ⟨_, run _ _ _ h0 (by omega), ?_⟩
            rw [Addr.add_mid, ← hcs, hm, ← Nat.add_mul]
            exact .oel _ _ 0 k2 hk hr (by omega)
          | osl0 _ _ k2 x hk g0 => simp at h1; omega
        · cases h
      · rename_i o j cs n'
        split at h
        · rename_i hc
          simp at h
          obtain ⟨⟨h0, h1⟩, rfl⟩ := h
          simp [lenAV] at hn
          subst hn
          cases hv with
          | bsl _ _ _ _ k2 c hk hr hcc =>
            refine ⟨_, run _ _ _ h0 (by omega), ?_⟩
            rw [Addr.add_mid]
            exact .ptr _ _ k2 hk hr
        · cases h
      · cases h
    · cases h
  · cases h

/-! ### Cuts -/
theorem bound_ok (hs : Slots S σ l a) {d n : Int} {x : Option Operand} (h : boundA E (getT l) d x = some n) : (x = none ∧ n = d) ∨ ∃ y k, x = some y ∧ a.eval y = .int k n := by
  unfold boundA at h
  split at h
  · simp at h; exact .inl ⟨rfl, h.symm⟩
  · rename_i y
    split at h
    · rename_i av hav
      have hr := opd_R hs 0 y av hav
      unfold intOfAV at h
      split at h
      · simp at h; subst h
        generalize hz : a.eval y = z at hr
        cases hr
        exact .inr ⟨y, _, rfl, hz⟩
      · cases h
    · cases h
theorem run_bounds (isSlice : Bool) (len cap : Nat) (lo hi mx : Option Value) (lv hv mv : Int) (hlo : (lo = none ∧ lv = 0) ∨ ∃ k, lo = some (.int k lv)) (hhi : (hi = none ∧ hv = len ∧ mx = none) ∨ ∃ k, hi = some (.int k hv))
    (hmx : (mx = none ∧ mv = cap) ∨ ∃ k, mx = some (.int k mv)) (h0 : 0 ≤ lv) (h1 : lv ≤ hv) (h2 : hv ≤ mv) (h3 : mv ≤ cap) :
    (Instr.sliceBounds isSlice len cap lo hi mx).run P w = .ok (lv.toNat, hv.toNat, mv.toNat) w := by
  have sb : ∀ (k : IntKind) (x : Int) (y : Nat) (c : BoundsCode), 0 ≤ x → x ≤ (y : Int) → (Instr.sliceBound (.int k x) y c).run P w = .ok x.toNat w := by
    intro k x y c g0 g1
    simp [Instr.sliceBound, asIntOf, g0, g1]
  have m1 : ∀ k c, (Instr.sliceBound (.int k mv) cap c).run P w = .ok mv.toNat w := fun k c => sb k mv cap c (by omega) h3
  have m2 : ∀ k c, (Instr.sliceBound (.int k hv) mv.toNat c).run P w = .ok hv.toNat w := fun k c => sb k hv _ c (by omega) (by omega)
  have m3 : ∀ k c, (Instr.sliceBound (.int k lv) hv.toNat c).run P w = .ok lv.toNat w := fun k c => sb k lv _ c h0 (by omega)
  rcases hlo with ⟨rfl, rfl⟩ | ⟨kl, rfl⟩ <;> rcases hhi with ⟨rfl, rfl, rfl⟩ | ⟨kh, rfl⟩ <;> rcases hmx with ⟨h4, rfl⟩ | ⟨km, h4⟩ <;> (try (cases h4; done)) <;> (try subst h4) <;> (try simp only [Int.toNat_natCast] at m1 m2 m3) <;>
    simp [Instr.sliceBounds, m1, m2, m3]
end Go.Proofs.Ytkjnijddbiconaa.Ev
