/- Cuts, parts, conversions, literals, make: the evaluator says what the model does. -/
import Derived.Test.YtkjnijddbiconaaEv8
namespace Go.Proofs.Ytkjnijddbiconaa.Ev
open Go
set_option linter.unusedVariables false
set_option linter.unusedSimpArgs false
variable {P : Program} {E : Env} {S : Sb} {σ : Sg} {l : List AV} {a : Act} {ob : Ob} {w : World}

theorem cut_ok (tt : TTOK P E.tt) (oi : OI S σ ob w) {t e : Nat} {te : TI} (hu : P.underlying t = some (.slice e)) (row : RowOK P e te) {av r : AV} {n : Nat} (hn : lenAV ob av = some n) {lv hv mv : Int}
    (h : cutA ob te.size av lv hv n mv = some (true, r)) {v : Value} (hR : R S σ av v) {lo hi mx : Option Value}
    (hlo : (lo = none ∧ lv = 0) ∨ ∃ k, lo = some (.int k lv)) (hhi : (hi = none ∧ hv = n) ∨ ∃ k, hi = some (.int k hv)) (hmx : (mx = none ∧ mv = n) ∨ ∃ k, mx = some (.int k mv)) (hmh : mx ≠ none → hi ≠ none) :
    ∃ u, (Instr.sliceAt t v lo hi mx).run P w = .ok u w ∧ R S σ r u := by
  -- what the model cuts
  have run : ∀ (A : Option Addr) (c : Nat), v = .slice A n c → n ≤ c → 0 ≤ lv → lv ≤ hv → hv ≤ mv → mv ≤ (n : Int) →
      ∃ m : Nat, hv.toNat ≤ m ∧ m ≤ c ∧ (Instr.sliceAt t v lo hi mx).run P w = .ok (.slice (if m = lv.toNat then A else A.map (·.add (lv.toNat * te.size))) (hv.toNat - lv.toNat) (m - lv.toNat)) w := by
    intro A c hv' hc h0 h1 h2 h3
    subst hv'
    rcases hmx with ⟨rfl, hm⟩ | ⟨km, rfl⟩
    · have hb := run_bounds (P := P) (w := w) true n c lo hi none lv hv c hlo (by rcases hhi with ⟨x, y⟩ | ⟨k, x⟩; exact .inl ⟨x, y, rfl⟩; exact .inr ⟨k, x⟩) (.inl ⟨rfl, rfl⟩) h0 h1 (by omega) (by omega)
      refine ⟨c, by omega, Nat.le_refl _, ?_⟩
      simp [Instr.sliceAt, run_underlying hu, Instr.slice, hb, row.sizeOf w]
    · have hb := run_bounds (P := P) (w := w) true n c lo hi (some (.int km mv)) lv hv mv hlo (by rcases hhi with ⟨x, y⟩ | ⟨k, x⟩; exact absurd x (hmh (by simp)); exact .inr ⟨k, x⟩) (.inr ⟨km, rfl⟩) h0 h1 h2 (by omega)
      refine ⟨mv.toNat, by omega, by omega, ?_⟩
      simp [Instr.sliceAt, run_underlying hu, Instr.slice, hb, row.sizeOf w]
  unfold cutA at h
  split at h
  · simp at h
    obtain ⟨⟨h0, h1, h2, h3⟩, rfl⟩ := h
    simp [lenAV] at hn
    subst hn
    cases hR
    obtain ⟨m, g1, g2, hr⟩ := run none 0 rfl (Nat.le_refl _) h0 h1 h2 h3
    have e1 : lv.toNat = 0 := by omega
    have e2 : hv.toNat = 0 := by omega
    have e3 : m = 0 := by omega
    rw [e1, e2, e3] at hr
    exact ⟨_, hr, by simpa using R.nsl _⟩
  · rename_i cs xs
    split at h
    · rename_i hc
      simp at h
      obtain ⟨⟨h0, h1, h2, h3⟩, rfl⟩ := h
      simp [lenAV] at hn
      subst hn
      cases hR with
      | rsl _ _ A c hcap hcell =>
        obtain ⟨m, g1, g2, hr⟩ := run A c rfl hcap h0 h1 h2 h3
        refine ⟨_, hr, ?_⟩
        have hlen : ((xs.take hv.toNat).drop lv.toNat).length = hv.toNat - lv.toNat := by simp; omega
        rw [← hlen]
        refine .rsl _ _ _ _ (by rw [hlen]; omega) fun j u hj => ?_
        have hjl := (List.getElem?_eq_some_iff.1 hj).1
        rw [flat_length, hlen] at hjl
        rw [flat_drop, flat_take, List.getElem?_drop, List.getElem?_take] at hj
        split at hj
        · rename_i hlt
          obtain ⟨ad, rfl, hcl⟩ := hcell _ _ hj
          have hne : m ≠ lv.toNat := by
            intro e
            have : hv.toNat - lv.toNat = 0 := by omega
            rw [this] at hjl
            simp at hjl
          refine ⟨ad.add (lv.toNat * te.size), by simp [hne], ?_⟩
          rw [Addr.add_add, ← hc]
          exact hcl
        · cases hj
    · cases h
  · rename_i o
    split at h
    · rename_i hc
      obtain ⟨cs, xs, ho, hcs⟩ := kindO_eq hc.1 hc.2
      simp at h
      obtain ⟨⟨h0, h1, h2, h3⟩, rfl⟩ := h
      simp [lenAV, ho] at hn
      subst hn
      obtain ⟨k', hk', hx, hvt, hreal⟩ := oi.ok o _ ho
      cases hR with
      | ows _ k2 cap hk hr q1 q2 =>
        rw [hk] at hk'
        obtain rfl := Option.some.inj hk'
        obtain ⟨hm, _⟩ := hreal hr
        obtain ⟨m, g1, g2, hrun⟩ := run _ cap (by rw [hx]) (by omega) h0 h1 h2 h3
        have hsub : (hv - lv).toNat = hv.toNat - lv.toNat := by omega
        refine ⟨_, hrun, ?_⟩
        rw [hsub]
        by_cases e : m = lv.toNat
        · have e1 : hv.toNat - lv.toNat = 0 := by omega
          have e2 : m - lv.toNat = 0 := by omega
          rw [e1, e2]
          exact .osl0 _ _ k2 _ hk (by omega)
        · rw [if_neg e]
          simp only [Option.map_some, Addr.add_mid, Nat.zero_add]
          rw [← hcs, hm]
          refine .osl _ _ _ k2 _ hk hr (by omega) (by omega) ?_
          have : lv.toNat + (m - lv.toNat) = m := by omega
          rw [this]
          exact Nat.le_trans (Nat.mul_le_mul_right _ g2) q2
      | ows0 _ k2 x hk hr hn0 =>
        rw [hk] at hk'
        obtain rfl := Option.some.inj hk'
        have hx0 := hvt hr
        subst hx0
        obtain ⟨m, g1, g2, hrun⟩ := run x 0 rfl (Nat.le_refl _) h0 h1 h2 h3
        have e1 : lv.toNat = 0 := by simp at h3; omega
        have e2 : hv.toNat = 0 := by simp at h3; omega
        have e3 : m = 0 := by omega
        have e4 : (hv - lv).toNat = 0 := by simp at h3; omega
        rw [e1, e2, e3] at hrun
        rw [e1, e4]
        exact ⟨_, hrun, by simpa using R.osl0 o 0 k2 x hk (by omega)⟩
    · cases h
  · rename_i o lo0 n0
    split at h
    · rename_i hc
      obtain ⟨cs, xs, ho, hcs⟩ := kindO_eq hc.1 hc.2
      simp at h
      obtain ⟨⟨h0, h1, h2, h3⟩, rfl⟩ := h
      simp [lenAV] at hn
      subst hn
      obtain ⟨k', hk', hx, hvt, hreal⟩ := oi.ok o _ ho
      have hsub : (hv - lv).toNat = hv.toNat - lv.toNat := by omega
      cases hR with
      | osl _ _ _ k2 cap hk hr q0 q1 q2 =>
        rw [hk] at hk'
        obtain rfl := Option.some.inj hk'
        obtain ⟨hm, _⟩ := hreal hr
        obtain ⟨m, g1, g2, hrun⟩ := run _ cap rfl (by omega) h0 h1 h2 h3
        refine ⟨_, hrun, ?_⟩
        rw [hsub]
        by_cases e : m = lv.toNat
        · have e1 : hv.toNat - lv.toNat = 0 := by omega
          have e2 : m - lv.toNat = 0 := by omega
          rw [e1, e2]
          exact .osl0 _ _ k2 _ hk (by omega)
        · rw [if_neg e]
          simp only [Option.map_some, Addr.add_mid]
          rw [← hcs, hm, ← Nat.add_mul]
          refine .osl _ _ _ k2 _ hk hr (by omega) (by omega) ?_
          have : lo0 + lv.toNat + (m - lv.toNat) = lo0 + m := by omega
          rw [this]
          exact Nat.le_trans (Nat.mul_le_mul_right _ (by omega)) q2
      | osl0 _ _ k2 x hk q0 =>
        obtain ⟨m, g1, g2, hrun⟩ := run x 0 rfl (Nat.le_refl _) h0 h1 h2 h3
        have e1 : lv.toNat = 0 := by simp at h3; omega
        have e2 : hv.toNat = 0 := by simp at h3; omega
        have e3 : m = 0 := by omega
        rw [e1, e2, e3] at hrun
        rw [hsub, e1, e2]
        exact ⟨_, hrun, by simpa using R.osl0 o lo0 k2 x hk q0⟩
    · cases h
  · cases h
theorem optMap {x : Option Operand} {f : Operand → Value} {d n : Int} (h : (x = none ∧ n = d) ∨ ∃ y k, x = some y ∧ f y = .int k n) : (x.map f = none ∧ n = d) ∨ ∃ k, x.map f = some (.int k n) := by
  rcases h with ⟨rfl, rfl⟩ | ⟨y, k, rfl, h⟩
  · exact .inl ⟨rfl, rfl⟩
  · exact .inr ⟨k, by simp [h]⟩
theorem slice_ok (tt : TTOK P E.tt) (hs : Slots S σ l a) (oi : OI S σ ob w) {t : Nat} {av r : AV} {lo hi mx : Option Operand} (h : sliceA E (getT l) ob t av lo hi mx = some (true, r)) {v : Value} (hR : R S σ av v) :
    ∃ u, (Instr.sliceAt t v (lo.map a.eval) (hi.map a.eval) (mx.map a.eval)).run P w = .ok u w ∧ R S σ r u := by
  unfold sliceA at h
  split at h
  · rename_i n e _ _ _ _ hl
    have hu := (tt.row hl).array rfl
    split at h
    · rename_i ti hte
      have row := tt.row hte
      split at h
      · rename_i hck
        obtain ⟨hck, hpos⟩ := hck
        have hb := run_bounds (P := P) (w := w) false n n none none none 0 n n (.inl ⟨rfl, rfl⟩) (.inl ⟨rfl, rfl, rfl⟩) (.inl ⟨rfl, rfl⟩) (by omega) (by omega) (by omega) (by omega)
        have run : ∀ ad, (Instr.sliceAt t (.pointer (some ad)) none none none).run P w = .ok (.slice (some ad) n n) w := by
          intro ad
          simp [Instr.sliceAt, run_underlying hu, Instr.sureAddr, hb, row.sizeOf w]
          by_cases hn : n = 0
          · subst hn; simp
          · simp [hn, Addr.add]
        split at h
        · simp at h; subst h
          cases hR with
          | ptr o j k hk hr => exact ⟨_, run _, .bsl _ _ _ _ k n hk hr (Nat.le_refl _)⟩
        · rename_i us
          split at h
          · rename_i xs hxs
            simp at h; subst h
            cases hR with
            | rpt _ vs ad hll hRR hc =>
              obtain ⟨h1, h2⟩ := elemsX_ok _ _ _ _ _ hxs (⟨hll, hRR⟩ : RL S σ us vs)
              refine ⟨_, run ad, ?_⟩
              have := R.rsl (S := S) (σ := σ) ti.cks xs (some ad) n (by omega) fun j u hu => ⟨ad, rfl, by
                rw [h2, List.getElem?_take] at hu
                split at hu
                · exact hc _ _ hu
                · cases hu⟩
              rwa [h1] at this
          · cases h
        · rename_i us
          split at h
          · rename_i xs hxs
            simp at h; subst h
            cases hR with
            | rel _ ad hc =>
              obtain ⟨h1, h2⟩ := elemsX_ok _ _ _ _ _ hxs (RL.vals us : RL S σ _ _)
              refine ⟨_, run ad, ?_⟩
              have := R.rsl (S := S) (σ := σ) ti.cks xs (some ad) n (by omega) fun j u hu => ⟨ad, rfl, by
                rw [h2, List.getElem?_take] at hu
                split at hu
                · exact hc _ _ hu
                · cases hu⟩
              rwa [h1] at this
          · cases h
        · cases h
      · cases h
    · cases h
  · rename_i hl
    have hu := (tt.row hl).str rfl
    split at h
    · rename_i s
      split at h
      · rename_i lv hv hlo hhi
        simp [cutS] at h
        obtain ⟨⟨h0, h1, h2⟩, rfl⟩ := h
        cases hR
        have hb := run_bounds (P := P) (w := w) false s.size s.size (lo.map a.eval) (hi.map a.eval) none lv hv s.size (optMap (bound_ok hs hlo)) (by
          rcases optMap (f := a.eval) (bound_ok hs hhi) with ⟨x, y⟩ | ⟨k, x⟩
          · exact .inl ⟨x, y, rfl⟩
          · exact .inr ⟨k, x⟩) (.inl ⟨rfl, rfl⟩) h0 h1 h2 (by omega)
        exact ⟨_, by simp [Instr.sliceAt, run_underlying hu, Instr.slice, hb], .val _⟩
      · cases h
    · cases h
  · rename_i e _ _ _ _ hl
    have hu := (tt.row hl).slice rfl
    split at h
    · rename_i ti n hte hn
      split at h
      · cases h
      · rename_i hmh
        split at h
        · rename_i lv hv mv hlo hhi hmx
          exact cut_ok tt oi hu (tt.row hte) hn h hR (optMap (bound_ok hs hlo)) (optMap (bound_ok hs hhi)) (optMap (bound_ok hs hmx)) (by
            intro h1 h2
            cases mx <;> cases hi <;> simp_all)
        · cases h
    · cases h
  · cases h

/-! ### Parts -/
theorem part_ok {ti : TI} {t : Nat} (row : RowOK P t ti) {off : Nat} {us : List AV} {r : AV} (h : partA ti off us = some r) {vs : List Value} (hl : RL S σ us vs) :
    ∃ u, (part t vs.toArray off).run P w = .ok u w ∧ R S σ r u := by
  unfold partA at h
  split at h
  · rename_i q hq
    obtain ⟨rfl, hn⟩ := takeX_eq _ _ _ hq
    have hlen := hl.1
    have hvl : off + ti.size ≤ vs.length ∨ ti.size = 0 := by simp at hn; omega
    rcases ofCells_R h ((hl.drop off).take ti.size) with ⟨ha, hr⟩ | ⟨ha, u, hu, hr⟩
    · refine ⟨_, ?_, hr⟩
      simp [part, row.isAgg w, ha, row.sizeOf w]
    · refine ⟨u, ?_, hr⟩
      have : vs[off]? = some u := by
        have := congrArg (fun l => l[0]?) hu
        simp only [List.getElem?_take, List.getElem?_drop, Nat.add_zero, List.getElem?_cons_zero] at this
        split at this
        · exact this
        · cases this
      simp [part, row.isAgg w, ha, this]
  · cases h
theorem index_ok (tt : TTOK P E.tt) {t : Nat} {av r : AV} {i : Int} (h : indexA E t av i = some (true, r)) {v : Value} (hv : R S σ av v) (k : IntKind) :
    ∃ u, (Instr.index t v (.int k i)).run P w = .ok u w ∧ R S σ r u := by
  unfold indexA at h
  split at h
  · rename_i s
    split at h
    · rename_i hl
      have hu := (tt.row hl).str rfl
      simp at h
      obtain ⟨⟨h0, h1⟩, rfl⟩ := h
      cases hv
      have hi : i.toNat < s.size := by omega
      refine ⟨_, ?_, .val _⟩
      have hb : s[i.toNat]? = some (s[i.toNat]'hi) := by simp [hi]
      simp [Instr.index, asIntOf, run_underlying hu, h0, hb, byteAt, hi]
    · cases h
  · rename_i us
    split at h
    · rename_i n e _ _ _ _ hl
      have hu := (tt.row hl).array rfl
      split at h
      · rename_i ti hte
        have row := tt.row hte
        unfold condV at h
        split at h
        · rename_i r' hr'
          simp at h
          obtain ⟨⟨h0, h1⟩, rfl⟩ := h
          cases hv with
          | agg _ vs hll hR =>
            obtain ⟨u, hrun, hu'⟩ := part_ok (P := P) (w := w) row hr' ⟨hll, hR⟩
            exact ⟨u, by simp [Instr.index, asIntOf, run_underlying hu, h0, h1, row.sizeOf w, hrun], hu'⟩
        · cases h
      · cases h
    · cases h
  · cases h
end Go.Proofs.Ytkjnijddbiconaa.Ev
