/- A region whose order is drawn: every order comes to the same. -/
import Derived.Test.YtkjnijddbiconaaEv16
namespace Go.Proofs.Ytkjnijddbiconaa.Ev
open Go
set_option linter.unusedVariables false
set_option linter.unusedSimpArgs false
variable {P : Program} {E : Env} {S : Sb} {σ : Sg} {a : Act} {w : World}

theorem ready_mem {ops : Array Oper} {listed : Array Bool} {i : Nat} : i ∈ Region.ready .any ops listed ↔ i < ops.size ∧ listed.getD i true = false ∧ ∃ o, ops[i]? = some o ∧ ∀ e ∈ o.after.toList, bindsAny e = true → listed.getD e.on false = true := by
  unfold Region.ready bindsAny
  simp only [List.mem_filter, List.mem_range, Bool.and_eq_true, Bool.not_eq_true', Array.all_eq_true]
  constructor
  · rintro ⟨h1, h2, h3⟩
    refine ⟨h1, h2, ?_⟩
    cases ho : ops[i]? with
    | none => simp [ho] at h3
    | some o =>
      refine ⟨o, rfl, fun e he hb => ?_⟩
      simp only [ho, Option.map_some, Option.getD_some, Array.all_eq_true'] at h3
      have := h3 e (by simpa using he)
      simpa [hb] using this
  · rintro ⟨h1, h2, o, ho, h3⟩
    refine ⟨h1, h2, ?_⟩
    simp only [ho, Option.map_some, Option.getD_some, Array.all_eq_true']
    intro e he
    cases hb : Region.binds .any e with
    | false => rfl
    | true => simpa using h3 e (by simpa using he) hb
def left (listed : Array Bool) : Nat := listed.toList.countP (fun b => !b)
theorem left_set {listed : Array Bool} {i : Nat} (hi : i < listed.size) (h : listed.getD i true = false) : left (listed.setIfInBounds i true) + 1 = left listed := by
  unfold left
  have hl : i < listed.toList.length := by simpa using hi
  have he : listed.toList[i] = false := by
    simp [Array.getD, hi] at h
    simpa using h
  simp only [Array.toList_setIfInBounds]
  rw [List.countP_set hl]
  have hpos : 0 < listed.toList.countP (fun b => !b) := List.countP_pos_iff.2 ⟨false, by rw [← he]; exact List.getElem_mem hl, rfl⟩
  simp only [he, Bool.not_false, Bool.not_true, if_true, Bool.false_eq_true, if_false, Nat.add_zero]
  omega
theorem left_zero {listed : Array Bool} (h : left listed = 0) (i : Nat) (hi : i < listed.size) : listed.getD i false = true := by
  unfold left at h
  rw [List.countP_eq_zero] at h
  have := h (listed.toList[i]'(by simpa using hi)) (List.getElem_mem _)
  simp [Array.getD, hi]
  simpa using this
theorem first_left {ops : Array Oper} {listed : Array Bool} (hsz : listed.size = ops.size) (hb : backOk 0 ops.toList = true) : ∀ (n i : Nat), i < n → i < ops.size → listed.getD i false = false → ∃ m, m ∈ Region.ready .any ops listed := by
  intro n
  induction n with
  | zero => intro i h; omega
  | succ n ih =>
    intro i hin hi hl
    by_cases hall : ∀ j, j < i → listed.getD j false = true
    · refine ⟨i, ready_mem.2 ⟨hi, ?_, ops[i], by simp [hi], fun e he hbe => ?_⟩⟩
      · simp [Array.getD, show i < listed.size by omega] at hl ⊢
        exact hl
      · have := back_at ops.toList 0 hb i ops[i] (by simp [hi]) e he hbe
        exact hall _ (by omega)
    · have : ∃ j, j < i ∧ listed.getD j false = false := by
        refine Classical.byContradiction fun h => hall fun j hj => ?_
        cases hx : listed.getD j false with
        | true => rfl
        | false => exact (h ⟨j, hj, hx⟩).elim
      obtain ⟨j, hj, hjl⟩ := this
      exact ih j (by omega) (by omega) hjl
theorem getD_put {listed : Array Bool} {i : Nat} (hi : i < listed.size) (j : Nat) : (listed.setIfInBounds i true).getD j false = (listed.getD j false || j == i) := by
  rw [Array.getD_eq_getD_getElem?, Array.getD_eq_getD_getElem?, Array.getElem?_setIfInBounds]
  by_cases e : i = j
  · subst e; simp [hi]
  · have : (j == i) = false := by simp; exact fun h => e h.symm
    simp [e, this]
/-- Every order. -/
theorem any_ok (tt : TTOK P E.tt) (he : EqsOK P E) {σ0 : Sg} {nx : Nat} {w0 : World} {ops : Array Oper} {Q : Exit → Act → World → Prop} {s0 s1 : Ms} {rs : List Rec} (hpairs : pairsOk ops.toList (prepFrom 0 [] ops.toList) = true)
    (hback : backOk 0 ops.toList = true) (t : Tr P E nx ops.toList (prepFrom 0 [] ops.toList) s0 rs s1) (hlog : LogOK [] rs) (hq : ∀ (X : Nat → Prop) σ' a' w', (∀ i, X i → i < ops.size) → RI S σ0 nx w0 X s1 σ' a' w' → Q .normal a' w') :
    ∀ (fuel : Nat) (listed : Array Bool) (σ : Sg) (a : Act) (w : World), listed.size = ops.size → left listed ≤ fuel → (∀ q ∈ rs, listed.getD q.p.i false = true → ∀ j, q.p.anc.testBit j = true → listed.getD j false = true) →
      RI S σ0 nx w0 (fun i => listed.getD i false = true) (mrg (fun i => listed.getD i false) rs s0) σ a w → wpAny P .any ops Q fuel listed a w := by
  have hpops := t.pops
  obtain ⟨hend, hat⟩ := t.at
  have rec_at : ∀ i, i < ops.size → ∃ r pre post, rs = pre ++ r :: post ∧ pre.length = i ∧ r.p.i = i ∧ ops[i]? = some r.p.o ∧ (prepFrom 0 [] ops.toList)[i]? = some r.p := by
    intro i hi
    have hlen : rs.length = ops.size := by
      have := congrArg List.length hpops
      simpa [prep_length] using this
    have hir : i < rs.length := by omega
    refine ⟨rs[i], rs.take i, rs.drop (i + 1), ?_, by simp; omega, ?_⟩
    · rw [← List.drop_eq_getElem_cons hir, List.take_append_drop]
    · have hp : (prepFrom 0 [] ops.toList)[i]? = some rs[i].p := by rw [← hpops]; simp [hir]
      obtain ⟨h1, h2⟩ := prep_at _ _ _ _ _ hp
      exact ⟨by omega, by simpa using h2, hp⟩
  have hfree : rs.Pairwise (Free ops.toList) := by
    have h1 := pairs_free rs (by rw [hpops]; exact hpairs)
    have h2 := log_pairs rs [] hlog
    exact (h1.and h2).imp fun h => ⟨h.1, h.2⟩
  have hlen : rs.length = ops.size := by
    have := congrArg List.length hpops
    simpa [prep_length] using this
  have hidx : ∀ (k : Nat) (q : Rec), rs[k]? = some q → q.p.i = k := by
    intro k q hk
    have hp : (prepFrom 0 [] ops.toList)[k]? = some q.p := by rw [← hpops]; simp [hk]
    have := (prep_at _ _ _ _ _ hp).1
    omega
  have hix : rs.Pairwise fun q r => q.p.i < r.p.i := by
    rw [List.pairwise_iff_getElem]
    intro i j hi hj hij
    rw [hidx i rs[i] (by simp [hi]), hidx j rs[j] (by simp [hj])]
    exact hij
  have done : ∀ (listed : Array Bool) (σ : Sg) (a : Act) (w : World), listed.size = ops.size → (∀ i, i < ops.size → listed.getD i false = true) → RI S σ0 nx w0 (fun i => listed.getD i false = true) (mrg (fun i => listed.getD i false) rs s0) σ a w → Q .normal a w := by
    intro listed σ a w hsz hall hi
    have : mrg (fun i => listed.getD i false) rs s0 = s1 := by
      rw [hend]
      refine mrg_congr _ _ rs s0 fun q hqm => ?_
      obtain ⟨k, hk, rfl⟩ := List.getElem_of_mem hqm
      rw [hidx k rs[k] (by simp [hk])]
      exact hall k (by omega)
    rw [this] at hi
    refine hq _ _ _ _ (fun i hx => ?_) hi
    refine Nat.lt_of_not_le fun h => ?_
    simp [Array.getD, show ¬ i < listed.size by omega] at hx
  intro fuel
  induction fuel with
  | zero =>
    intro listed σ a w hsz hl _ hi
    have hall : ∀ i, i < ops.size → listed.getD i false = true := fun i hio => left_zero (by omega) i (by omega)
    refine ⟨?_, done listed σ a w hsz hall hi⟩
    apply List.eq_nil_iff_forall_not_mem.2
    intro i hm
    obtain ⟨h1, h2, _⟩ := ready_mem.1 hm
    have := hall i h1
    simp [Array.getD, show i < listed.size by omega] at this h2
    rw [this] at h2; cases h2
  | succ fuel ih =>
    intro listed σ a w hsz hl hcl hi
    refine ⟨fun hnil => ?_, fun i hm => ?_⟩
    · refine done listed σ a w hsz (fun i hio => ?_) hi
      cases hx : listed.getD i false with
      | true => rfl
      | false =>
        obtain ⟨m, hm⟩ := first_left hsz hback (i + 1) i (by omega) hio hx
        rw [hnil] at hm
        cases hm
    · obtain ⟨h1, h2, o, ho, h3⟩ := ready_mem.1 hm
      obtain ⟨r, pre, post, hrs, hplen, hri, hro, hprep⟩ := rec_at i h1
      have hX : listed.getD i false = false := by
        simp [Array.getD, show i < listed.size by omega] at h2 ⊢
        exact h2
      have hoo : o = r.p.o := by rw [ho] at hro; exact Option.some.inj hro
      have hmem : ∀ k, k < ops.size → ∃ q ∈ rs, q.p.i = k ∧ (prepFrom 0 [] ops.toList)[k]? = some q.p := by
        intro k hk
        obtain ⟨q, pre', post', e, _, e2, _, e3⟩ := rec_at k hk
        exact ⟨q, by rw [e]; simp, e2, e3⟩
      have hanc : ∀ j, r.p.anc.testBit j = true → listed.getD j false = true := by
        intro j hj
        obtain ⟨ms', m1, m2, _, m4⟩ := prep_anc ops.toList 0 [] i r.p rfl hprep
        rw [m2] at hj
        obtain ⟨e, e1, e2, e3⟩ := anc_bit _ _ _ hj
        have hlt := back_at ops.toList 0 hback i o (by simpa using ho) e (by rw [hoo]; exact e1) e2
        have hon := h3 e (by rw [hoo]; exact e1) e2
        rcases e3 with rfl | e3
        · exact hon
        · obtain ⟨p', g1, g2⟩ := m4 e.on (by omega)
          obtain ⟨q, q1, q2, q3⟩ := hmem e.on (by omega)
          rw [g1] at q3
          have : p' = q.p := Option.some.inj q3
          subst this
          have hms : ms'.getD e.on 0 = q.p.anc := by
            rw [List.getD_eq_getElem?_getD]
            have : 0 + e.on = e.on := by omega
            rw [this] at g2
            simp [g2]
          rw [hms] at e3
          exact hcl q q1 (by rw [q2]; exact hon) j e3
      obtain ⟨hstep, heff⟩ := order_step (P := P) (E := E) (nx := nx) (s0 := s0) hrs hfree hix (X := fun i => listed.getD i false) (by simp only [hri]; exact hX) hanc hcl (hat pre r post hrs)
      have hw := op_ok (P := P) (E := E) tt he (ops := ops) (r := r) (X := fun i => listed.getD i false = true) hi (by rw [hri]; exact hro) (by rw [hri, hX]; simp) hstep (K := wpAny P .any ops Q fuel (listed.setIfInBounds i true)) (Q := Q)
      rw [hri] at hw
      refine hw fun σ' a' w' hi' => ?_
      have hput := getD_put (listed := listed) (i := i) (by omega)
      refine ih (listed.setIfInBounds i true) σ' a' w' (by simp [hsz]) ?_ ?_ ?_
      · have := left_set (listed := listed) (i := i) (by omega) h2
        omega
      · intro q hqm hq1 j hj
        rw [hput] at hq1 ⊢
        simp only [Bool.or_eq_true, beq_iff_eq] at hq1 ⊢
        rcases hq1 with hq1 | hq1
        · exact .inl (hcl q hqm hq1 j hj)
        · obtain ⟨k, hk, rfl⟩ := List.getElem_of_mem hqm
          have hk1 := hidx k rs[k] (by simp [hk])
          have hki : k = i := by omega
          subst hki
          have : (prepFrom 0 [] ops.toList)[k]? = some rs[k].p := by rw [← hpops]; simp [hk]
          rw [hprep] at this
          have hpe : r.p = rs[k].p := Option.some.inj this
          exact .inl (hanc j (by rw [hpe]; exact hj))
      · rw [heff] at hi'
        have e1 : (fun j => listed.getD j false || j == r.p.i) = fun j => (listed.setIfInBounds i true).getD j false := by
          funext j; rw [hput, hri]
        rw [e1] at hi'
        refine hi'.weaken fun j hj => ?_
        rw [hput]
        rcases hj with hj | hj
        · simp [hj]
        · simp [hj]
end Go.Proofs.Ytkjnijddbiconaa.Ev
