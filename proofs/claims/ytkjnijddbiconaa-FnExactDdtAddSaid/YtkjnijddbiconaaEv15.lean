/- A region, in text order and in any order: the evaluator says what the model does. -/
import Derived.Test.YtkjnijddbiconaaEv14
namespace Go.Proofs.Ytkjnijddbiconaa.Ev
open Go
set_option linter.unusedVariables false
set_option linter.unusedSimpArgs false
variable {P : Program} {E : Env} {S : Sb} {σ : Sg} {a : Act} {w : World}

/-- What an operation of a region has come to; nothing if it is skipped. -/
structure Rec where
  p : POp
  D : List Nat
  out : Option (AV × List (Nat × Option AO))
abbrev Ms := List AV × Ob
def Rec.v (r : Rec) : AV := match r.out with
  | some x => x.1
  | none => .val undef
def Rec.u (r : Rec) : List (Nat × Option AO) := match r.out with
  | some x => x.2
  | none => []
def eff (r : Rec) (s : Ms) : Ms := (putT s.1 r.p.o.dst r.v, updF s.2 r.u)
def GuardOK (all : List Oper) (o : Oper) (tm : Tm) (run : Bool) : Prop :=
  match o.guard with
  | none => run = true
  | some (g, want) => ∃ s, dstOf all g = some s ∧ ((∃ b, tm s = .val (.bool b) ∧ run = (b == want)) ∨ (∃ c, tm s = .val (.tuple c) ∧ run = false))
def StepR (P : Program) (E : Env) (nx : Nat) (all : List Oper) (s : Ms) (r : Rec) : Prop :=
  GuardOK all r.p.o (getT s.1) r.out.isSome ∧ (∀ x, r.out = some x → Step1 P E (nx + r.p.i * 1000) r.p.o (getT s.1) (restr r.D s.2) x.1 x.2)
inductive Tr (P : Program) (E : Env) (nx : Nat) (all : List Oper) : List POp → Ms → List Rec → Ms → Prop
  | nil (s : Ms) : Tr P E nx all [] s [] s
  | cons (s : Ms) (r : Rec) (ps : List POp) (rs : List Rec) (s' : Ms) (h : StepR P E nx all s r) (t : Tr P E nx all ps (eff r s) rs s') : Tr P E nx all (r.p :: ps) s (r :: rs) s'
def LogOK : List Foot → List Rec → Prop
  | _, [] => True
  | log, r :: rs => match r.out with
    | some x => okLog r.p.anc r.D (x.2.map (·.1)) log = true ∧ LogOK (⟨r.p.i, r.D, x.2.map (·.1)⟩ :: log) rs
    | none => LogOK log rs

/-! ### From the evaluator -/
def ms (st : St) : Ms := (st.tm, lookN st.ob)
def HG (P : Program) (G : Gk) : Prop := ∀ f args obs k, G f args obs k → ∃ r, Ctr P f args obs r ∧ k r
theorem afterP_eq {draw : Bool} {p : POp} {D : List Nat} {log : List Foot} {st : St} {v : AV} {u : List (Nat × Option AO)} {k : Kl} (h : afterP draw p D log st v u k) :
    ∃ log', k log' ⟨putT st.tm p.o.dst v, updO st.ob u, st.nx, st.ps⟩ ∧ (draw = true → okLog p.anc D (u.map (·.1)) log = true ∧ log' = ⟨p.i, D, u.map (·.1)⟩ :: log) := by
  unfold afterP at h
  split at h
  · split at h
    · rename_i hl; exact ⟨_, h, fun _ => ⟨hl, rfl⟩⟩
    · exact h.elim
  · exact ⟨log, h, fun h => by cases h⟩
theorem br_true {b : Bool} {t e : Prop} (h : br b t e) (he : ¬ e) : b = true ∧ t := by
  unfold br at h
  split at h
  · exact ⟨rfl, h⟩
  · exact (he h).elim
theorem stepP_eq {G : Gk} (hG : HG P G) {nx : Nat} {draw : Bool} {p : POp} {log : List Foot} {st : St} {k : Kl} (h : stepP E G nx draw p log st k) :
    ∃ D v u log', Step1 P E (nx + p.i * 1000) p.o (getT st.tm) (restr D (lookN st.ob)) v u ∧ k log' ⟨putT st.tm p.o.dst v, updO st.ob u, st.nx, st.ps⟩ ∧
      (draw = true → okLog p.anc D (u.map (·.1)) log = true ∧ log' = ⟨p.i, D, u.map (·.1)⟩ :: log) := by
  unfold stepP at h
  simp only at h
  split at h
  · split at h
    · rename_i f az hc
      split at h
      · rename_i q hq
        obtain ⟨r, hctr, h⟩ := hG _ _ _ _ h
        split at h
        · rename_i v u hpost
          obtain ⟨log', h1, h2⟩ := afterP_eq h
          have hqf : q.f = f := by
            unfold preOf at hq
            split at hq
            · simp only at hq
              split at hq
              · simp at hq; subst hq; rfl
              · cases hq
            · split at hq
              · simp at hq; subst hq; rfl
              · cases hq
          exact ⟨_, v, u, log', .inl ⟨f, az, q, r, hc, hq, hctr, hpost⟩, h1, h2⟩
        · exact h.elim
      · exact h.elim
    · exact h.elim
  · split at h
    · rename_i c v u hcomp
      obtain ⟨rfl, h⟩ := br_true h (fun h => h)
      obtain ⟨log', h1, h2⟩ := afterP_eq h
      exact ⟨_, v, u, log', .inr hcomp, h1, h2⟩
    · exact h.elim
theorem caseFrom_eq {i : Int} {k : Nat → Prop} : ∀ (n a : Nat), caseFrom i a n k → ∃ m : Nat, i = (m : Int) ∧ k m
  | 0, a, h => h.elim
  | n + 1, a, h => by
    simp only [caseFrom, br] at h
    split at h
    · rename_i hb; exact ⟨a, by simpa using hb, h⟩
    · exact caseFrom_eq n (a + 1) h
theorem runP_eq {G : Gk} (hG : HG P G) {nx : Nat} {draw : Bool} {p : POp} {log : List Foot} {st : St} {k : Kl} (h : runP E G nx draw p log st k) :
    ∃ D v u log', Step1 P E (nx + p.i * 1000) p.o (getT st.tm) (restr D (lookN st.ob)) v u ∧ k log' ⟨putT st.tm p.o.dst v, updO st.ob u, st.nx, st.ps⟩ ∧
      (draw = true → okLog p.anc D (u.map (·.1)) log = true ∧ log' = ⟨p.i, D, u.map (·.1)⟩ :: log) := by
  unfold runP at h
  split at h
  · rename_i s n _
    split at h
    · rename_i kd i hi
      obtain ⟨m, hm, h2⟩ := caseFrom_eq _ _ h
      have h3 : stepP E G nx draw p log ⟨setT st.tm s (.val (.int kd (m : Int))), st.ob, st.nx, st.ps⟩ k := h2
      rw [← hm, ← hi, setT_getT] at h3
      exact stepP_eq hG h3
    · exact h.elim
  · exact stepP_eq hG h
theorem opsP_tr {G : Gk} (hG : HG P G) {nx : Nat} {draw : Bool} {all : List Oper} : ∀ (ps : List POp) (log : List Foot) (st : St) (k : St → Prop), opsP E G nx draw all ps log st k →
    ∃ rs st', Tr P E nx all ps (ms st) rs (ms st') ∧ k st' ∧ (draw = true → LogOK log rs) ∧ st'.ps = st.ps
  | [], log, st, k, h => ⟨[], st, .nil _, h, fun _ => trivial, rfl⟩
  | p :: ps, log, st, k, h => by
    have run : GuardOK all p.o (getT st.tm) true → runP E G nx draw p log st (fun log st => opsP E G nx draw all ps log st k) →
        ∃ rs st', Tr P E nx all (p :: ps) (ms st) rs (ms st') ∧ k st' ∧ (draw = true → LogOK log rs) ∧ st'.ps = st.ps := by
      intro hg h
      obtain ⟨D, v, u, log', h1, h2, h3⟩ := runP_eq hG h
      obtain ⟨rs, st', t, hk, hl, hps⟩ := opsP_tr hG ps log' _ k h2
      have e : ms ⟨putT st.tm p.o.dst v, updO st.ob u, st.nx, st.ps⟩ = eff ⟨p, D, some (v, u)⟩ (ms st) := by
        simp [ms, eff, Rec.v, Rec.u, lookN_updO]
      rw [e] at t
      refine ⟨⟨p, D, some (v, u)⟩ :: rs, st', .cons _ ⟨p, D, some (v, u)⟩ ps rs _ ⟨hg, fun x hx => ?_⟩ t, hk, fun hd => ?_, hps⟩
      · obtain rfl := Option.some.inj hx
        exact h1
      · obtain ⟨g1, rfl⟩ := h3 hd
        exact ⟨g1, hl hd⟩
    have skip : GuardOK all p.o (getT st.tm) false → skipP p log st (fun log st => opsP E G nx draw all ps log st k) →
        ∃ rs st', Tr P E nx all (p :: ps) (ms st) rs (ms st') ∧ k st' ∧ (draw = true → LogOK log rs) ∧ st'.ps = st.ps := by
      intro hg h
      unfold skipP at h
      obtain ⟨rs, st', t, hk, hl, hps⟩ := opsP_tr hG ps log _ k h
      have e : ms ⟨putT st.tm p.o.dst (.val undef), st.ob, st.nx, st.ps⟩ = eff ⟨p, [], none⟩ (ms st) := by
        simp [ms, eff, Rec.v, Rec.u, updF]
      rw [e] at t
      exact ⟨⟨p, [], none⟩ :: rs, st', .cons _ ⟨p, [], none⟩ ps rs _ ⟨hg, fun x hx => by cases hx⟩ t, hk, hl, hps⟩
    simp only [opsP] at h
    split at h
    · rename_i hg
      exact run (by simp [GuardOK, hg]) h
    · rename_i g want hg
      split at h
      · rename_i s hs
        split at h
        · rename_i b hb
          have hset : ∀ b', b = b' → setT st.tm s (.val (.bool b')) = st.tm := by
            intro b' e; subst e; rw [← hb, setT_getT]
          have good : ∀ r, r = (b == want) → GuardOK all p.o (getT st.tm) r := by
            intro r hr
            simp only [GuardOK, hg]
            exact ⟨s, hs, .inl ⟨b, hb, hr⟩⟩
          unfold br at h
          split at h
          · split at h
            · rw [hset true rfl] at h
              exact run (good _ rfl) h
            · rw [hset true rfl] at h
              exact skip (good _ rfl) h
          · split at h
            · rw [hset false rfl] at h
              exact skip (good _ rfl) h
            · rw [hset false rfl] at h
              exact run (good _ rfl) h
        · rename_i c hc
          refine skip ?_ h
          simp only [GuardOK, hg]
          exact ⟨s, hs, .inr ⟨c, hc, by first | rfl | trivial⟩⟩
        · exact h.elim
      · exact h.elim

/-! ### One operation of the model -/
/-- Where a region stands: the numbers of the operations that are done. -/
structure RI (S : Sb) (σ0 : Sg) (nx : Nat) (w0 : World) (X : Nat → Prop) (s : Ms) (σ : Sg) (a : Act) (w : World) : Prop where
  sl : Slots S σ s.1 a
  oi : OI S σ s.2 w
  df : a.defers = []
  tl : Tail w0 w
  ext : ∀ o k, σ0 o = some k → σ o = some k
  fr : ∀ o, σ o ≠ none → o < nx ∨ ∃ i, X i ∧ nx + i * 1000 ≤ o ∧ o < nx + i * 1000 + 1000
theorem getT_putT (l : List AV) (d : Option Tmp) (x : AV) (s : Nat) : getT (putT l d x) s = if d = some s ∧ s < l.length then x else getT l s := by
  cases d with
  | none => simp [putT]
  | some t =>
    simp only [putT, getT_setT]
    by_cases e : s = t
    · subst e; simp
    · have : ¬ t = s := fun h => e h.symm
      simp [e, this]
theorem putT_len (l : List AV) (d : Option Tmp) (x : AV) : (putT l d x).length = l.length := by
  cases d with
  | none => rfl
  | some t => exact setT_len l t x
theorem Slots.put {l : List AV} (h : Slots S σ l a) {d : Option Tmp} {v : AV} {v' : Value} (hv : R S σ v v') : Slots S σ (putT l d v) (a.put d v') := by
  cases d with
  | none => exact h
  | some t =>
    refine ⟨by simp [Act.put, putT, setT_len, h.len], fun s u hu => ?_⟩
    rw [getT_putT]
    simp only [Act.put, Array.getElem?_setIfInBounds] at hu
    by_cases e : t = s
    · subst e
      rw [if_pos rfl] at hu
      split at hu
      · rename_i hlt
        obtain rfl := Option.some.inj hu
        rw [if_pos ⟨rfl, by rw [← h.len]; exact hlt⟩]
        exact hv
      · cases hu
    · rw [if_neg e] at hu
      rw [if_neg (fun h => e (Option.some.inj h.1))]
      exact h.tm s u hu
theorem Slots.mono {l : List AV} {σ' : Sg} (h : Slots S σ l a) (hσ : ∀ o k, σ o = some k → σ' o = some k) : Slots S σ' l a := ⟨h.len, fun s v hv => (h.tm s v hv).mono hσ fun _ _ h => h⟩
theorem guard_wanted {ops : Array Oper} {o : Oper} {s : Ms} {run : Bool} (hs : Slots S σ s.1 a) (h : GuardOK ops.toList o (getT s.1) run) : Region.wanted o (yielded ops a.tmps) = run := by
  unfold GuardOK at h
  unfold Region.wanted
  split at h
  · rename_i hg; simp [hg, h]
  · rename_i g want hg
    obtain ⟨t, ht, h⟩ := h
    have hd : (ops[g]?).bind (·.dst) = some t := by
      unfold dstOf at ht
      split at ht
      · rename_i o' ho'
        have : ops[g]? = some o' := by simpa using ho'
        simp [this, ht]
      · cases ht
    simp only [hg, yielded, hd, Option.bind_some]
    have hsz : ∀ x, getT s.1 t = .val x → a.tmps[t]? = some x := by
      intro x hx
      cases hv : a.tmps[t]? with
      | none =>
        have : s.1.length ≤ t := by rw [← hs.len]; simpa using hv
        rw [getT_none _ _ this] at hx
        cases hx
      | some y =>
        have := hs.tm t y hv
        rw [hx] at this
        cases this
        rfl
    rcases h with ⟨b, hb, rfl⟩ | ⟨c, hc, rfl⟩
    · simp only [hsz _ hb]
      cases b <;> cases want <;> rfl
    · simp only [hsz _ hc]
      cases want <;> rfl
theorem op_ok (tt : TTOK P E.tt) (he : EqsOK P E) {σ0 : Sg} {nx : Nat} {w0 : World} {X : Nat → Prop} {s : Ms} {ops : Array Oper} {r : Rec} (hi : RI S σ0 nx w0 X s σ a w) (hop : ops[r.p.i]? = some r.p.o) (hX : ¬ X r.p.i)
    (h : StepR P E nx ops.toList s r) {K : Act → World → Prop} {Q : Exit → Act → World → Prop} (hk : ∀ σ' a' w', RI S σ0 nx w0 (fun j => j = r.p.i ∨ X j) (eff r s) σ' a' w' → K a' w') : wpOp P ops Q r.p.i K a w := by
  unfold wpOp
  simp only [hop]
  have hw := guard_wanted hi.sl h.1
  rw [hw]
  have hput : ∀ (v : Value), (a.put r.p.o.dst v).defers = [] := by
    intro v
    cases r.p.o.dst <;> simp [Act.put, hi.df]
  cases ho : r.out with
  | none =>
    simp only [Option.isSome_none, Bool.false_eq_true, if_false]
    refine hk σ _ _ ⟨?_, ?_, hput _, hi.tl, hi.ext, fun o h => (hi.fr o h).imp id fun ⟨i, h1, h2⟩ => ⟨i, .inr h1, h2⟩⟩
    · have := hi.sl.put (d := r.p.o.dst) (v := .val undef) (v' := undef) (.val _)
      simpa [eff, Rec.v, ho] using this
    · simpa [eff, Rec.u, ho, updF] using hi.oi
  | some x =>
    simp only [Option.isSome_some, if_true]
    refine .inl (step1_ok tt he hi.sl hi.oi (fun o h1 h2 => ?_) (h.2 x ho) fun v' w' σ' hd => ?_)
    · cases hσ : σ o with
      | none => rfl
      | some k =>
        rcases hi.fr o (by simp [hσ]) with h | ⟨i, g1, g2, g3⟩
        · omega
        · have : i = r.p.i := by omega
          subst this
          exact absurd g1 hX
    · refine hk σ' _ _ ⟨?_, ?_, hput _, hi.tl.trans hd.tl, fun o k h => hd.ext o k (hi.ext o k h), fun o h => ?_⟩
      · have := (hi.sl.mono hd.ext).put (d := r.p.o.dst) hd.r
        simpa [eff, Rec.v, ho] using this
      · simpa [eff, Rec.u, ho] using hd.oi
      · rcases hd.new o h with h | ⟨h1, h2⟩
        · exact (hi.fr o h).imp id fun ⟨i, h1, h2⟩ => ⟨i, .inr h1, h2⟩
        · exact .inr ⟨r.p.i, .inl rfl, h1, h2⟩
end Go.Proofs.Ytkjnijddbiconaa.Ev
