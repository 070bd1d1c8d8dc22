/- Code, loops, functions: the evaluator says what the model does. -/
import Derived.Test.YtkjnijddbiconaaEv19
namespace Go.Proofs.Ytkjnijddbiconaa.Ev
open Go
set_option linter.unusedVariables false
set_option linter.unusedSimpArgs false
variable {P : Program} {E : Env} {C : Cx} {S : Sb} {σ : Sg} {a : Act} {w : World}

def Ex.to : Ex → Exit
  | .normal => .normal
  | .exit n => .exit n
  | .ret => .ret
/-- A loop from a state at its head, with what follows. -/
def LoopOk (P : Program) (C : Cx) : Lp := fun c st k =>
  ∀ (σ : Sg) (a : Act) (w : World) (Q : Exit → Act → World → Prop), Inv C σ st a w → (∀ (e : Ex) st' σ' a' w', k e st' → Inv C σ' st' a' w' → Q e.to a' w') → (Code.loop c).wp P Q a w
theorem evP_sound (tt : TTOK P E.tt) (he : EqsOK P E) (hm : P.follows .mixedOrders = true) {G : Gk} (hG : HG P G) : ∀ (c : Code) (st : St) (k : Kt) (σ : Sg) (a : Act) (w : World) (Q : Exit → Act → World → Prop),
    evP E G (LoopOk P C) c st k → Inv C σ st a w → (∀ (e : Ex) st' σ' a' w', k e st' → Inv C σ' st' a' w' → Q e.to a' w') → c.wp P Q a w := by
  intro c
  induction c with
  | skip => intro st k σ a w Q h hi hk; exact wp_skip (hk .normal st σ a w h hi)
  | region id ops draw =>
    intro st k σ a w Q h hi hk
    exact region_ok tt he hm hG (E := E) (k := fun st' => k .normal ⟨st'.tm, st'.ob, st.nx + 1000000, st.ps⟩) h hi fun st' σ' a' w' hst hi' => hk .normal _ σ' a' w' hst hi'
  | seq x y ihx ihy =>
    intro st k σ a w Q h hi hk
    refine wp_seq (ihx st (seqK (evP E G (LoopOk P C) y) k) σ a w _ h hi fun e st' σ' a' w' hst hi' => ?_)
    cases e with
    | normal => exact ihy st' k σ' a' w' Q hst hi' hk
    | exit n => exact hk (.exit n) st' σ' a' w' hst hi'
    | ret => exact hk .ret st' σ' a' w' hst hi'
  | cond c x y ihx ihy =>
    intro st k σ a w Q h hi hk
    simp only [evP] at h
    split at h
    · rename_i b hb
      have hc : a.eval c = .bool b := by
        unfold condOf at hb
        split at hb
        · rename_i b' hb'
          obtain rfl := Option.some.inj hb
          have := opd_R hi.sl _ _ _ hb'
          generalize hz : a.eval c = z at this
          cases this
          rfl
        · cases hb
      refine wp_cond hc ?_
      cases b with
      | true => exact ihx st k σ a w Q h hi hk
      | false => exact ihy st k σ a w Q h hi hk
    · exact h.elim
  | block id c ih =>
    intro st k σ a w Q h hi hk
    refine wp_block (ih st (blockK id k) σ a w _ h hi fun e st' σ' a' w' hst hi' => ?_)
    cases e with
    | normal => exact hk .normal st' σ' a' w' hst hi'
    | exit n =>
      simp only [Ex.to, Exit.inBlock]
      simp only [blockK] at hst
      split at hst
      · rename_i hn
        have : n = id := by simpa using hn
        rw [if_pos this]
        exact hk .normal st' σ' a' w' hst hi'
      · rename_i hn
        have : ¬ n = id := fun e => by subst e; simp at hn
        rw [if_neg this]
        exact hk (.exit n) st' σ' a' w' hst hi'
    | ret => exact hk .ret st' σ' a' w' hst hi'
  | loop c ih =>
    intro st k σ a w Q h hi hk
    simp only [evP, atHead] at h
    split at h
    · rename_i st' hst
      obtain ⟨σ', hi'⟩ := head_ok hst hi
      exact h σ' a w Q hi' hk
    · exact h.elim
  | exit id => intro st k σ a w Q h hi hk; exact wp_exit (hk (.exit id) st σ a w h hi)
  | ret => intro st k σ a w Q h hi hk; exact wp_ret (hk .ret st σ a w h hi)
  | _ => intro st k σ a w Q h hi hk; exact h.elim

/-! ### Loops -/
/-- What a round comes to: the head again, nearer to the end, or what follows the loop. -/
def roundK {ι : Type} (ts : List Tmp) (ST : ι → St) (μ : ι → Nat) (n : Nat) (k : Kt) : Kt := fun e st =>
  match e with
  | .normal => ∃ i, head ts st = some (ST i) ∧ μ i < n
  | e => k e st
open Classical in
theorem wp_loop_of {ι : Type} {c : Code} (I : ι → Act → World → Prop) (μ : ι → Nat) {Q : Exit → Act → World → Prop} (round : ∀ i a w, I i a w → c.wp P (Exit.then (fun a' w' => ∃ j, I j a' w' ∧ μ j < μ i) Q) a w) :
    ∀ i a w, I i a w → (Code.loop c).wp P Q a w := by
  intro i a w hI
  have pick : ∀ (a : Act) (w : World), (∃ i, I i a w) → ∃ i, I i a w ∧ ∀ j, I j a w → μ i ≤ μ j := by
    intro a w ⟨i, hi⟩
    have : ∀ n i, μ i ≤ n → I i a w → ∃ i, I i a w ∧ ∀ j, I j a w → μ i ≤ μ j := by
      intro n
      induction n with
      | zero => intro i hn hi; exact ⟨i, hi, fun j _ => by omega⟩
      | succ n ih =>
        intro i hn hi
        by_cases hall : ∀ j, I j a w → μ i ≤ μ j
        · exact ⟨i, hi, hall⟩
        · have : ∃ j, I j a w ∧ μ j < μ i := by
            refine Classical.byContradiction fun h => hall fun j hj => ?_
            exact Nat.le_of_not_lt fun hlt => h ⟨j, hj, hlt⟩
          obtain ⟨j, hj, hlt⟩ := this
          exact ih j (by omega) hj
    exact this (μ i) i (Nat.le_refl _) hi
  let ν : Act → World → Nat := fun a w => if h : ∃ i, I i a w then μ (Classical.choose (pick a w h)) else 0
  have hν : ∀ i a w, I i a w → ν a w ≤ μ i ∧ ∃ j, I j a w ∧ μ j = ν a w := by
    intro i a w hi
    have h : ∃ i, I i a w := ⟨i, hi⟩
    have hs := Classical.choose_spec (pick a w h)
    simp only [ν, dif_pos h]
    exact ⟨hs.2 i hi, _, hs.1, rfl⟩
  refine wp_loop (fun a w => ∃ i, I i a w) ν ⟨i, hI⟩ fun a w ⟨i, hi⟩ => ?_
  obtain ⟨_, j, hj, hjm⟩ := hν i a w hi
  refine wp_mono (round j a w hj) fun e a' w' h => ?_
  cases e with
  | normal =>
    obtain ⟨j', h1, h2⟩ := h
    exact ⟨⟨j', h1⟩, by have := (hν j' a' w' h1).1; omega⟩
  | _ => exact h
theorem loop_rule (tt : TTOK P E.tt) (he : EqsOK P E) (hm : P.follows .mixedOrders = true) {G : Gk} (hG : HG P G) {ι : Type} (ST : ι → St) (μ : ι → Nat) {c : Code} {k : Kt}
    (body : ∀ i, evP E G (LoopOk P C) c (ST i) (roundK (jof E c) ST μ (μ i) k)) (i : ι) : LoopOk P C c (ST i) k := by
  intro σ a w Q hi hk
  refine wp_loop_of (fun i a w => ∃ σ, Inv C σ (ST i) a w) μ (fun i a w ⟨σ, hi⟩ => ?_) i a w ⟨σ, hi⟩
  refine evP_sound tt he hm hG c (ST i) _ σ a w _ (body i) hi fun e st' σ' a' w' hst hi' => ?_
  cases e with
  | normal =>
    obtain ⟨j, h1, h2⟩ := hst
    obtain ⟨σ2, hi2⟩ := head_ok h1 hi'
    exact ⟨j, ⟨σ2, hi2⟩, h2⟩
  | exit n => exact hk (.exit n) st' σ' a' w' hst hi'
  | ret => exact hk .ret st' σ' a' w' hst hi'

/-! ### Results -/
theorem slot_getD {l : List AV} (h : Slots S σ l a) (s : Nat) : R S σ (getT l s) (a.tmps.getD s undef) := by
  rw [Array.getD_eq_getD_getElem?]
  cases hv : a.tmps[s]? with
  | none =>
    have : l.length ≤ s := by rw [← h.len]; simpa using hv
    rw [getT_none l s this]
    exact .junk _
  | some v => exact h.tm s v hv
theorem result_ok (tt : TTOK P E.tt) {st : St} (hi : Inv C σ st a w) {r : ResultVar} {v : AV} (h : resultAV E st r = some v) :
    ∃ x, (match r with | .tmp t => pure (a.tmps.getD t undef) | .cell p t => (do loadVar t (← asAddr (a.tmps.getD p undef))) : Sem Value).run P w = .ok x w ∧ R C.S σ v x := by
  cases r with
  | tmp t =>
    simp [resultAV] at h
    subst h
    exact ⟨_, rfl, slot_getD hi.sl t⟩
  | cell p t =>
    simp only [resultAV] at h
    split at h
    · rename_i ti hti
      split at h
      · rename_i us hus
        obtain ⟨ad, vs, hv, hl, hR, hc⟩ := readAt_ok hi.oi hus (slot_getD hi.sl p)
        have hrun := run_loadVar_cells (P := P) (w := w) (tt.row hti) ad vs hl hc
        rcases ofCells_R h hR with ⟨ha, hr⟩ | ⟨ha, u, rfl, hr⟩
        · exact ⟨_, by simp [hv, asAddr, hrun.1 ha], hr⟩
        · exact ⟨u, by simp [hv, asAddr, hrun.2 u ha rfl], hr⟩
      · cases h
    · cases h
theorem resultsM_ok (tt : TTOK P E.tt) {st : St} (hi : Inv C σ st a w) : ∀ (rs : List ResultVar) (vs : List AV), mapX (resultAV E st) rs = some vs →
    ∃ xs, (rs.mapM (fun r => (match r with | .tmp t => pure (a.tmps.getD t undef) | .cell p t => (do loadVar t (← asAddr (a.tmps.getD p undef))) : Sem Value))).run P w = .ok xs w ∧ RL C.S σ vs xs
  | [], vs, h => by simp [mapX] at h; subst h; exact ⟨[], rfl, .nil⟩
  | r :: rs, vs, h => by
    simp only [mapX] at h
    split at h
    · rename_i v hv
      split at h
      · rename_i vs' hvs
        obtain rfl := Option.some.inj h
        obtain ⟨x, h1, h2⟩ := result_ok (P := P) tt hi hv
        obtain ⟨xs, h3, h4⟩ := resultsM_ok tt hi rs vs' hvs
        refine ⟨x :: xs, ?_, .cons h2 h4⟩
        rw [List.mapM_cons, run_bind_ok h1, run_bind_ok h3]
        rfl
      · cases h
    · cases h
theorem results_ok (tt : TTOK P E.tt) {st : St} (hi : Inv C σ st a w) {fn : Func} {v : AV} (h : resultsAV E st fn.results.toList = some v) : ∃ x, (results fn a.tmps).run P w = .ok x w ∧ R C.S σ v x := by
  unfold resultsAV at h
  have go : ∀ vs, mapX (resultAV E st) fn.results.toList = some vs → ∃ xs : List Value, (results fn a.tmps).run P w = .ok (if h : xs.toArray.size = 1 then xs.toArray[0] else .tuple xs.toArray) w ∧ RL C.S σ vs xs := by
    intro vs hvs
    obtain ⟨xs, h1, h2⟩ := resultsM_ok (P := P) tt hi _ _ hvs
    refine ⟨xs, ?_, h2⟩
    unfold results
    rw [Array.mapM_eq_mapM_toList]
    have : (List.toArray <$> (fn.results.toList.mapM (fun r => (match r with | .tmp t => pure (a.tmps.getD t undef) | .cell p t => (do loadVar t (← asAddr (a.tmps.getD p undef))) : Sem Value)))).run P w = .ok xs.toArray w := by
      rw [map_eq_pure_bind, run_bind_ok h1]
      rfl
    exact Eq.trans (run_bind_ok this) rfl
  split at h
  · rename_i v' hvs
    obtain rfl := Option.some.inj h
    obtain ⟨xs, h1, h2⟩ := go _ hvs
    obtain ⟨x, rfl, hx⟩ := h2.one
    exact ⟨x, by simpa using h1, hx⟩
  · rename_i vs hne hvs
    obtain rfl := Option.some.inj h
    obtain ⟨xs, h1, h2⟩ := go _ hvs
    have hlen : ¬ xs.length = 1 := by
      intro hl
      have := h2.1
      obtain ⟨x, hx⟩ := List.length_eq_one_iff.1 (this.trans hl)
      exact hne x (by rw [← hx])
    refine ⟨.tuple xs.toArray, ?_, .tup vs xs h2.1 h2.2⟩
    rw [h1]
    simp [hlen]
  · cases h
theorem okOuts_at {acc : List Nat} : ∀ (outs ps : List (Option Nat)), okOuts acc outs ps = true → ∀ (i q : Nat), outs[i]? = some (some q) → ∃ o, ps[i]? = some (some o) ∧ ixFrom 0 acc o = some q
  | [], ps, _, i, q, h => by simp at h
  | none :: outs, [], h, i, q, hq => by simp [okOuts] at h
  | none :: outs, p :: ps, h, i, q, hq => by
    cases i with
    | zero => simp at hq
    | succ i => simpa using okOuts_at outs ps (by simpa [okOuts] using h) i q (by simpa using hq)
  | some q0 :: outs, [], h, i, q, hq => by simp [okOuts] at h
  | some q0 :: outs, none :: ps, h, i, q, hq => by simp [okOuts] at h
  | some q0 :: outs, some o :: ps, h, i, q, hq => by
    simp only [okOuts, Bool.and_eq_true] at h
    cases i with
    | zero =>
      simp at hq
      subst hq
      refine ⟨o, rfl, ?_⟩
      cases hx : ixFrom 0 acc o with
      | none => rw [hx] at h; simp at h
      | some q' => rw [hx] at h; simp at h; rw [h.1]
    | succ i => simpa using okOuts_at outs ps h.2 i q (by simpa using hq)
theorem finish_ok (tt : TTOK P E.tt) {st : St} (hi : Inv C σ st a w) {fn : Func} {r : Res} (h : finish E fn.results.toList st = some r) :
    ∃ x, (results fn a.tmps).run P w = .ok x w ∧ ∃ σ', R C.S σ' r.av x ∧ OI C.S σ' (lookN (number 0 r.obs)) w ∧ (∀ q, σ' q ≠ none → q < r.obs.length) ∧ ∀ (i q : Nat), r.outs[i]? = some (some q) → σ' q = C.π i := by
  unfold finish at h
  split at h
  · rename_i v hv
    obtain ⟨x, hx, hR⟩ := results_ok (P := P) tt hi hv
    refine ⟨x, hx, ?_⟩
    simp only at h
    obtain ⟨f1, f2⟩ := denil_facts depth st.nx v
    obtain ⟨hext, hF, oi2⟩ := denil_OI hi.oi hi.nx f1 f2
    have fle := (denilO_facts st.ob (denil depth st.nx v).2.2).1
    generalize outsOf _ _ _ = oo at h
    split at h
    · rename_i os hb hos
      obtain rfl := Option.some.inj h
      simp only [Bool.and_eq_true] at hb
      have oi3 := number_OI oi2 hb.1 hos
      have hR2 := denil_R depth st.nx v x (hR.mono hext fun _ _ h => h) fun m g1 g2 => hF m g1 (by omega)
      refine ⟨_, ren_R (names_ix (acc := oo.2)) depth _ _ hR2, oi3, fun q hq => ?_, fun i q hq => ?_⟩
      · obtain ⟨hlen, _⟩ := getOb_ok _ _ hos
        simp only [List.length_map, hlen]
        refine Nat.lt_of_not_le fun hle => hq ?_
        simp [names, List.getElem?_eq_none hle]
      · obtain ⟨o, h1, h2⟩ := okOuts_at _ _ hb.2 i q hq
        obtain ⟨k, h3, h4⟩ := hi.ps i o h1
        rw [names_ix o q h2, hext o k h3, h4]
    · cases h
  · cases h

/-! ### Functions -/
theorem run_callFunc {f : FuncId} {fn : Func} {c : Code} (hf : P.funcs[f]? = some fn) (hb : fn.body = some c) (hn : (fn.name == "runtime.NumGoroutine") = false) (args : Array Value) : (callFunc f args).run P w = .ok (.enter f args) w := by
  have hn' : ¬ fn.name = "runtime.NumGoroutine" := by simpa using hn
  unfold callFunc
  simp [hf, hn', hb]
theorem handed_at : ∀ (obs : List AO) (n i o : Nat), (handed n obs)[i]? = some (some o) → o = n + i ∧ i < obs.length
  | [], n, i, o, h => by simp [handed] at h
  | x :: obs, n, 0, o, h => by simp [handed] at h; simp [h]
  | x :: obs, n, i + 1, o, h => by
    have := handed_at obs (n + 1) i o (by simpa [handed] using h)
    exact ⟨by omega, by simp; exact this.2⟩
/-- What a function promises, from what its body comes to. -/
theorem ctr_of {fn : Func} (tt : TTOK P (E.of fn).tt) (he : EqsOK P (E.of fn)) (hm : P.follows .mixedOrders = true) {G : Gk} (hG : HG P G) {f : FuncId} {c : Code} (hf : P.funcs[f]? = some fn) (hb : fn.body = some c) (hn : (fn.name == "runtime.NumGoroutine") = false)
    {args : List AV} {obs : List AO} {r : Res} (ho : obs.length ≤ start) (h : ∀ C, bodyP E G (LoopOk P C) fn args obs (fun o => o = some r)) : Ctr P f args obs r := by
  intro S π w vs hR oi hπ o a K Q hk
  rw [run_callFunc hf hb hn]
  show Calls P f vs.toArray w _
  have hbody := h ⟨S, π, w⟩
  unfold bodyP at hbody
  have hc : codeOf fn = c := by simp [codeOf, hb]
  rw [hc] at hbody
  refine calls_of_wp hf hb (evP_sound tt he hm hG c _ _ π _ w _ hbody ?_ fun e st' σ' a' w' hst hi' => ?_)
  · have hlen := hR.1
    have hRL : RL S π (args ++ List.replicate (fn.ntmps - args.length) (.val undef)) (vs.toArray ++ Array.replicate (fn.ntmps - vs.toArray.size) undef).toList := by
      have hrep : ∀ n, RL S π (List.replicate n (.val undef)) (List.replicate n undef) := by
        intro n
        induction n with
        | zero => exact .nil
        | succ n ih => exact .cons (.val _) ih
      have := hR.append (hrep (fn.ntmps - args.length))
      simpa [hlen] using this
    have sl := slots_iff (a := ⟨vs.toArray ++ Array.replicate (fn.ntmps - vs.toArray.size) undef, []⟩).2 hRL
    refine ⟨sl.len, sl.tm, oi, fun p hp => Nat.lt_of_lt_of_le (hπ p hp) ho, fun i p hp => ?_, rfl, .refl w⟩
    obtain ⟨h1, h2⟩ := handed_at _ _ _ _ hp
    have : p = i := by omega
    subst this
    obtain ⟨k, hk, _⟩ := oi.ok p obs[p] (by rw [lookN_num]; simp [h2])
    exact ⟨k, hk, hk⟩
  · have fin : ∀ (hst : finish E fn.results.toList st' = some r), a'.defers = [] ∧ ∃ v, (results fn a'.tmps).run P w' = .ok v w' ∧ K (a.put o.dst v) w' := by
      intro hst
      obtain ⟨x, h1, σ2, h2, h3, h4, h5⟩ := finish_ok (P := P) tt hi' hst
      exact ⟨hi'.df, x, h1, hk x w' ⟨σ2, h2, h3, hi'.tl, h4, h5⟩⟩
    cases e with
    | normal => exact fin hst
    | ret => exact fin hst
    | exit n => exact hst.elim
end Go.Proofs.Ytkjnijddbiconaa.Ev
