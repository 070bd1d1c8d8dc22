/- One operation within a larger state; an operation looks at its own operands alone. -/
import Derived.Test.YtkjnijddbiconaaEv13
namespace Go.Proofs.Ytkjnijddbiconaa.Ev
open Go
set_option linter.unusedVariables false
set_option linter.unusedSimpArgs false
variable {P : Program} {E : Env} {S : Sb} {σ : Sg} {l : List AV} {a : Act} {ob : Ob} {w : World}

theorem restr_sub {D : List Nat} : ∀ o x, restr D ob o = some x → ob o = some x := by
  intro o x h
  unfold restr at h
  split at h
  · exact h
  · cases h
theorem Does.old {nb : Nat} {v : AV} {u : List (Nat × Option AO)} {v' : Value} {w' : World} {σ' : Sg} (oi : OI S σ ob w) (d : Does S σ ob w nb v u v' w' σ') {o : Nat} {x : AO} (ho : ob o = some x) {k : Bk} (hk : σ' o = some k) : σ o = some k := by
  obtain ⟨k2, hk2, _⟩ := oi.ok o x ho
  have := d.ext o k2 hk2
  rw [hk] at this
  rw [hk2, Option.some.inj this]
/-- What an operation does to some objects it does within all. -/
theorem Does.widen (oi : OI S σ ob w) {D : List Nat} {nb : Nat} {v : AV} {u : List (Nat × Option AO)} {v' : Value} {w' : World} {σ' : Sg} (d : Does S σ (restr D ob) w nb v u v' w' σ') : Does S σ ob w nb v u v' w' σ' := by
  have at_ : ∀ o x, updF ob u o = some x → updF (restr D ob) u o = some x ∨ (ob o = some x ∧ restr D ob o = none) := by
    intro o x h
    by_cases hu : o ∈ u.map (·.1)
    · left; rw [updF_in u (restr D ob) ob o hu]; exact h
    · rw [updF_not u ob o hu] at h
      rw [updF_not u _ o hu]
      cases hr : restr D ob o with
      | none => exact .inr ⟨h, rfl⟩
      | some y => left; rw [restr_sub o y hr] at h; exact h
  have own_ : ∀ b, own σ (restr D ob) b → own σ ob b := fun b h => own_sub restr_sub h
  have ext2 : ∀ o x k, ob o = some x → σ' o = some k → σ o = some k := by
    intro o x k ho hk
    obtain ⟨k2, hk2, _⟩ := oi.ok o x ho
    have := d.ext o k2 hk2
    rw [hk] at this
    rw [hk2, Option.some.inj this]
  have away : ∀ o x k, ob o = some x → restr D ob o = none → σ o = some k → k.real = true → ¬ own σ (restr D ob) k.b ∧ k.b < w.heap.size := by
    intro o x k ho hn hk hr
    obtain ⟨k2, hk2, ok⟩ := oi.ok o x ho
    rw [hk] at hk2
    obtain rfl := Option.some.inj hk2
    refine ⟨?_, ok.lt hr⟩
    rintro ⟨o2, y, k2, g1, g2, g3, g4⟩
    have := oi.inj o2 o y x k2 k (restr_sub o2 y g1) ho g2 hk g3 hr g4
    subst this
    rw [hn] at g1; cases g1
  have apart : ∀ o x k o' x' k', updF (restr D ob) u o = some x → ob o' = some x' → restr D ob o' = none → σ' o = some k → σ' o' = some k' → k.real = true → k'.real = true → k.b ≠ k'.b := by
    intro o x k o' x' k' h1 h2 h3 h4 h5 r1 r2 hb
    have h5' := ext2 o' x' k' h2 h5
    obtain ⟨e1, e2⟩ := away o' x' k' h2 h3 h5' r2
    rcases d.src k.b ⟨o, x, k, h1, h4, r1, rfl⟩ with h | h
    · rw [hb] at h; exact e1 h
    · omega
  refine ⟨d.r, ⟨?_, ?_, d.oi.st, ?_, oi.tab⟩, d.ext, d.new, d.tl, fun b hb hno => d.fr b hb fun h => hno (own_ b h), ?_⟩
  · intro o x h
    rcases at_ o x h with h | ⟨h, hn⟩
    · exact d.oi.ok o x h
    · obtain ⟨k, hk, ok⟩ := oi.ok o x h
      refine ⟨k, d.ext o k hk, ok.at d.ext fun hr => ?_⟩
      obtain ⟨e1, e2⟩ := away o x k h hn hk hr
      exact d.fr k.b e2 e1
  · intro o o' x x' k k' h h' hk hk' r1 r2 hb
    rcases at_ o x h with g | ⟨g, gn⟩ <;> rcases at_ o' x' h' with g' | ⟨g', gn'⟩
    · exact d.oi.inj o o' x x' k k' g g' hk hk' r1 r2 hb
    · exact absurd hb (apart o x k o' x' k' g g' gn' hk hk' r1 r2)
    · exact absurd hb.symm (apart o' x' k' o x k g' g gn hk' hk r2 r1)
    · exact oi.inj o o' x x' k k' g g' (ext2 o x k g hk) (ext2 o' x' k' g' hk') r1 r2 hb
  · intro o x k h hk hr
    rcases at_ o x h with g | ⟨g, gn⟩
    · exact d.oi.sep o x k g hk hr
    · exact oi.sep o x k g (ext2 o x k g hk) hr
  · rintro b ⟨o, x, k, h, hk, hr, hb⟩
    rcases at_ o x h with g | ⟨g, gn⟩
    · exact (d.src b ⟨o, x, k, g, hk, hr, hb⟩).imp (own_ b) id
    · exact .inl ⟨o, x, k, g, ext2 o x k g hk, hr, hb⟩

/-! ### Operands -/
theorem opd_congr {tm tm' : Tm} {t : Nat} {x : Operand} (h : ∀ s, x = .tmp s → tm s = tm' s) : opd E tm t x = opd E tm' t x := by
  cases x <;> simp [opd]
  rename_i s
  exact h s rfl
theorem opdL_congr {tm tm' : Tm} : ∀ (ts : List Nat) (xs : List Operand), (∀ x ∈ xs, ∀ t, opd E tm t x = opd E tm' t x) → opdL E tm ts xs = opdL E tm' ts xs
  | _, [], _ => by simp [opdL]
  | [], x :: xs, h => by simp only [opdL]; rw [h x (by simp) 0, opdL_congr [] xs fun y hy => h y (by simp [hy])]
  | t :: ts, x :: xs, h => by simp only [opdL]; rw [h x (by simp) t, opdL_congr ts xs fun y hy => h y (by simp [hy])]
theorem boundA_congr {tm tm' : Tm} (d : Int) (x : Option Operand) (h : ∀ y, x = some y → ∀ t, opd E tm t y = opd E tm' t y) : boundA E tm d x = boundA E tm' d x := by
  cases x with
  | none => rfl
  | some y => simp only [boundA]; rw [h y rfl 0]
theorem partsAV_congr {tm tm' : Tm} (pl : Nat → Option (Nat × Nat)) : ∀ (ps : List (Nat × Operand)) (us : List AV), (∀ x ∈ ps.map (·.2), ∀ t, opd E tm t x = opd E tm' t x) → partsAV E tm pl ps us = partsAV E tm' pl ps us
  | [], us, _ => rfl
  | (i, x) :: ps, us, h => by
    have ih := fun us => partsAV_congr pl ps us fun y hy => h y (by simp at hy ⊢; exact .inr hy)
    simp only [partsAV]
    simp only [h x (by simp), ih]
theorem sliceA_congr {tm tm' : Tm} {t : Nat} {x : AV} {lo hi mx : Option Operand} (h1 : ∀ y, lo = some y → ∀ t, opd E tm t y = opd E tm' t y) (h2 : ∀ y, hi = some y → ∀ t, opd E tm t y = opd E tm' t y)
    (h3 : ∀ y, mx = some y → ∀ t, opd E tm t y = opd E tm' t y) : sliceA E tm ob t x lo hi mx = sliceA E tm' ob t x lo hi mx := by
  unfold sliceA
  simp only [boundA_congr _ lo h1, boundA_congr _ hi h2, boundA_congr _ mx h3]
theorem comp_congr {tm tm' : Tm} {o : Oper} {nb : Nat} (h : ∀ s, .tmp s ∈ o.op.operands → tm s = tm' s) : comp E nb o tm ob = comp E nb o tm' ob := by
  have key : ∀ x ∈ o.op.operands, ∀ t, opd E tm t x = opd E tm' t x := fun x hx t => opd_congr fun s e => h s (e ▸ hx)
  clear h
  obtain ⟨dst, op, type, pos, after, guard⟩ := o
  cases op <;> simp only [Op.operands] at key <;> simp only [comp]
  case build t ps =>
    have := fun pl us => partsAV_congr (E := E) (tm := tm) (tm' := tm') pl ps.toList us fun x hx => key x (by simpa using hx)
    simp only [this]
  case buildSlice t n ps =>
    have := fun pl us => partsAV_congr (E := E) (tm := tm) (tm' := tm') pl ps.toList us fun x hx => key x (by simpa using hx)
    simp only [this]
  case makeFunc fn first caps =>
    cases fn <;> simp only
    rw [opdL_congr [] caps.toList fun x hx => key x (by simp at hx ⊢; exact .inr hx)]
  case slice t x lo hi mx =>
    rw [key x (by simp) t]
    split
    · rw [sliceA_congr (fun y hy => key y (by simp [hy])) (fun y hy => key y (by simp [hy])) (fun y hy => key y (by simp [hy]))]
    · rfl
  case call c =>
    obtain ⟨callee, args, ts⟩ := c
    cases callee <;> simp only
    rw [opdL_congr ts.toList args.toList fun x hx => key x (by simp [Call.operands] at hx ⊢; exact hx)]
  all_goals first
    | rfl
    | (simp only [key _ (List.mem_toArray.2 (List.mem_singleton.2 rfl))]; done)
    | (simp at key; simp only [key]; done)
    | (simp at key; obtain ⟨k1, k2⟩ := key; simp only [k1, k2]; done)
    | (simp at key; obtain ⟨k1, k2, k3⟩ := key; simp only [k1, k2, k3]; done)

/-! ### One step -/
/-- What an operation comes to, from the slots and the objects it looks at. -/
def Step1 (P : Program) (E : Env) (nb : Nat) (o : Oper) (tm : Tm) (ob : Ob) (v : AV) (u : List (Nat × Option AO)) : Prop :=
  (∃ f az q r, calleeOf E o tm = some (f, az) ∧ preOf E f az ob = some q ∧ Ctr P f q.args q.obs r ∧ postOf (E.io.contains f) nb q r = some (v, u)) ∨ comp E nb o tm ob = some ⟨true, v, u⟩
theorem calleeOf_congr {tm tm' : Tm} {o : Oper} (h : ∀ s, .tmp s ∈ o.op.operands → tm s = tm' s) : calleeOf E o tm = calleeOf E o tm' := by
  have key : ∀ x ∈ o.op.operands, ∀ t, opd E tm t x = opd E tm' t x := fun x hx t => opd_congr fun s e => h s (e ▸ hx)
  clear h
  obtain ⟨dst, op, type, pos, after, guard⟩ := o
  cases op <;> simp only [Op.operands] at key <;> simp only [calleeOf]
  case call c =>
    obtain ⟨callee, args, ts⟩ := c
    cases callee <;> simp only
    rename_i f
    rw [key f (by simp [Call.operands]) 0, opdL_congr ts.toList args.toList fun x hx => key x (by simp [Call.operands] at hx ⊢; exact .inr hx)]
theorem Step1.congr {nb : Nat} {o : Oper} {tm tm' : Tm} {v : AV} {u : List (Nat × Option AO)} (h : ∀ s, .tmp s ∈ o.op.operands → tm s = tm' s) (hs : Step1 P E nb o tm ob v u) : Step1 P E nb o tm' ob v u := by
  unfold Step1 at *
  rwa [← calleeOf_congr h, ← comp_congr h]
theorem RL.append' {us us' : List AV} {vs vs' : List Value} (h : RL S σ us vs) (h' : RL S σ us' vs') : RL S σ (us ++ us') (vs ++ vs') := h.append h'
/-- One step of the model. -/
theorem step1_ok (tt : TTOK P E.tt) (he : EqsOK P E) (hs : Slots S σ l a) (oi : OI S σ ob w) {nb : Nat} (hfr : ∀ o, nb ≤ o → o < nb + 1000 → σ o = none) {o : Oper} {v : AV} {u : List (Nat × Option AO)} {D : List Nat}
    (h : Step1 P E nb o (getT l) (restr D ob) v u) {K : Act → World → Prop} {Q : Exit → Act → World → Prop} (hk : ∀ v' w' σ', Does S σ ob w nb v u v' w' σ' → K (a.put o.dst v') w') : o.wp P a w K Q := by
  have oi' : OI S σ (restr D ob) w := oi.sub restr_sub
  rcases h with ⟨f, az, q, r, h1, h2, h3, h4⟩ | h
  · unfold calleeOf at h1
    split at h1
    · rename_i fv args ts hop
      split at h1
      · rename_i f' caps as0 hfv has
        simp at h1
        obtain ⟨rfl, rfl⟩ := h1
        have hR := opd_R hs _ _ _ hfv
        have hL := opdL_RL hs _ _ _ has
        generalize hz : a.eval fv = z at hR
        cases hR with
        | fn _ _ vs hl hh =>
          have hall : RL S σ (as0 ++ caps) (args.toList.map a.eval ++ vs) := hL.append ⟨hl, hh⟩
          obtain ⟨rfl, p1, p2, p3, p4, p5⟩ := pre_ok oi' h2 hall
          have hgo := h3 _ _ w _ p1 p2 (by
            intro p hp
            rw [p3]
            refine Nat.lt_of_not_le fun h => hp ?_
            simp [names, List.getElem?_eq_none h])
          have hex : execOp a.eval o = callFunc q.f (args.toList.map a.eval ++ vs).toArray := by
            unfold execOp
            simp only [hop, resolve, hz, Deferred.ofValue, pure_bind, invoke]
            congr 1
            apply Array.toList_inj.1
            simp
          unfold Oper.wp
          rw [hex]
          refine hgo o a K Q fun v' w' ⟨σ1, g1, g2, g3, g4, g5⟩ => ?_
          obtain ⟨σ', hd⟩ := post_ok oi' p3 p4 p5 hfr h4 g1 g2 g3 g4 g5
          exact hk v' w' σ' (hd.widen oi)
      · cases h1
    · cases h1
  · obtain ⟨v', w', σ', hc, hd⟩ := comp_ok tt he hs oi' (hfr nb (Nat.le_refl _) (by omega)) h
    exact hc.wp (hk v' w' σ' (hd.widen oi))
end Go.Proofs.Ytkjnijddbiconaa.Ev
