/- A region in any order. -/
import Derived.Test.YtkjnijddbiconaaEv15
namespace Go.Proofs.Ytkjnijddbiconaa.Ev
open Go
set_option linter.unusedVariables false
set_option linter.unusedSimpArgs false
variable {P : Program} {E : Env} {S : Sb} {σ : Sg} {a : Act} {w : World}

theorem RI.weaken {σ0 : Sg} {nx : Nat} {w0 : World} {X Y : Nat → Prop} {s : Ms} (h : RI S σ0 nx w0 X s σ a w) (hXY : ∀ i, X i → Y i) : RI S σ0 nx w0 Y s σ a w :=
  ⟨h.sl, h.oi, h.df, h.tl, h.ext, fun o ho => (h.fr o ho).imp id fun ⟨i, h1, h2⟩ => ⟨i, hXY i h1, h2⟩⟩
/-- In text order. -/
theorem text_ok (tt : TTOK P E.tt) (he : EqsOK P E) {σ0 : Sg} {nx : Nat} {w0 : World} {ops : Array Oper} {Q : Exit → Act → World → Prop} {s1 : Ms}
    (hq : ∀ (X : Nat → Prop) σ' a' w', (∀ i, X i → i < ops.size) → RI S σ0 nx w0 X s1 σ' a' w' → Q .normal a' w') : ∀ (os : List Oper) (i : Nat) (ms : List Nat) (s : Ms) (rs : List Rec) (σ : Sg) (a : Act) (w : World), i ≤ ops.size → ops.toList.drop i = os → Tr P E nx ops.toList (prepFrom i ms os) s rs s1 →
      RI S σ0 nx w0 (fun j => j < i) s σ a w → wpOps P ops Q (List.range' i os.length) a w
  | [], i, ms, s, rs, σ, a, w, hle, _, t, hi => by
    cases t with
    | nil => exact hq _ _ _ _ (fun j hj => Nat.lt_of_lt_of_le hj hle) hi
  | o :: os, i, ms, s, rs, σ, a, w, hle, hd, t, hi => by
    simp only [prepFrom] at t
    generalize hp : (⟨i, o, ancOf ms o.after.toList⟩ : POp) = p at t
    cases t with
    | cons _ r _ rs _ h t =>
      have hpi : r.p.i = i := by rw [← hp]
      have hpo : r.p.o = o := by rw [← hp]
      have hop : ops[i]? = some o := by
        have := congrArg (fun l => l[0]?) hd
        simpa using this
      rw [List.length_cons, List.range'_succ, wpOps_cons, ← hpi]
      refine op_ok tt he hi (by rw [hpi, hpo]; exact hop) (by rw [hpi]; omega) h fun σ' a' w' hi' => ?_
      rw [hpi]
      refine text_ok tt he hq os (i + 1) _ _ rs σ' a' w' (Array.getElem?_eq_some_iff.1 hop).1 ?_ t (hi'.weaken fun j hj => ?_)
      · rw [← List.drop_drop, hd]; rfl
      · rw [hpi] at hj; omega

/-! ### Any order -/
def apt (u v : List Nat) : Prop := ∀ o, o ∈ u → o ∉ v
theorem apartL_ok : ∀ (u v : List Nat), apartL u v = true → apt u v
  | [], v, _, o, h => by simp at h
  | x :: u, v, h, o, ho => by
    simp [apartL] at h
    rcases List.mem_cons.1 ho with rfl | ho
    · simpa using h.1
    · exact apartL_ok u v h.2 o ho
/-- The second may come before the first, or it is said to follow. -/
def Free (all : List Oper) (q r : Rec) : Prop :=
  (r.p.anc.testBit q.p.i = true ∨ ((∀ d, q.p.o.dst = some d → d ∉ slotsOf all r.p.o ∧ r.p.o.dst ≠ some d) ∧ (∀ d, r.p.o.dst = some d → d ∉ slotsOf all q.p.o))) ∧
  (r.p.anc.testBit q.p.i = true ∨ (apt (q.u.map (·.1)) r.D ∧ apt (q.u.map (·.1)) (r.u.map (·.1)) ∧ apt (r.u.map (·.1)) q.D) ∨ r.out = none ∨ q.out = none)
theorem pairOk_ok {all : List Oper} {q r : Rec} (h : pairOk all q.p r.p = true) :
    r.p.anc.testBit q.p.i = true ∨ ((∀ d, q.p.o.dst = some d → d ∉ slotsOf all r.p.o ∧ r.p.o.dst ≠ some d) ∧ (∀ d, r.p.o.dst = some d → d ∉ slotsOf all q.p.o)) := by
  simp only [pairOk, Bool.or_eq_true, Bool.and_eq_true] at h
  rcases h with h | ⟨h1, h2⟩
  · exact .inl h
  · refine .inr ⟨fun d hd => ?_, fun d hd => ?_⟩
    · rw [hd] at h1
      simp at h1
      exact h1
    · rw [hd] at h2
      simpa using h2
theorem log_free : ∀ (rs : List Rec) (log : List Foot), LogOK log rs → ∀ f ∈ log, ∀ r ∈ rs, r.p.anc.testBit f.i = true ∨ (apt f.w r.D ∧ apt f.w (r.u.map (·.1)) ∧ apt (r.u.map (·.1)) f.d) ∨ r.out = none
  | [], log, _, f, _, r, hr => by simp at hr
  | r0 :: rs, log, h, f, hf, r, hr => by
    simp only [LogOK] at h
    have okL : ∀ (anc : Nat) (d u : List Nat) (log : List Foot), okLog anc d u log = true → f ∈ log → anc.testBit f.i = true ∨ (apt f.w d ∧ apt f.w u ∧ apt u f.d) := by
      intro anc d u log
      induction log with
      | nil => intro _ h; simp at h
      | cons g log ih =>
        intro h hm
        simp only [okLog, Bool.and_eq_true, Bool.or_eq_true] at h
        rcases List.mem_cons.1 hm with rfl | hm
        · rcases h.1 with h | ⟨⟨h1, h2⟩, h3⟩
          · exact .inl h
          · exact .inr ⟨apartL_ok _ _ h1, apartL_ok _ _ h2, apartL_ok _ _ h3⟩
        · exact ih h.2 hm
    cases ho : r0.out with
    | none =>
      rw [ho] at h
      rcases List.mem_cons.1 hr with rfl | hr
      · exact .inr (.inr ho)
      · exact log_free rs log h f hf r hr
    | some x =>
      rw [ho] at h
      rcases List.mem_cons.1 hr with rfl | hr
      · have := okL _ _ _ _ h.1 hf
        rcases this with h | h
        · exact .inl h
        · exact .inr (.inl (by simpa [Rec.u, ho] using h))
      · exact log_free rs _ h.2 f (List.mem_cons_of_mem _ hf) r hr
theorem log_pairs : ∀ (rs : List Rec) (log : List Foot), LogOK log rs → rs.Pairwise fun q r => r.p.anc.testBit q.p.i = true ∨ (apt (q.u.map (·.1)) r.D ∧ apt (q.u.map (·.1)) (r.u.map (·.1)) ∧ apt (r.u.map (·.1)) q.D) ∨ r.out = none ∨ q.out = none
  | [], log, _ => .nil
  | r0 :: rs, log, h => by
    simp only [LogOK] at h
    cases ho : r0.out with
    | none =>
      rw [ho] at h
      exact .cons (fun r _ => .inr (.inr (.inr ho))) (log_pairs rs log h)
    | some x =>
      rw [ho] at h
      refine .cons (fun r hr => ?_) (log_pairs rs _ h.2)
      rcases log_free rs _ h.2 _ (List.mem_cons_self) r hr with h | h | h
      · exact .inl h
      · exact .inr (.inl (by simpa [Rec.u, ho] using h))
      · exact .inr (.inr (.inl h))
theorem Tr.pops {nx : Nat} {all : List Oper} {ps : List POp} {s : Ms} {rs : List Rec} {s' : Ms} (t : Tr P E nx all ps s rs s') : rs.map (·.p) = ps := by
  induction t with
  | nil s => rfl
  | cons s r ps rs s' h t ih => simp [ih]
theorem pairs_free {all : List Oper} : ∀ (rs : List Rec), pairsOk all (rs.map (·.p)) = true → rs.Pairwise fun q r => r.p.anc.testBit q.p.i = true ∨ ((∀ d, q.p.o.dst = some d → d ∉ slotsOf all r.p.o ∧ r.p.o.dst ≠ some d) ∧ (∀ d, r.p.o.dst = some d → d ∉ slotsOf all q.p.o))
  | [], _ => .nil
  | r :: rs, h => by
    simp only [List.map_cons, pairsOk, Bool.and_eq_true, List.all_eq_true] at h
    exact .cons (fun q hq => pairOk_ok (h.1 q.p (List.mem_map.2 ⟨q, hq, rfl⟩))) (pairs_free rs h.2)

/-- The state after some of the operations, in text order. -/
def mrg (X : Nat → Bool) : List Rec → Ms → Ms
  | [], s => s
  | r :: rs, s => mrg X rs (if X r.p.i then eff r s else s)
theorem mrg_append (X : Nat → Bool) : ∀ (rs qs : List Rec) (s : Ms), mrg X (rs ++ qs) s = mrg X qs (mrg X rs s)
  | [], qs, s => rfl
  | r :: rs, qs, s => by simp [mrg, mrg_append X rs qs]
theorem mrg_none : ∀ (rs : List Rec) (s : Ms), mrg (fun _ => false) rs s = s
  | [], s => rfl
  | r :: rs, s => by simp [mrg, mrg_none rs]
theorem mrg_congr (X Y : Nat → Bool) : ∀ (rs : List Rec) (s : Ms), (∀ q ∈ rs, X q.p.i = Y q.p.i) → mrg X rs s = mrg Y rs s
  | [], s, _ => rfl
  | r :: rs, s, h => by simp only [mrg, h r (by simp)]; exact mrg_congr X Y rs _ fun q hq => h q (by simp [hq])
theorem eff_len (r : Rec) (s : Ms) : (eff r s).1.length = s.1.length := putT_len _ _ _
theorem mrg_len (X : Nat → Bool) : ∀ (rs : List Rec) (s : Ms), (mrg X rs s).1.length = s.1.length
  | [], s => rfl
  | r :: rs, s => by
    simp only [mrg]
    rw [mrg_len X rs]
    split
    · exact eff_len r s
    · rfl
theorem slot_mrg (X Y : Nat → Bool) (t : Tmp) : ∀ (rs : List Rec) (s s' : Ms), (∀ q ∈ rs, q.p.o.dst = some t → X q.p.i = Y q.p.i) → s.1.length = s'.1.length → getT s.1 t = getT s'.1 t → getT (mrg X rs s).1 t = getT (mrg Y rs s').1 t
  | [], s, s', _, _, h => h
  | r :: rs, s, s', hq, hl, h => by
    simp only [mrg]
    have one : ∀ (b : Bool) (s : Ms), getT (if b then eff r s else s).1 t = if b = true ∧ r.p.o.dst = some t ∧ t < s.1.length then r.v else getT s.1 t := by
      intro b s
      cases b
      · simp
      · simp [eff, getT_putT]
    have len : ∀ (b : Bool) (s : Ms), (if b then eff r s else s).1.length = s.1.length := by
      intro b s
      cases b
      · rfl
      · exact eff_len r s
    refine slot_mrg X Y t rs _ _ (fun q h => hq q (by simp [h])) (by rw [len, len]; exact hl) ?_
    rw [one, one, hl, h]
    by_cases e : r.p.o.dst = some t
    · rw [hq r (by simp) e]
    · simp [e]
theorem ob_mrg (X Y : Nat → Bool) (o : Nat) : ∀ (rs : List Rec) (s s' : Ms), (∀ q ∈ rs, o ∈ q.u.map (·.1) → X q.p.i = Y q.p.i) → s.2 o = s'.2 o → (mrg X rs s).2 o = (mrg Y rs s').2 o
  | [], s, s', _, h => h
  | r :: rs, s, s', hq, h => by
    simp only [mrg]
    refine ob_mrg X Y o rs _ _ (fun q h => hq q (by simp [h])) ?_
    by_cases e : o ∈ r.u.map (·.1)
    · rw [hq r (by simp) e]
      split
      · exact updF_in r.u _ _ o e
      · exact h
    · have one : ∀ (b : Bool) (s : Ms), (if b then eff r s else s).2 o = s.2 o := by
        intro b s
        cases b
        · rfl
        · exact updF_not r.u _ o e
      rw [one, one, h]
theorem setT_comm : ∀ (l : List AV) (s t : Nat) (x y : AV), s ≠ t → setT (setT l s x) t y = setT (setT l t y) s x
  | [], _, _, _, _, _ => rfl
  | _ :: _, 0, 0, _, _, h => absurd rfl h
  | _ :: _, 0, _ + 1, _, _, _ => rfl
  | _ :: _, _ + 1, 0, _, _, _ => rfl
  | a :: l, s + 1, t + 1, x, y, h => by simp [setT, setT_comm l s t x y (by omega)]
theorem eff_comm {q r : Rec} (s : Ms) (h1 : ∀ d, q.p.o.dst = some d → r.p.o.dst ≠ some d) (h2 : apt (q.u.map (·.1)) (r.u.map (·.1))) : eff q (eff r s) = eff r (eff q s) := by
  unfold eff
  congr 1
  · show putT (putT s.1 _ _) _ _ = putT (putT s.1 _ _) _ _
    cases hq : q.p.o.dst with
    | none => rfl
    | some d =>
      cases hr : r.p.o.dst with
      | none => rfl
      | some e =>
        have := h1 d hq
        rw [hr] at this
        exact setT_comm _ _ _ _ _ fun h => this (by rw [h])
  · funext o
    show updF (updF s.2 r.u) q.u o = updF (updF s.2 q.u) r.u o
    by_cases e : o ∈ q.u.map (·.1)
    · rw [updF_not r.u _ o (h2 o e)]
      exact updF_in q.u _ _ o e
    · rw [updF_not q.u _ o e]
      by_cases e' : o ∈ r.u.map (·.1)
      · exact updF_in r.u _ _ o e'
      · rw [updF_not r.u _ o e', updF_not r.u _ o e', updF_not q.u _ o e]
theorem mrg_eff (X : Nat → Bool) (r : Rec) : ∀ (rs : List Rec) (s : Ms), (∀ q ∈ rs, X q.p.i = true → (∀ d, q.p.o.dst = some d → r.p.o.dst ≠ some d) ∧ apt (q.u.map (·.1)) (r.u.map (·.1))) → mrg X rs (eff r s) = eff r (mrg X rs s)
  | [], s, _ => rfl
  | q :: rs, s, h => by
    simp only [mrg]
    have : (if X q.p.i = true then eff q (eff r s) else eff r s) = eff r (if X q.p.i = true then eff q s else s) := by
      split
      · rename_i hx
        obtain ⟨h1, h2⟩ := h q (by simp) hx
        exact eff_comm s h1 h2
      · rfl
    rw [this]
    exact mrg_eff X r rs _ fun q hq => h q (by simp [hq])
theorem Tr.at {nx : Nat} {all : List Oper} {ps : List POp} {s : Ms} {rs : List Rec} {s' : Ms} (t : Tr P E nx all ps s rs s') : s' = mrg (fun _ => true) rs s ∧ ∀ pre r post, rs = pre ++ r :: post → StepR P E nx all (mrg (fun _ => true) pre s) r := by
  induction t with
  | nil s => exact ⟨rfl, fun pre r post h => by simp at h⟩
  | cons s r ps rs s' h t ih =>
    refine ⟨by simpa [mrg] using ih.1, fun pre r' post he => ?_⟩
    cases pre with
    | nil =>
      simp at he
      obtain ⟨rfl, rfl⟩ := he
      exact h
    | cons x pre =>
      simp at he
      obtain ⟨rfl, he⟩ := he
      simpa [mrg] using ih.2 pre r' post he

theorem GuardOK.congr {all : List Oper} {o : Oper} {tm tm' : Tm} {run : Bool} (h : ∀ t ∈ slotsOf all o, tm t = tm' t) (g : GuardOK all o tm run) : GuardOK all o tm' run := by
  unfold GuardOK at *
  split at g
  · exact g
  · rename_i j want hg
    obtain ⟨t, ht, g⟩ := g
    refine ⟨t, ht, ?_⟩
    rw [← h t (by simp [slotsOf, hg, ht])]
    exact g
theorem slots_operand {all : List Oper} {o : Oper} {t : Tmp} (h : .tmp t ∈ o.op.operands) : t ∈ slotsOf all o := by
  unfold slotsOf
  exact List.mem_append_left _ (List.mem_filterMap.2 ⟨.tmp t, by simpa using h, rfl⟩)
theorem Rec.none_u {q : Rec} (h : q.out = none) : q.u = [] := by simp [Rec.u, h]
theorem order_step {nx : Nat} {all : List Oper} {s0 : Ms} {rs pre post : List Rec} {r : Rec} (hrs : rs = pre ++ r :: post) (hf : rs.Pairwise (Free all)) (hix : rs.Pairwise fun q r => q.p.i < r.p.i) {X : Nat → Bool} (hX : X r.p.i = false)
    (hanc : ∀ j, r.p.anc.testBit j = true → X j = true) (hcl : ∀ q ∈ rs, X q.p.i = true → ∀ j, q.p.anc.testBit j = true → X j = true) (h : StepR P E nx all (mrg (fun _ => true) pre s0) r) :
    StepR P E nx all (mrg X rs s0) r ∧ eff r (mrg X rs s0) = mrg (fun j => X j || j == r.p.i) rs s0 := by
  subst hrs
  obtain ⟨_, hf2, hf3⟩ := List.pairwise_append.1 hf
  obtain ⟨hf4, _⟩ := List.pairwise_cons.1 hf2
  obtain ⟨_, hi2, hi3⟩ := List.pairwise_append.1 hix
  obtain ⟨hi4, _⟩ := List.pairwise_cons.1 hi2
  have hpre : ∀ q ∈ pre, Free all q r := fun q hq => hf3 q hq r (by simp)
  have hpost : ∀ q ∈ post, Free all r q := hf4
  have ipre : ∀ q ∈ pre, q.p.i ≠ r.p.i := fun q hq => Nat.ne_of_lt (hi3 q hq r (by simp))
  have ipost : ∀ q ∈ post, q.p.i ≠ r.p.i := fun q hq => (Nat.ne_of_lt (hi4 q hq)).symm
  have hnot : ∀ q ∈ post, X q.p.i = true → q.p.anc.testBit r.p.i = true → False := by
    intro q hq hx ht
    have := hcl q (by simp [hq]) hx _ ht
    rw [hX] at this; cases this
  have hcur : mrg X (pre ++ r :: post) s0 = mrg X post (mrg X pre s0) := by rw [mrg_append]; simp [mrg, hX]
  have slots : ∀ t ∈ slotsOf all r.p.o, getT (mrg (fun _ => true) pre s0).1 t = getT (mrg X (pre ++ r :: post) s0).1 t := by
    intro t ht
    rw [hcur]
    have e1 := slot_mrg (fun _ => true) X t pre s0 s0 (fun q hq hd => by
      rcases (hpre q hq).1 with h | ⟨h1, _⟩
      · exact (hanc _ h).symm
      · exact absurd ht (h1 t hd).1) rfl rfl
    have e2 := slot_mrg (fun _ => false) X t post (mrg (fun _ => true) pre s0) (mrg X pre s0) (fun q hq hd => by
      cases hx : X q.p.i with
      | false => rfl
      | true =>
        rcases (hpost q hq).1 with h | ⟨_, h2⟩
        · exact (hnot q hq hx h).elim
        · exact absurd ht (h2 t hd)) (by rw [mrg_len, mrg_len]) e1
    rwa [mrg_none] at e2
  refine ⟨⟨h.1.congr slots, fun x hx => ?_⟩, ?_⟩
  · have h1 := (h.2 x hx).congr (tm' := getT (mrg X (pre ++ r :: post) s0).1) fun t ht => slots t (slots_operand ht)
    have : restr r.D (mrg (fun _ => true) pre s0).2 = restr r.D (mrg X (pre ++ r :: post) s0).2 := by
      funext o
      unfold restr
      split
      · rename_i hD
        have hD' : o ∈ r.D := by simpa using hD
        rw [hcur]
        have e1 := ob_mrg (fun _ => true) X o pre s0 s0 (fun q hq hu => by
          rcases (hpre q hq).2 with h | ⟨h1, _⟩ | h | h
          · exact (hanc _ h).symm
          · exact absurd hD' (h1 o hu)
          · rw [hx] at h; cases h
          · rw [Rec.none_u h] at hu; simp at hu) rfl
        have e2 := ob_mrg (fun _ => false) X o post (mrg (fun _ => true) pre s0) (mrg X pre s0) (fun q hq hu => by
          cases hxx : X q.p.i with
          | false => rfl
          | true =>
            rcases (hpost q hq).2 with h | ⟨_, _, h3⟩ | h | h
            · exact (hnot q hq hxx h).elim
            · exact absurd hD' (h3 o hu)
            · rw [Rec.none_u h] at hu; simp at hu
            · rw [hx] at h; cases h) e1
        rwa [mrg_none] at e2
      · rfl
    rwa [this] at h1
  · have e1 : mrg (fun j => X j || j == r.p.i) (pre ++ r :: post) s0 = mrg (fun j => X j || j == r.p.i) post (eff r (mrg (fun j => X j || j == r.p.i) pre s0)) := by
      rw [mrg_append]; simp [mrg]
    rw [e1, mrg_congr (fun j => X j || j == r.p.i) X pre s0 (fun q hq => by simp [ipre q hq]), mrg_congr (fun j => X j || j == r.p.i) X post _ (fun q hq => by simp [ipost q hq]), hcur]
    refine (mrg_eff X r post _ fun q hq hx => ?_).symm
    refine ⟨fun d hd hr => ?_, ?_⟩
    · rcases (hpost q hq).1 with h | ⟨h1, _⟩
      · exact (hnot q hq hx h).elim
      · exact (h1 d hr).2 hd
    · rcases (hpost q hq).2 with h | ⟨_, h2, _⟩ | h | h
      · exact (hnot q hq hx h).elim
      · intro o h1 h3; exact h2 o h3 h1
      · intro o h1; rw [Rec.none_u h] at h1; simp at h1
      · intro o _ h1; rw [Rec.none_u h] at h1; simp at h1

/-! ### What comes before what -/
theorem prep_at : ∀ (os : List Oper) (i : Nat) (ms : List Nat) (t : Nat) (p : POp), (prepFrom i ms os)[t]? = some p → p.i = i + t ∧ os[t]? = some p.o
  | [], i, ms, t, p, h => by simp [prepFrom] at h
  | o :: os, i, ms, 0, p, h => by simp [prepFrom] at h; subst h; simp
  | o :: os, i, ms, t + 1, p, h => by
    simp only [prepFrom, List.getElem?_cons_succ] at h
    obtain ⟨h1, h2⟩ := prep_at os (i + 1) _ t p h
    exact ⟨by omega, by simpa using h2⟩
theorem prep_length : ∀ (os : List Oper) (i : Nat) (ms : List Nat), (prepFrom i ms os).length = os.length
  | [], i, ms => rfl
  | o :: os, i, ms => by simp [prepFrom, prep_length os]
theorem anc_bit : ∀ (ms : List Nat) (es : List Edge) (j : Nat), (ancOf ms es).testBit j = true → ∃ e ∈ es, bindsAny e = true ∧ (e.on = j ∨ (ms.getD e.on 0).testBit j = true)
  | ms, [], j, h => by simp [ancOf] at h
  | ms, e :: es, j, h => by
    simp only [ancOf] at h
    split at h
    · rename_i hb
      simp only [Nat.testBit_or, Bool.or_eq_true] at h
      rcases h with (h | h) | h
      · refine ⟨e, by simp, hb, .inl ?_⟩
        simpa [Nat.testBit_two_pow] using h
      · exact ⟨e, by simp, hb, .inr h⟩
      · obtain ⟨e', h1, h2⟩ := anc_bit ms es j h
        exact ⟨e', by simp [h1], h2⟩
    · obtain ⟨e', h1, h2⟩ := anc_bit ms es j h
      exact ⟨e', by simp [h1], h2⟩
/-- All that comes before an operation is before one that it follows at once, or is that one. -/
theorem prep_anc : ∀ (os : List Oper) (i : Nat) (ms : List Nat) (t : Nat) (p : POp), ms.length = i → (prepFrom i ms os)[t]? = some p →
    ∃ ms', ms'.length = i + t ∧ p.anc = ancOf ms' p.o.after.toList ∧ (∀ j, j < i → ms'[j]? = ms[j]?) ∧ ∀ t', t' < t → ∃ p', (prepFrom i ms os)[t']? = some p' ∧ ms'[i + t']? = some p'.anc
  | [], i, ms, t, p, hl, h => by simp [prepFrom] at h
  | o :: os, i, ms, 0, p, hl, h => by
    simp [prepFrom] at h
    subst h
    exact ⟨ms, hl, rfl, fun _ _ => rfl, fun t' h => by omega⟩
  | o :: os, i, ms, t + 1, p, hl, h => by
    simp only [prepFrom, List.getElem?_cons_succ] at h
    obtain ⟨ms', h1, h2, h3, h4⟩ := prep_anc os (i + 1) (ms ++ [ancOf ms o.after.toList]) t p (by simp [hl]) h
    refine ⟨ms', by omega, h2, fun j hj => ?_, fun t' ht' => ?_⟩
    · rw [h3 j (by omega), List.getElem?_append_left (by omega)]
    · cases t' with
      | zero =>
        refine ⟨⟨i, o, ancOf ms o.after.toList⟩, by simp [prepFrom], ?_⟩
        rw [Nat.add_zero, h3 i (by omega), List.getElem?_append_right (by omega)]
        simp [hl]
      | succ t' =>
        obtain ⟨p', g1, g2⟩ := h4 t' (by omega)
        refine ⟨p', by simpa [prepFrom] using g1, ?_⟩
        have : i + (t' + 1) = i + 1 + t' := by omega
        rw [this]; exact g2
theorem back_at : ∀ (os : List Oper) (i : Nat), backOk i os = true → ∀ (t : Nat) (o : Oper), os[t]? = some o → ∀ e ∈ o.after.toList, bindsAny e = true → e.on < i + t
  | [], i, _, t, o, h => by simp at h
  | o0 :: os, i, h, t, o, ht => by
    simp only [backOk, Bool.and_eq_true, List.all_eq_true] at h
    intro e he hb
    cases t with
    | zero =>
      simp at ht; subst ht
      have := h.1 e he
      simp [hb] at this
      omega
    | succ t =>
      have := back_at os (i + 1) h.2 t o (by simpa using ht) e he hb
      omega
end Go.Proofs.Ytkjnijddbiconaa.Ev
