/- Stores, new objects, append, make: the evaluator says what the model does. -/
import Derived.Test.YtkjnijddbiconaaEv4
namespace Go.Proofs.Ytkjnijddbiconaa.Ev
open Go
set_option linter.unusedVariables false
set_option linter.unusedSimpArgs false
variable {P : Program} {E : Env} {S : Sb} {σ : Sg} {l : List AV} {a : Act} {ob : Ob} {w : World}

/-- The blocks of the own objects. -/
def own (σ : Sg) (ob : Ob) (b : Nat) : Prop := ∃ o x k, ob o = some x ∧ σ o = some k ∧ k.real = true ∧ k.b = b
/-- What an operation has come to. -/
structure Does (S : Sb) (σ : Sg) (ob : Ob) (w : World) (nb : Nat) (v : AV) (u : List (Nat × Option AO)) (v' : Value) (w' : World) (σ' : Sg) : Prop where
  r : R S σ' v v'
  oi : OI S σ' (updF ob u) w'
  ext : ∀ o k, σ o = some k → σ' o = some k
  new : ∀ o, σ' o ≠ none → σ o ≠ none ∨ (nb ≤ o ∧ o < nb + 1000)
  tl : Tail w w'
  fr : ∀ b, b < w.heap.size → ¬ own σ ob b → w'.heap[b]? = w.heap[b]?
  src : ∀ b, own σ' (updF ob u) b → own σ ob b ∨ w.heap.size ≤ b
theorem Does.pure (oi : OI S σ ob w) (nb : Nat) {v : AV} {v' : Value} (r : R S σ v v') : Does S σ ob w nb v [] v' w σ := ⟨r, oi, fun _ _ h => h, fun _ h => .inl h, .refl w, fun _ _ _ => rfl, fun _ h => .inl h⟩

theorem objOK.at {w w' : World} {σ' : Sg} {k : Bk} {x : AO} (h : objOK S σ w k x) (hσ : ∀ o k, σ o = some k → σ' o = some k) (hw : k.real = true → w'.heap[k.b]? = w.heap[k.b]?) : objOK S σ' w' k x := by
  cases x with
  | row cs xs =>
    obtain ⟨h1, h2, h3⟩ := h
    exact ⟨h1, h2, fun hr => by rw [hw hr]; exact h3 hr⟩
  | box us =>
    obtain ⟨h1, cur, e, h2, h3⟩ := h
    exact ⟨h1, cur, e, by rw [hw h1]; exact h2, h3.mono hσ fun _ _ h => h⟩
theorem objOK.lt {k : Bk} {x : AO} (h : objOK S σ w k x) (hr : k.real = true) : k.b < w.heap.size := by
  cases x with
  | row cs xs => obtain ⟨_, cur, e, hb, _⟩ := h.2.2 hr; exact (Array.getElem?_eq_some_iff.1 hb).1
  | box us => obtain ⟨_, cur, e, hb, _⟩ := h; exact (Array.getElem?_eq_some_iff.1 hb).1
theorem OI.sub {ob' : Ob} (oi : OI S σ ob w) (h : ∀ o x, ob' o = some x → ob o = some x) : OI S σ ob' w :=
  ⟨fun o x ho => oi.ok o x (h o x ho), fun o o' x x' k k' ho ho' => oi.inj o o' x x' k k' (h _ _ ho) (h _ _ ho'), oi.st, fun o x k ho => oi.sep o x k (h _ _ ho), oi.tab⟩
theorem OI.del (oi : OI S σ ob w) (o : Nat) : OI S σ (fun p => if p = o then none else ob p) w :=
  oi.sub fun p x h => by by_cases e : p = o <;> simp_all
/-- One object put into its place: an old one turned, a new one, or one that has taken another one's block over. -/
theorem OI.put (oi : OI S σ ob w) {nb : Nat} {x : AO} {k : Bk} {w' : World} (hn : σ nb = none ∨ σ nb = some k)
    (hw : ∀ b, b < w.heap.size → (k.real = true → b ≠ k.b) → w'.heap[b]? = w.heap[b]?)
    (hsep : k.real = true → ∀ o x' k', ob o = some x' → o ≠ nb → σ o = some k' → k'.real = true → k'.b ≠ k.b)
    (hS : k.real = true → S k.b = none) (ok : objOK S (fun p => if p = nb then some k else σ p) w' k x) :
    OI S (fun p => if p = nb then some k else σ p) (fun p => if p = nb then some x else ob p) w' := by
  have hσ : ∀ o k', σ o = some k' → (fun p => if p = nb then some k else σ p) o = some k' := by
    intro o k' h
    by_cases e : o = nb
    · subst e; rcases hn with hn | hn <;> simp_all
    · simp [e, h]
  refine ⟨?_, ?_, ?_, ?_, oi.tab⟩
  · intro o y ho
    by_cases e : o = nb
    · subst e; simp at ho; subst ho; exact ⟨k, by simp, ok⟩
    · simp only [e, if_false] at ho ⊢
      obtain ⟨k', hk', hok⟩ := oi.ok o y ho
      exact ⟨k', hk', hok.at hσ fun hr => hw _ (hok.lt hr) fun hr' => hsep hr' o y k' ho e hk' hr⟩
  · intro o o' y y' k1 k2 ho ho' h1 h2 r1 r2 hb
    by_cases e : o = nb <;> by_cases e' : o' = nb
    · rw [e, e']
    · subst e
      have g1 : k = k1 := by simpa using h1
      have g2 : σ o' = some k2 := by simpa [e'] using h2
      have g3 : ob o' = some y' := by simpa [e'] using ho'
      subst g1
      exact absurd hb.symm (hsep r1 o' y' k2 g3 e' g2 r2)
    · subst e'
      have g1 : k = k2 := by simpa using h2
      have g2 : σ o = some k1 := by simpa [e] using h1
      have g3 : ob o = some y := by simpa [e] using ho
      subst g1
      exact absurd hb (hsep r2 o y k1 g3 e g2 r1)
    · have g2 : σ o = some k1 := by simpa [e] using h1
      have g3 : ob o = some y := by simpa [e] using ho
      have g4 : σ o' = some k2 := by simpa [e'] using h2
      have g5 : ob o' = some y' := by simpa [e'] using ho'
      exact oi.inj o o' y y' k1 k2 g3 g5 g2 g4 r1 r2 hb
  · intro b y hb
    have hy := oi.st b y hb
    rw [hw b (Array.getElem?_eq_some_iff.1 hy).1 fun hr e => by rw [e, hS hr] at hb; cases hb]
    exact hy
  · intro o y k1 ho h1 r1
    by_cases e : o = nb
    · subst e; simp at h1; subst h1; exact hS r1
    · simp only [e, if_false] at *
      exact oi.sep o y k1 ho h1 r1
/-- The same where the place keeps its block. -/
theorem OI.set (oi : OI S σ ob w) {o : Nat} {x x' : AO} {k : Bk} {w' : World} (ho : ob o = some x) (hk : σ o = some k) (hr : k.real = true)
    (hw : ∀ b, b < w.heap.size → b ≠ k.b → w'.heap[b]? = w.heap[b]?) (ok : objOK S σ w' k x') : OI S σ (fun p => if p = o then some x' else ob p) w' := by
  have e : (fun p => if p = o then some k else σ p) = σ := by funext p; by_cases h : p = o <;> simp [h, hk]
  have := oi.put (nb := o) (x := x') (k := k) (w' := w') (.inr hk) (fun b h h' => hw b h (h' hr))
    (fun _ p y k' hp hne hk' hr' hb => hne (oi.inj p o y x k' k hp ho hk' hk hr' hr hb)) (fun _ => oi.sep o x k ho hk hr) (by rw [e]; exact ok)
  rwa [e] at this
/-- A new block. -/
theorem OI.fresh (oi : OI S σ ob w) {nb : Nat} {x : AO} {k : Bk} {cur : Array Value} {e : TypeId} (hn : σ nb = none) (hk : k.b = w.heap.size)
    (ok : objOK S (fun p => if p = nb then some k else σ p) (w.alloc (.cells cur e)) k x) :
    OI S (fun p => if p = nb then some k else σ p) (fun p => if p = nb then some x else ob p) (w.alloc (.cells cur e)) := by
  refine oi.put (.inl hn) (fun b hb _ => heap_alloc_old w _ hb) (fun _ o y k' ho _ hk' hr hb => ?_) (fun _ => ?_) ok
  · obtain ⟨k'', hk'', hok⟩ := oi.ok o y ho
    rw [hk'] at hk''
    obtain rfl := Option.some.inj hk''
    have := hok.lt hr
    omega
  · cases hS : S k.b with
    | none => rfl
    | some y => have := (Array.getElem?_eq_some_iff.1 (oi.st _ _ hS)).1; omega
theorem Tail.alloc (w : World) (o : Obj) : Tail w (w.alloc o) := ⟨rfl, rfl, rfl, by simp⟩
theorem Tail.setRow (w : World) (g : Nat) (cs : Array Value) : Tail w (w.setRow g cs) := ⟨rfl, rfl, rfl, by simp⟩
theorem Tail.drew (w : World) : Tail w w.drew := ⟨rfl, rfl, rfl, Nat.le_refl _⟩
theorem ext_put {nb : Nat} {k : Bk} (hn : σ nb = none ∨ σ nb = some k) : ∀ o k', σ o = some k' → (fun p => if p = nb then some k else σ p) o = some k' := by
  intro o k' h
  by_cases e : o = nb
  · subst e; rcases hn with hn | hn <;> simp_all
  · simp [e, h]
theorem new_put {nb : Nat} {k : Bk} : ∀ o, (fun p => if p = nb then some k else σ p) o ≠ none → σ o ≠ none ∨ (nb ≤ o ∧ o < nb + 1000) := by
  intro o h
  by_cases e : o = nb
  · subst e; right; omega
  · left; simpa [e] using h

theorem own_put {nb : Nat} {k : Bk} {x : AO} : ∀ b, own (fun p => if p = nb then some k else σ p) (fun p => if p = nb then some x else ob p) b → own σ ob b ∨ (k.real = true ∧ k.b = b) := by
  rintro b ⟨p, y, k', hp, hk, hr, hb⟩
  by_cases e : p = nb
  · subst e; simp at hk; subst hk; exact .inr ⟨hr, hb⟩
  · simp [e] at hp hk; exact .inl ⟨p, y, k', hp, hk, hr, hb⟩
theorem own_sub {ob' : Ob} (h : ∀ o x, ob' o = some x → ob o = some x) {b : Nat} (hb : own σ ob' b) : own σ ob b := by
  obtain ⟨o, x, k, ho, hk, hr, hb⟩ := hb
  exact ⟨o, x, k, h o x ho, hk, hr, hb⟩
theorem own_lt (oi : OI S σ ob w) {b : Nat} (h : own σ ob b) : b < w.heap.size := by
  obtain ⟨o, x, k, ho, hk, hr, rfl⟩ := h
  obtain ⟨k', hk', ok⟩ := oi.ok o x ho
  rw [hk] at hk'
  obtain rfl := Option.some.inj hk'
  exact ok.lt hr
/-- A new object in a new block. -/
theorem Does.alloc (oi : OI S σ ob w) {nb : Nat} {x : AO} {k : Bk} {cur : Array Value} {e : TypeId} (hn : σ nb = none) (hk : k.b = w.heap.size) {v : AV} {v' : Value}
    (r : R S (fun p => if p = nb then some k else σ p) v v') (ok : objOK S (fun p => if p = nb then some k else σ p) (w.alloc (.cells cur e)) k x) :
    Does S σ ob w nb v [(nb, some x)] v' (w.alloc (.cells cur e)) (fun p => if p = nb then some k else σ p) :=
  ⟨r, oi.fresh hn hk ok, ext_put (.inl hn), new_put, .alloc _ _, fun b hb _ => heap_alloc_old w _ hb, fun b h => (own_put b h).imp id fun h => by omega⟩

/-! ### What a value's cells are -/
theorem one_cell {a : AV} {v : Value} (h : one a = true) (r : R S σ a v) : v.oneCell' = true := by
  cases r <;> first | rfl | (simp [one] at h; done) | skip
  · cases v <;> first | rfl | (simp [one] at h; done)
theorem oneCell_cells {v : Value} (h : v.oneCell' = true) : v.cells = #[v] := by cases v <;> first | rfl | (simp [Value.oneCell'] at h; done)
theorem allOne_cells : ∀ {us : List AV} {vs : List Value}, allOne us = true → RL S σ us vs → ∀ v ∈ vs, v.oneCell' = true
  | [], vs, _, hl, v, hv => by
    have : vs = [] := List.eq_nil_of_length_eq_zero (by have := hl.1; simpa using this.symm)
    subst this; simp at hv
  | a :: us, vs, h, hl, v, hv => by
    obtain ⟨u, us', rfl, h1, h2⟩ := hl.uncons
    simp [allOne] at h
    rcases List.mem_cons.1 hv with rfl | hv
    · exact one_cell h.1 h1
    · exact allOne_cells h.2 h2 v hv
theorem cellsOf_ok {a : AV} {us : List AV} {v : Value} (h : cellsOf a = some us) (r : R S σ a v) : RL S σ us v.cells.toList ∧ ∀ u ∈ v.cells.toList, u.oneCell' = true := by
  unfold cellsOf at h
  split at h
  · rename_i vs
    split at h
    · rename_i ho
      simp at h; subst h
      cases r with
      | agg _ ws hl hr => exact ⟨⟨hl, hr⟩, allOne_cells ho ⟨hl, hr⟩⟩
    · cases h
  · split at h
    · rename_i ho
      simp at h; subst h
      have hv := one_cell ho r
      rw [oneCell_cells hv]
      exact ⟨.cons r .nil, fun u hu => by simp at hu; subst hu; exact hv⟩
    · cases h
theorem flatAVs_RL : ∀ {us : List AV} {vs ws : List Value}, flatAVs us = some vs → RL S σ us ws → ws = vs
  | [], vs, ws, h, hl => by
    simp [flatAVs] at h; subst h
    exact List.eq_nil_of_length_eq_zero (by have := hl.1; simpa using this.symm)
  | a :: us, vs, ws, h, hl => by
    obtain ⟨u, ws', rfl, h1, h2⟩ := hl.uncons
    simp only [flatAVs] at h
    split at h
    · rename_i v hv
      split at h
      · rename_i vs' hvs
        simp at h; subst h
        rw [flatAVs_RL hvs h2]
        cases a <;> simp [flatAV] at hv
        subst hv
        cases h1
        rfl
      · cases h
    · cases h

/-! ### A store -/
theorem own_set {o : Nat} {x x' : AO} (ho : ob o = some x) : ∀ b, own σ (updF ob [(o, some x')]) b → own σ ob b := by
  rintro b ⟨p, y, k, hp, hk, hr, hb⟩
  by_cases e : p = o
  · subst e; exact ⟨p, x, k, ho, hk, hr, hb⟩
  · simp [updF, e] at hp; exact ⟨p, y, k, hp, hk, hr, hb⟩
theorem take_drop_mid {α : Type} (A O B r vs : List α) (j : Nat) (h : j + vs.length ≤ O.length) :
    (A ++ O ++ B ++ r).take (A.length + j) ++ vs ++ (A ++ O ++ B ++ r).drop (A.length + j + vs.length) = A ++ (O.take j ++ vs ++ O.drop (j + vs.length)) ++ B ++ r := by
  have h1 : (A ++ O ++ B ++ r).take (A.length + j) = A ++ O.take j := by
    rw [List.append_assoc, List.append_assoc, List.take_length_add_append, List.take_append_of_le_length (by omega)]
  have h2 : (A ++ O ++ B ++ r).drop (A.length + j + vs.length) = O.drop (j + vs.length) ++ (B ++ r) := by
    rw [List.append_assoc, List.append_assoc, Nat.add_assoc, List.drop_append, List.drop_eq_nil_of_le (by omega), List.nil_append, Nat.add_sub_cancel_left, List.drop_append_of_le_length (by omega)]
  rw [h1, h2]
  simp [List.append_assoc]
theorem fits_ok : ∀ (cs : List CK) (j : Nat) (vs : List Value) (e : Elem cs), fits cs j vs = true → spliceX j vs (vals cs e) = some (vals cs (putV cs j vs e))
  | [], 0, [], e, _ => rfl
  | c :: cs, 0, [], e, _ => rfl
  | [], 0, v :: vs, e, h => by cases h
  | c :: cs, 0, v :: vs, e, h => by
    unfold fits at h
    split at h
    · rename_i y hy
      have ih := fits_ok cs 0 vs e.2 h
      show spliceX 0 (v :: vs) (c.val e.1 :: vals cs e.2) = some (c.val (match c.ofVal v with | some y => y | none => e.1) :: vals cs (putV cs 0 vs e.2))
      have e1 := ofVal_val c v y hy
      simp only [hy, spliceX, ih]
      rw [← e1]
    · cases h
  | c :: cs, j + 1, vs, e, h => by
    have ih := fits_ok cs j vs e.2 (by simpa [fits] using h)
    show spliceX (j + 1) vs (c.val e.1 :: vals cs e.2) = some (c.val e.1 :: vals cs (putV cs j vs e.2))
    rw [spliceX, ih]
  | [], j + 1, vs, e, h => by simp [fits] at h
theorem write_row (oi : OI S σ ob w) {ns : List AV} {o i j : Nat} {cs : List CK} {es : List (Elem cs)} (ho : ob o = some (.row cs es)) {vs ws : List Value} {e : Elem cs} (hvs : flatAVs ns = some vs)
    (hws : spliceX j vs (vals cs (es.getD i (edflt cs))) = some ws) (hev : ws = vals cs e) {v : Value} (r : R S σ (.oel o i j) v) {xs : List Value} (hl : RL S σ ns xs) (h1 : ∀ x ∈ xs, x.oneCell' = true) :
    ∃ ad w', v = .pointer (some ad) ∧ (storeCells ad xs).run P w = .ok () w' ∧ OI S σ (updF ob [(o, some (.row cs (es.set i e)))]) w' ∧ Tail w w' ∧ (∀ b, b < w.heap.size → ¬ own σ ob b → w'.heap[b]? = w.heap[b]?) ∧
      (∀ b, own σ (updF ob [(o, some (.row cs (es.set i e)))]) b → own σ ob b) := by
  obtain rfl := flatAVs_RL hvs hl
  obtain ⟨hn, hws'⟩ := spliceX_eq _ _ _ _ hws
  cases r with
  | oel _ _ _ k hk hr hi =>
    obtain ⟨k', hk', ok⟩ := oi.ok o _ ho
    rw [hk] at hk'
    obtain rfl := Option.some.inj hk'
    obtain ⟨hx, _, hreal⟩ := ok
    obtain ⟨hm, cur, et, hb, hsz, ht⟩ := hreal hr
    have hi' : i < es.length := by omega
    have hfl := flat_length cs es
    have hcs : (flat cs es).length ≤ cur.size := by
      have := congrArg List.length ht
      simp at this
      omega
    -- the block's cells, in pieces
    have hO : ((flat cs es).drop (i * cs.length)).take cs.length = vals cs (es.getD i (edflt cs)) := flat_at cs es i hi'
    have hpieces : flat cs es = (flat cs es).take (i * cs.length) ++ vals cs (es.getD i (edflt cs)) ++ (flat cs es).drop ((i + 1) * cs.length) := by
      rw [← hO, Nat.add_mul, Nat.one_mul, ← List.drop_drop, List.append_assoc, List.take_append_drop, List.take_append_drop]
    have hcur : cur.toList = (flat cs es).take (i * cs.length) ++ vals cs (es.getD i (edflt cs)) ++ (flat cs es).drop ((i + 1) * cs.length) ++ cur.toList.drop (flat cs es).length := by
      rw [← hpieces]
      conv => lhs; rw [← List.take_append_drop (flat cs es).length cur.toList, ht]
    have hA : ((flat cs es).take (i * cs.length)).length = i * cs.length := by
      rw [List.length_take, hfl]
      exact Nat.min_eq_left (Nat.mul_le_mul_right _ (Nat.le_of_lt hi'))
    have hval : (vals cs (es.getD i (edflt cs))).length = cs.length := vals_length _ _
    have hfit : i * k.m + j + xs.length ≤ cur.size := by
      have : (i + 1) * cs.length ≤ es.length * cs.length := Nat.mul_le_mul_right _ hi'
      rw [Nat.add_mul] at this
      rw [← hm]
      omega
    have hrun := run_storeCells_at (P := P) k.b (i * k.m + j) et xs 0 cur w hb (by simpa using hfit) h1
    simp only [Nat.add_zero] at hrun
    refine ⟨_, _, rfl, hrun, ?_, .setRow _ _ _, fun b _ hno => setRow_other w k.b b _ fun e => hno ⟨o, _, k, ho, hk, hr, e.symm⟩, own_set ho⟩
    have hnew : cur.toList.take (i * k.m + j) ++ xs ++ cur.toList.drop (i * k.m + j + xs.length) = flat cs (es.set i e) ++ cur.toList.drop (flat cs es).length := by
      rw [flat_set cs es i e hi', ← hev, hws', hcur, ← hm]
      have := take_drop_mid ((flat cs es).take (i * cs.length)) (vals cs (es.getD i (edflt cs))) ((flat cs es).drop ((i + 1) * cs.length)) (cur.toList.drop (flat cs es).length) xs j (by omega)
      rw [hA] at this
      rw [← hcur] at this ⊢
      exact this
    refine oi.set ho hk hr (fun b _ hne => setRow_other w k.b b _ hne) ⟨by simpa using hx, fun hf => by simp [hr] at hf, fun _ => ⟨hm, _, et, setRow_heap w k.b cur _ et _ hb, ?_, ?_⟩⟩
    · rw [hnew, ← hsz]
      have hl1 := flat_length cs (es.set i e)
      rw [List.length_set] at hl1
      simp
      rw [hl1, ← hfl]
      omega
    · simp only [List.toList_toArray]
      rw [hnew]
      exact List.take_left
theorem writeAt_ok (oi : OI S σ ob w) {ns : List AV} {av : AV} {u : List (Nat × Option AO)} (h : writeAt ob ns av = some u) {v : Value} (r : R S σ av v) {xs : List Value} (hl : RL S σ ns xs)
    (h1 : ∀ x ∈ xs, x.oneCell' = true) : ∃ ad w', v = .pointer (some ad) ∧ (storeCells ad xs).run P w = .ok () w' ∧ OI S σ (updF ob u) w' ∧ Tail w w' ∧ (∀ b, b < w.heap.size → ¬ own σ ob b → w'.heap[b]? = w.heap[b]?) ∧
      (∀ b, own σ (updF ob u) b → own σ ob b) := by
  unfold writeAt at h
  split at h
  · rename_i o j
    split at h
    · rename_i us ho
      split at h
      · rename_i us' hs
        simp at h; subst h
        obtain ⟨hn, rfl⟩ := spliceX_eq _ _ _ _ hs
        cases r with
        | ptr _ _ k hk hr =>
          obtain ⟨k', hk', ok⟩ := oi.ok o _ ho
          rw [hk] at hk'
          obtain rfl := Option.some.inj hk'
          obtain ⟨_, cur, e, hb, hc⟩ := ok
          have hlen := hl.1
          have hcl := hc.1
          have hrun := run_storeCells_at (P := P) k.b j e xs 0 cur w hb (by simp at hcl; omega) h1
          simp only [Nat.add_zero] at hrun
          refine ⟨_, _, rfl, hrun, ?_, .setRow _ _ _, fun b _ hno => setRow_other w k.b b _ fun e => hno ⟨o, _, k, ho, hk, hr, e.symm⟩, own_set ho⟩
          refine oi.set ho hk hr (fun b _ hne => setRow_other w k.b b _ hne) ⟨hr, _, e, setRow_heap w k.b cur _ e _ hb, ?_⟩
          have := (hc.take j).append (hl.append (hc.drop (j + ns.length)))
          rw [hlen] at this
          simpa [List.append_assoc, hlen] using this
      · cases h
    · cases h
  · rename_i o i j
    split at h
    · rename_i cs es ho
      split at h
      · rename_i vs hvs
        split at h
        · split at h
          · rename_i hf
            simp at h; subst h
            exact write_row (P := P) oi ho hvs (fits_ok cs j vs _ hf) rfl r hl h1
          · cases h
        · split at h
          · rename_i ws hws
            split at h
            · rename_i e he
              simp at h; subst h
              exact write_row (P := P) oi ho hvs hws (ofVals_vals cs ws e he) r hl h1
            · cases h
          · cases h
      · cases h
    · cases h
  · cases h
/-- A store. -/
theorem store_ok (oi : OI S σ ob w) {t : Nat} {ti : TI} (row : RowOK P t ti) {av xv : AV} {ns : List AV} {u : List (Nat × Option AO)} (hx : cellsOf xv = some ns) (hn : ns.length = ti.size)
    (h : writeAt ob ns av = some u) {v x : Value} (hv : R S σ av v) (hxv : R S σ xv x) (nb : Nat) : ∃ w', (Instr.storeAt t v x).run P w = .ok () w' ∧ Does S σ ob w nb (.val undef) u undef w' σ := by
  obtain ⟨hl, h1⟩ := cellsOf_ok hx hxv
  obtain ⟨ad, w', rfl, hr, hoi, htl, hfr, hsrc⟩ := writeAt_ok (P := P) oi h hv hl h1
  have hsz : x.cells.size = ti.size := by have := hl.1; simp at this; omega
  exact ⟨w', by simp [Instr.storeAt, Instr.sureAddr, storeVar, row.sizeOf w, hsz, hr], .val _, hoi, fun _ _ h => h, fun _ h => .inl h, htl, hfr, fun b h => .inl (hsrc b h)⟩
end Go.Proofs.Ytkjnijddbiconaa.Ev
