/- What abstract values and states say of the model's values and worlds; first laws. -/
import Derived.Test.YtkjnijddbiconaaEv2
import Derived.Test.YtkjnijddbiconaaEv0
import Derived.WalkKit
import Derived.Laws.Append
import Derived.Laws.CopyRow
namespace Go.Proofs.Ytkjnijddbiconaa.Ev
open Go
set_option linter.unusedVariables false
set_option linter.unusedSimpArgs false

/-! ### Blocks -/
structure Bk where
  b : Nat
  n : Nat
  m : Nat
  sz : Nat
  real : Bool
abbrev Sg := Nat → Option Bk
/-- What stands throughout, and the part of it that values may lead into. -/
structure Sb where
  f : Nat → Option Obj
  g : Nat → Option Obj
  sub : ∀ b x, g b = some x → f b = some x
instance : CoeFun Sb fun _ => Nat → Option Obj := ⟨Sb.f⟩
/-- All that a world holds. -/
def SH (w : World) : Sb := ⟨fun b => w.heap[b]?, fun b => w.heap[b]?, fun _ _ h => h⟩
def cellS (S : Sb) (a : Addr) : Option Value :=
  match S.g a.block with
  | some (.cells c _ _) => if a.spot.isSome then none else c[a.off]?
  | _ => none
inductive R (S : Sb) (σ : Sg) : AV → Value → Prop
  | val (v : Value) : R S σ (.val v) v
  | junk (v : Value) : R S σ .junk v
  | ifc (t : TypeId) (v : Value) : R S σ .ifc (.iface t v)
  | nsl (cs : List CK) : R S σ (.nsl cs) (.slice none 0 0)
  | rsl (cs : List CK) (xs : List (Elem cs)) (A : Option Addr) (c : Nat) (hc : xs.length ≤ c)
      (h : ∀ j u, (flat cs xs)[j]? = some u → ∃ a, A = some a ∧ cellS S (a.add j) = some u) : R S σ (.rsl cs xs) (.slice A xs.length c)
  | rel (us : List Value) (a : Addr) (h : ∀ j u, us[j]? = some u → cellS S (a.add j) = some u) : R S σ (.rel us) (.pointer (some a))
  | rpt (us : List AV) (vs : List Value) (a : Addr) (hl : us.length = vs.length) (h : ∀ (j : Nat) u v, us[j]? = some u → vs[j]? = some v → R S σ u v)
      (hv : ∀ (j : Nat) v, vs[j]? = some v → cellS S (a.add j) = some v) : R S σ (.rpt us) (.pointer (some a))
  | ows (o : Nat) (k : Bk) (cap : Nat) (hk : σ o = some k) (hr : k.real = true) (h1 : k.n ≤ cap) (h2 : cap * k.m ≤ k.sz) :
      R S σ (.ows o) (.slice (some ⟨k.b, 0, none⟩) k.n cap)
  | ows0 (o : Nat) (k : Bk) (x : Option Addr) (hk : σ o = some k) (hr : k.real = false) (hn : k.n = 0) : R S σ (.ows o) (.slice x 0 0)
  | osl (o lo n : Nat) (k : Bk) (cap : Nat) (hk : σ o = some k) (hr : k.real = true) (h0 : lo + n ≤ k.n) (h1 : n ≤ cap) (h2 : (lo + cap) * k.m ≤ k.sz) :
      R S σ (.osl o lo n) (.slice (some ⟨k.b, lo * k.m, none⟩) n cap)
  | osl0 (o lo : Nat) (k : Bk) (x : Option Addr) (hk : σ o = some k) (h0 : lo ≤ k.n) : R S σ (.osl o lo 0) (.slice x 0 0)
  | oel (o i j : Nat) (k : Bk) (hk : σ o = some k) (hr : k.real = true) (h : i < k.n) : R S σ (.oel o i j) (.pointer (some ⟨k.b, i * k.m + j, none⟩))
  | ptr (o j : Nat) (k : Bk) (hk : σ o = some k) (hr : k.real = true) : R S σ (.ptr o j) (.pointer (some ⟨k.b, j, none⟩))
  | bsl (o j : Nat) (cs : List CK) (n : Nat) (k : Bk) (c : Nat) (hk : σ o = some k) (hr : k.real = true) (hc : n ≤ c) : R S σ (.bsl o j cs n) (.slice (some ⟨k.b, j, none⟩) n c)
  | agg (us : List AV) (vs : List Value) (hl : us.length = vs.length) (h : ∀ (j : Nat) u v, us[j]? = some u → vs[j]? = some v → R S σ u v) : R S σ (.agg us) (.agg vs.toArray)
  | fn (f : Nat) (us : List AV) (vs : List Value) (hl : us.length = vs.length) (h : ∀ (j : Nat) u v, us[j]? = some u → vs[j]? = some v → R S σ u v) :
      R S σ (.fn f us) (.func (.func f) #[] vs.toArray)
  | tup (us : List AV) (vs : List Value) (hl : us.length = vs.length) (h : ∀ (j : Nat) u v, us[j]? = some u → vs[j]? = some v → R S σ u v) : R S σ (.tup us) (.tuple vs.toArray)
/-- Values one by one. -/
def RL (S : Sb) (σ : Sg) (us : List AV) (vs : List Value) : Prop := us.length = vs.length ∧ ∀ (j : Nat) u v, us[j]? = some u → vs[j]? = some v → R S σ u v

theorem cellS_mono {S S' : Sb} (h : ∀ b x, S.g b = some x → S'.g b = some x) {a : Addr} {v : Value} (hc : cellS S a = some v) : cellS S' a = some v := by
  unfold cellS at *
  split at hc
  · rename_i c e f hb; rw [h _ _ hb]; exact hc
  · cases hc
theorem cellS_world {S : Sb} {w : World} (h : ∀ b x, S b = some x → w.heap[b]? = some x) {a : Addr} {v : Value} (hc : cellS S a = some v) : w.cell? a = some v := by
  unfold cellS at hc
  unfold World.cell?
  split at hc
  · rename_i c e f hb; rw [h _ _ (S.sub _ _ hb)]; exact hc
  · cases hc
theorem R.mono {S S' : Sb} {σ σ' : Sg} {a : AV} {v : Value} (h : R S σ a v) (hσ : ∀ o k, σ o = some k → σ' o = some k) (hS : ∀ b x, S.g b = some x → S'.g b = some x) : R S' σ' a v := by
  induction h with
  | val v => exact .val v
  | junk v => exact .junk v
  | ifc t v => exact .ifc t v
  | nsl cs => exact .nsl cs
  | rsl cs xs A c hc h => exact .rsl cs xs A c hc fun j u hu => let ⟨a, e, h⟩ := h j u hu; ⟨a, e, cellS_mono hS h⟩
  | rel us a h => exact .rel us a fun j u hu => cellS_mono hS (h j u hu)
  | rpt us vs a hl _ hv ih => exact .rpt us vs a hl ih fun j v hj => cellS_mono hS (hv j v hj)
  | ows o k cap hk hr h1 h2 => exact .ows o k cap (hσ _ _ hk) hr h1 h2
  | ows0 o k x hk hr hn => exact .ows0 o k x (hσ _ _ hk) hr hn
  | osl o lo n k cap hk hr h0 h1 h2 => exact .osl o lo n k cap (hσ _ _ hk) hr h0 h1 h2
  | osl0 o lo k x hk h0 => exact .osl0 o lo k x (hσ _ _ hk) h0
  | oel o i j k hk hr h => exact .oel o i j k (hσ _ _ hk) hr h
  | ptr o j k hk hr => exact .ptr o j k (hσ _ _ hk) hr
  | bsl o j cs n k c hk hr hc => exact .bsl o j cs n k c (hσ _ _ hk) hr hc
  | agg us vs hl _ ih => exact .agg us vs hl ih
  | fn f us vs hl _ ih => exact .fn f us vs hl ih
  | tup us vs hl _ ih => exact .tup us vs hl ih
theorem RL.mono {S S' : Sb} {σ σ' : Sg} {us : List AV} {vs : List Value} (h : RL S σ us vs) (hσ : ∀ o k, σ o = some k → σ' o = some k) (hS : ∀ b x, S.g b = some x → S'.g b = some x) : RL S' σ' us vs :=
  ⟨h.1, fun j u v hu hv => (h.2 j u v hu hv).mono hσ hS⟩
theorem RL.nil {S : Sb} {σ : Sg} : RL S σ [] [] := ⟨rfl, fun j u v h _ => by simp at h⟩
theorem RL.cons {S : Sb} {σ : Sg} {a : AV} {v : Value} {us : List AV} {vs : List Value} (h : R S σ a v) (t : RL S σ us vs) : RL S σ (a :: us) (v :: vs) :=
  ⟨by simp [t.1], fun j u w hu hw => by
    cases j with
    | zero => simp at hu hw; subst hu; subst hw; exact h
    | succ j => simp at hu hw; exact t.2 j u w hu hw⟩
theorem RL.uncons {S : Sb} {σ : Sg} {a : AV} {us : List AV} {ws : List Value} (h : RL S σ (a :: us) ws) : ∃ v vs, ws = v :: vs ∧ R S σ a v ∧ RL S σ us vs := by
  cases ws with
  | nil => simp [RL] at h
  | cons v vs => exact ⟨v, vs, rfl, h.2 0 a v rfl rfl, by simpa using h.1, fun j u w hu hw => h.2 (j + 1) u w (by simpa using hu) (by simpa using hw)⟩
theorem RL.append {S : Sb} {σ : Sg} {us us' : List AV} {vs vs' : List Value} (h : RL S σ us vs) (h' : RL S σ us' vs') : RL S σ (us ++ us') (vs ++ vs') := by
  induction us generalizing vs with
  | nil => cases vs with
    | nil => exact h'
    | cons v vs => simp [RL] at h
  | cons a us ih =>
    obtain ⟨v, vs, rfl, h1, h2⟩ := h.uncons
    exact .cons h1 (ih h2)
theorem RL.drop {S : Sb} {σ : Sg} {us : List AV} {vs : List Value} (n : Nat) (h : RL S σ us vs) : RL S σ (us.drop n) (vs.drop n) :=
  ⟨by simp [h.1], fun j u v hu hv => h.2 (n + j) u v (by simpa [List.getElem?_drop] using hu) (by simpa [List.getElem?_drop] using hv)⟩
theorem RL.take {S : Sb} {σ : Sg} {us : List AV} {vs : List Value} (n : Nat) (h : RL S σ us vs) : RL S σ (us.take n) (vs.take n) := by
  refine ⟨by simp [h.1], fun j u v hu hv => ?_⟩
  rw [List.getElem?_take] at hu hv
  split at hu
  · simp_all; exact h.2 j u v hu hv
  · cases hu
theorem RL.vals {S : Sb} {σ : Sg} (vs : List Value) : RL S σ (vs.map .val) vs := by
  refine ⟨by simp, fun j u v hu hv => ?_⟩
  rw [List.getElem?_map, hv] at hu
  simp at hu
  subst hu
  exact .val v

/-! ### Objects -/
def objOK (S : Sb) (σ : Sg) (w : World) (k : Bk) : AO → Prop
  | .row cs xs => xs.length = k.n ∧ (k.real = false → xs = []) ∧
      (k.real = true → cs.length = k.m ∧ ∃ cur e, w.heap[k.b]? = some (.cells cur e (0, 0)) ∧ cur.size = k.sz ∧ cur.toList.take (flat cs xs).length = flat cs xs)
  | .box us => k.real = true ∧ ∃ cur e, w.heap[k.b]? = some (.cells cur e (0, 0)) ∧ RL S σ us cur.toList
/-- Where all that stands lies, the tables that the program's start has laid read as laid. -/
def TabOK (S : Sb) : Prop := ∀ w : World, (∀ b x, S b = some x → w.heap[b]? = some x) → TabW w
theorem TabOK.mono {S S' : Sb} (h : TabOK S) (hS : ∀ b x, S b = some x → S' b = some x) : TabOK S' := fun w hw => h w fun b x hb => hw b x (hS b x hb)
structure OI (S : Sb) (σ : Sg) (ob : Ob) (w : World) : Prop where
  ok : ∀ o x, ob o = some x → ∃ k, σ o = some k ∧ objOK S σ w k x
  inj : ∀ o o' x x' k k', ob o = some x → ob o' = some x' → σ o = some k → σ o' = some k' → k.real = true → k'.real = true → k.b = k'.b → o = o'
  st : ∀ b x, S b = some x → w.heap[b]? = some x
  sep : ∀ o x k, ob o = some x → σ o = some k → k.real = true → S k.b = none
  tab : TabOK S
structure Tail (w w' : World) : Prop where
  os : w'.os = w.os
  tape : w'.tape = w.tape
  output : w'.output = w.output
  size : w.heap.size ≤ w'.heap.size
theorem Tail.refl (w : World) : Tail w w := ⟨rfl, rfl, rfl, Nat.le_refl _⟩
theorem Tail.trans {a b c : World} (h : Tail a b) (k : Tail b c) : Tail a c := ⟨k.os.trans h.os, k.tape.trans h.tape, k.output.trans h.output, Nat.le_trans h.size k.size⟩
/-- A function's own place: what stands, what was handed over, the world at the begin. -/
structure Cx where
  S : Sb
  π : Nat → Option Bk
  w0 : World
structure Inv (C : Cx) (σ : Sg) (st : St) (a : Act) (w : World) : Prop where
  len : a.tmps.size = st.tm.length
  tm : ∀ s v, a.tmps[s]? = some v → R C.S σ (getT st.tm s) v
  oi : OI C.S σ (lookN st.ob) w
  nx : ∀ o, σ o ≠ none → o < st.nx
  ps : ∀ (i o : Nat), st.ps[i]? = some (some o) → ∃ k, σ o = some k ∧ C.π i = some k
  df : a.defers = []
  tl : Tail C.w0 w

theorem getT_none : ∀ (l : List AV) (s : Nat), l.length ≤ s → getT l s = .junk
  | [], _, _ => rfl
  | _ :: _, 0, h => by simp at h
  | _ :: l, s + 1, h => getT_none l s (by simpa using h)
theorem getT_eq : ∀ (l : List AV) (s : Nat) (u : AV), l[s]? = some u → getT l s = u
  | [], _, _, h => by simp at h
  | a :: _, 0, u, h => by simp at h; subst h; rfl
  | _ :: l, s + 1, u, h => getT_eq l s u (by simpa using h)
theorem setT_len : ∀ (l : List AV) (s : Nat) (x : AV), (setT l s x).length = l.length
  | [], _, _ => rfl
  | _ :: _, 0, _ => rfl
  | _ :: l, s + 1, x => by simp [setT, setT_len l s x]
theorem getT_setT : ∀ (l : List AV) (s t : Nat) (x : AV), getT (setT l s x) t = if t = s ∧ s < l.length then x else getT l t
  | [], s, t, x => by simp [setT, getT]
  | a :: l, 0, 0, x => by simp [setT, getT]
  | a :: l, 0, t + 1, x => by simp [setT, getT]
  | a :: l, s + 1, 0, x => by simp [setT, getT]
  | a :: l, s + 1, t + 1, x => by simp [setT, getT, getT_setT l s t x]
theorem setT_getT : ∀ (l : List AV) (s : Nat), setT l s (getT l s) = l
  | [], _ => rfl
  | _ :: _, 0 => rfl
  | a :: l, s + 1 => by simp [setT, getT, setT_getT l s]

/-! ### Tables of objects -/
theorem lookN_putO (l : List (Nat × AO)) (o p : Nat) (x : AO) : lookN (putO l o x) p = if p = o then some x else lookN l p := by
  induction l with
  | nil =>
    by_cases h : p = o
    · subst h; simp [putO, lookN]
    · have : ¬ o = p := fun e => h e.symm
      simp [putO, lookN, h, this]
  | cons a r ih =>
    obtain ⟨q, y⟩ := a
    by_cases hq : q = o
    · subst hq
      by_cases h : p = q
      · subst h; simp [putO, lookN]
      · have : ¬ q = p := fun e => h e.symm
        simp [putO, lookN, h, this]
    · by_cases h : q = p
      · subst h; simp [putO, lookN, hq]
      · simp [putO, lookN, hq, h, ih]
theorem lookN_delO (l : List (Nat × AO)) (o p : Nat) : lookN (delO l o) p = if p = o then none else lookN l p := by
  induction l with
  | nil => simp [delO, lookN]
  | cons a r ih =>
    obtain ⟨q, y⟩ := a
    by_cases hq : q = o
    · subst hq
      by_cases h : p = q
      · subst h; simp [delO, ih]
      · have : ¬ q = p := fun e => h e.symm
        simp [delO, lookN, h, this, ih]
    · by_cases h : q = p
      · subst h; simp [delO, lookN, hq]
      · simp [delO, lookN, hq, h, ih]
/-- The same on functions. -/
def updF : Ob → List (Nat × Option AO) → Ob
  | ob, [] => ob
  | ob, (o, x) :: r => updF (fun p => if p = o then x else ob p) r
theorem lookN_updO : ∀ (u : List (Nat × Option AO)) (l : List (Nat × AO)), lookN (updO l u) = updF (lookN l) u
  | [], l => rfl
  | (o, some x) :: r, l => by
    rw [updO, lookN_updO r, updF]
    congr 1
    funext p
    exact lookN_putO l o p x
  | (o, none) :: r, l => by
    rw [updO, lookN_updO r, updF]
    congr 1
    funext p
    exact lookN_delO l o p
theorem updF_not (u : List (Nat × Option AO)) : ∀ (ob : Ob) (p : Nat), p ∉ u.map (·.1) → updF ob u p = ob p := by
  induction u with
  | nil => intros; rfl
  | cons a r ih =>
    obtain ⟨o, x⟩ := a
    intro ob p h
    simp at h
    rw [updF, ih _ _ (by simpa using h.2), if_neg h.1]
theorem updF_in (u : List (Nat × Option AO)) : ∀ (ob ob' : Ob) (p : Nat), p ∈ u.map (·.1) → updF ob u p = updF ob' u p := by
  induction u with
  | nil => intro _ _ _ h; simp at h
  | cons a r ih =>
    obtain ⟨o, x⟩ := a
    intro ob ob' p h
    rw [updF, updF]
    by_cases hr : p ∈ r.map (·.1)
    · exact ih _ _ p hr
    · rw [updF_not r _ p hr, updF_not r _ p hr]
      simp at h
      rcases h with h | h
      · simp [h]
      · exact absurd (by simpa using h) hr

/-! ### Elements -/
theorem vals_length : ∀ (cs : List CK) (e : Elem cs), (vals cs e).length = cs.length
  | [], _ => rfl
  | c :: cs, e => by simp [vals, vals_length cs e.2]
theorem flat_length (cs : List CK) (xs : List (Elem cs)) : (flat cs xs).length = xs.length * cs.length := by
  induction xs with
  | nil => simp [flat]
  | cons x xs ih =>
    have : (flat cs (x :: xs)).length = (vals cs x).length + (flat cs xs).length := by simp [flat]
    rw [this, vals_length, ih, List.length_cons, Nat.add_mul]
    omega
theorem flat_append (cs : List CK) (xs ys : List (Elem cs)) : flat cs (xs ++ ys) = flat cs xs ++ flat cs ys := by simp [flat]
theorem flat_cons (cs : List CK) (x : Elem cs) (xs : List (Elem cs)) : flat cs (x :: xs) = vals cs x ++ flat cs xs := by simp [flat]
theorem flat_drop (cs : List CK) : ∀ (n : Nat) (xs : List (Elem cs)), flat cs (xs.drop n) = (flat cs xs).drop (n * cs.length)
  | 0, xs => by simp
  | n + 1, [] => by simp [flat]
  | n + 1, x :: xs => by
    rw [List.drop_succ_cons, flat_drop cs n xs, flat_cons, Nat.add_mul, Nat.one_mul, Nat.add_comm, ← List.drop_drop]
    congr 1
    rw [List.drop_append_of_le_length (by rw [vals_length]; omega), List.drop_eq_nil_of_le (by rw [vals_length]; omega)]
    rfl
theorem flat_take (cs : List CK) : ∀ (n : Nat) (xs : List (Elem cs)), flat cs (xs.take n) = (flat cs xs).take (n * cs.length)
  | 0, xs => by simp [flat]
  | n + 1, [] => by simp [flat]
  | n + 1, x :: xs => by
    have hm : (n + 1) * cs.length = (vals cs x).length + n * cs.length := by rw [vals_length, Nat.add_mul]; omega
    rw [List.take_succ_cons, flat_cons, flat_cons, flat_take cs n xs, hm, List.take_length_add_append]
/-- One element among all. -/
theorem flat_at (cs : List CK) (xs : List (Elem cs)) (i : Nat) (h : i < xs.length) : ((flat cs xs).drop (i * cs.length)).take cs.length = vals cs (xs.getD i (edflt cs)) := by
  rw [← flat_drop]
  have : xs.drop i = xs.getD i (edflt cs) :: xs.drop (i + 1) := by
    rw [List.drop_eq_getElem_cons h]
    simp [List.getD_eq_getElem?_getD, h]
  rw [this, flat_cons, List.take_append_of_le_length (by rw [vals_length]; omega), List.take_of_length_le (by rw [vals_length]; omega)]
theorem flat_get (cs : List CK) (xs : List (Elem cs)) (i j : Nat) (h : i < xs.length) (hj : j < cs.length) : (flat cs xs)[i * cs.length + j]? = (vals cs (xs.getD i (edflt cs)))[j]? := by
  have := congrArg (fun l => l[j]?) (flat_at cs xs i h)
  simp only [List.getElem?_take, List.getElem?_drop, hj, if_true] at this
  exact this
theorem ofVal_val (c : CK) (v : Value) (x : c.T) (h : c.ofVal v = some x) : v = c.val x := by
  cases c <;> cases v <;> simp [CK.ofVal] at h
  · obtain ⟨rfl, rfl⟩ := h; rfl
  · subst h; rfl
  · subst h; rfl
theorem ofVals_vals : ∀ (cs : List CK) (vs : List Value) (e : Elem cs), ofVals cs vs = some e → vs = vals cs e
  | [], [], e, _ => rfl
  | [], _ :: _, e, h => by simp [ofVals] at h
  | c :: cs, [], e, h => by simp [ofVals] at h
  | c :: cs, v :: vs, e, h => by
    simp only [ofVals] at h
    split at h
    · rename_i x hx
      split at h
      · rename_i e' he
        simp at h
        subst h
        rw [vals, ofVal_val c v x hx, ofVals_vals cs vs e' he]
      · cases h
    · cases h
theorem flat_set (cs : List CK) (xs : List (Elem cs)) (i : Nat) (e : Elem cs) (h : i < xs.length) :
    flat cs (xs.set i e) = (flat cs xs).take (i * cs.length) ++ vals cs e ++ (flat cs xs).drop ((i + 1) * cs.length) := by
  rw [← flat_take, ← flat_drop]
  have : xs.set i e = xs.take i ++ e :: xs.drop (i + 1) := by
    apply List.ext_getElem?
    intro j
    rw [List.getElem?_set]
    by_cases h1 : i = j
    · subst h1
      simp [h, List.getElem?_append_right (show (xs.take i).length ≤ i by rw [List.length_take]; omega), List.length_take, Nat.min_eq_left (Nat.le_of_lt h)]
    · rw [if_neg h1]
      by_cases h2 : j < i
      · rw [List.getElem?_append_left (by simp; omega), List.getElem?_take, if_pos h2]
      · have : j = i + 1 + (j - i - 1) := by omega
        rw [List.getElem?_append_right (by rw [List.length_take]; omega)]
        simp only [List.length_take, Nat.min_eq_left (Nat.le_of_lt h)]
        rw [show j - i = (j - i - 1) + 1 by omega, List.getElem?_cons_succ, List.getElem?_drop]
        congr 1
  rw [this, flat_append, flat_cons, List.append_assoc]
end Go.Proofs.Ytkjnijddbiconaa.Ev
