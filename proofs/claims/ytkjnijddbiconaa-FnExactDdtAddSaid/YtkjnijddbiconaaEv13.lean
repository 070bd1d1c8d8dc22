/- A call: from what the function promises to what the caller has. -/
import Derived.Test.YtkjnijddbiconaaEv12
namespace Go.Proofs.Ytkjnijddbiconaa.Ev
open Go
set_option linter.unusedVariables false
set_option linter.unusedSimpArgs false
variable {P : Program} {E : Env} {S : Sb} {σ : Sg} {l : List AV} {a : Act} {ob : Ob} {w : World}

/-- The function comes back with R, by the machine or by one step. -/
def Goes (P : Program) (f : FuncId) (vs : Array Value) (w : World) (R : Value → World → Prop) : Prop :=
  ∀ (o : Oper) (a : Act) (K : Act → World → Prop) (Q : Exit → Act → World → Prop), (∀ v w', R v w' → K (a.put o.dst v) w') → o.upon P a K Q ((callFunc f vs).run P w)
/-- What a function promises for arguments of this form. -/
def Ctr (P : Program) (f : FuncId) (args : List AV) (obs : List AO) (r : Res) : Prop :=
  ∀ (S : Sb) (π : Sg) (w : World) (vs : List Value), RL S π args vs → OI S π (lookN (number 0 obs)) w → (∀ q, π q ≠ none → q < obs.length) →
    Goes P f vs.toArray w fun v w' => ∃ σ', R S σ' r.av v ∧ OI S σ' (lookN (number 0 r.obs)) w' ∧ Tail w w' ∧ (∀ q, σ' q ≠ none → q < r.obs.length) ∧ ∀ (i q : Nat), r.outs[i]? = some (some q) → σ' q = π i

theorem lookN_number : ∀ (xs : List AO) (n q : Nat), lookN (number n xs) q = if n ≤ q then xs[q - n]? else none
  | [], n, q => by simp [number, lookN]
  | x :: xs, n, q => by
    simp only [number, lookN, lookN_number xs (n + 1) q]
    by_cases h : n = q
    · subst h; simp
    · by_cases h2 : n + 1 ≤ q
      · have : q - n = (q - (n + 1)) + 1 := by omega
        simp [h, h2, show n ≤ q by omega, this]
      · simp [h, h2, show ¬ n ≤ q by omega]
theorem lookN_num (xs : List AO) (q : Nat) : lookN (number 0 xs) q = xs[q]? := by simp [lookN_number]
theorem ixFrom_ok : ∀ (acc : List Nat) (n o q : Nat), ixFrom n acc o = some q → n ≤ q ∧ acc[q - n]? = some o
  | [], n, o, q, h => by simp [ixFrom] at h
  | a :: acc, n, o, q, h => by
    simp only [ixFrom] at h
    split at h
    · rename_i he
      simp at h he; subst h; subst he; simp
    · obtain ⟨h1, h2⟩ := ixFrom_ok acc (n + 1) o q h
      have : q - n = (q - (n + 1)) + 1 := by omega
      exact ⟨by omega, by rw [this]; simpa using h2⟩
theorem nodupB_ok : ∀ (acc : List Nat), nodupB acc = true → ∀ (i j o : Nat), acc[i]? = some o → acc[j]? = some o → i = j
  | [], _, i, j, o, h, _ => by simp at h
  | a :: acc, hn, i, j, o, hi, hj => by
    simp [nodupB] at hn
    have mem : ∀ (k : Nat), acc[k]? = some a → False := fun k hk => hn.1 (List.mem_of_getElem? hk)
    cases i with
    | zero => cases j with
      | zero => rfl
      | succ j => simp at hi hj; subst hi; exact (mem j hj).elim
    | succ i => cases j with
      | zero => simp at hi hj; subst hj; exact (mem i hi).elim
      | succ j => simp at hi hj; rw [nodupB_ok acc hn.2 i j o hi hj]
theorem getOb_ok : ∀ (acc : List Nat) (os : List AO), getOb ob acc = some os → os.length = acc.length ∧ ∀ (q o : Nat), acc[q]? = some o → ∃ x, os[q]? = some x ∧ ob o = some x
  | [], os, h => by simp [getOb] at h; subst h; exact ⟨rfl, fun q o h => by simp at h⟩
  | a :: acc, os, h => by
    simp only [getOb] at h
    split at h
    · rename_i x hx
      split at h
      · rename_i xs hxs
        simp at h; subst h
        obtain ⟨h1, h2⟩ := getOb_ok acc xs hxs
        refine ⟨by simp [h1], fun q o hq => ?_⟩
        cases q with
        | zero => simp at hq; subst hq; exact ⟨x, rfl, hx⟩
        | succ q => simpa using h2 q o (by simpa using hq)
      · cases h
    · cases h

/-- The objects that are handed over. -/
def only (acc : List Nat) (ob : Ob) : Ob := fun o => if o ∈ acc then ob o else none
open Classical in
/-- All that stands during the call. -/
noncomputable def rest (σ : Sg) (ob : Ob) (w : World) : Nat → Option Obj := fun b => if own σ ob b then none else w.heap[b]?
theorem rest_ext (oi : OI S σ ob w) (acc : List Nat) {b : Nat} {x : Obj} (h : S b = some x) : rest σ (only acc ob) w b = some x := by
  have hno : ¬ own σ (only acc ob) b := by
    rintro ⟨o, y, k, ho, hk, hr, rfl⟩
    simp only [only] at ho
    split at ho
    · rw [oi.sep o y k ho hk hr] at h; cases h
    · cases ho
  simp only [rest, if_neg hno]
  exact oi.st b x h
theorem Sb.eq {S T : Sb} (h1 : S.f = T.f) (h2 : S.g = T.g) : S = T := by cases S; cases T; cases h1; cases h2; rfl
/-- The same, with what may be led into: as before, or all of it. -/
noncomputable def restS (oi : OI S σ ob w) (acc : List Nat) (io : Bool) : Sb := ⟨rest σ (only acc ob) w, match io with | true => S.g | false => rest σ (only acc ob) w, by
  cases io
  · exact fun _ _ h => h
  · exact fun b x h => rest_ext oi acc (S.sub b x h)⟩
theorem rest_extg (oi : OI S σ ob w) (acc : List Nat) (io : Bool) (b : Nat) (x : Obj) (h : S.g b = some x) : (restS oi acc io).g b = some x := by
  cases io
  · exact rest_ext oi acc (S.sub b x h)
  · exact h
def names (σ : Sg) (acc : List Nat) : Sg := fun q => match acc[q]? with
  | some o => σ o
  | none => none
theorem pre_ok (oi : OI S σ ob w) {f : Nat} {az : List AV} {q : Pre} (h : preOf E f az ob = some q) {vs : List Value} (hR : RL S σ az vs) :
    q.f = f ∧ RL (restS oi q.acc (E.io.contains f)) (names σ q.acc) q.args vs ∧ OI (restS oi q.acc (E.io.contains f)) (names σ q.acc) (lookN (number 0 q.obs)) w ∧ q.obs.length = q.acc.length ∧ nodupB q.acc = true ∧
      (∀ (i o : Nat), q.acc[i]? = some o → ∃ x, ob o = some x) := by
  unfold preOf at h
  split at h
  · simp only at h
    split at h
    · rename_i os hnd hos
      simp at h; subst h
      generalize visitL (visit depth ob) [] az = acc at hnd hos
      obtain ⟨hlen, hget⟩ := getOb_ok acc os hos
      have hρ : ∀ o q, ixFrom 0 acc o = some q → names σ acc q = σ o := by
        intro o q hq
        obtain ⟨_, h2⟩ := ixFrom_ok acc 0 o q hq
        simp only [Nat.sub_zero] at h2
        simp [names, h2]
      have at_ : ∀ (q : Nat) (x : AO), (os.map (renO (ixFrom 0 acc)))[q]? = some x → ∃ (o : Nat) (y : AO), acc[q]? = some o ∧ ob o = some y ∧ x = renO (ixFrom 0 acc) y := by
        intro q x hx
        rw [List.getElem?_map] at hx
        cases hy : os[q]? with
        | none => simp [hy] at hx
        | some y =>
          simp [hy] at hx
          have hlt := (List.getElem?_eq_some_iff.1 hy).1
          obtain ⟨o, ho⟩ : ∃ o, acc[q]? = some o := ⟨acc[q], by simp [show q < acc.length by omega]⟩
          obtain ⟨x', h1, h2⟩ := hget q o ho
          rw [hy] at h1
          obtain rfl := Option.some.inj h1
          exact ⟨o, y, ho, h2, hx.symm⟩
      refine ⟨rfl, ?_, ?_, by simp [hlen], hnd, fun i o hi => let ⟨x, _, h⟩ := hget i o hi; ⟨x, h⟩⟩
      · exact (renL_RL (fun a v => ren_R hρ depth a v) hR).mono (fun _ _ h => h) (rest_extg oi acc _)
      · refine ⟨?_, ?_, ?_, ?_, oi.tab.mono fun b x hb => rest_ext oi acc hb⟩
        · intro q x hx
          rw [lookN_num] at hx
          obtain ⟨o, y, h1, h2, rfl⟩ := at_ q x hx
          obtain ⟨k, hk, ok⟩ := oi.ok o y h2
          refine ⟨k, by simp [names, h1, hk], ?_⟩
          have := renO_ok hρ ok
          cases y with
          | row cs xs => exact this
          | box us =>
            obtain ⟨g1, cur, e, g2, g3⟩ := this
            exact ⟨g1, cur, e, g2, g3.mono (fun _ _ h => h) (rest_extg oi acc _)⟩
        · intro p p' x x' k k' h1 h2 h3 h4 r1 r2 hb
          rw [lookN_num] at h1 h2
          obtain ⟨o, y, g1, g2, rfl⟩ := at_ p x h1
          obtain ⟨o', y', g1', g2', rfl⟩ := at_ p' x' h2
          simp only [names, g1] at h3
          simp only [names, g1'] at h4
          have := oi.inj o o' y y' k k' g2 g2' h3 h4 r1 r2 hb
          subst this
          exact nodupB_ok acc hnd p p' o g1 g1'
        · intro b x hb
          have hb : rest σ (only acc ob) w b = some x := hb
          simp only [rest] at hb
          split at hb
          · cases hb
          · exact hb
        · intro p x k hp hk hr
          rw [lookN_num] at hp
          obtain ⟨o, y, g1, g2, rfl⟩ := at_ p x hp
          simp only [names, g1] at hk
          have hm : o ∈ acc := List.mem_of_getElem? g1
          have : own σ (only acc ob) k.b := ⟨o, y, k, by simp [only, hm, g2], hk, hr, rfl⟩
          show rest σ (only acc ob) w k.b = none
          simp [rest, this]
    · cases h
  · rename_i hio
    have hio : E.io.contains f = false := by simpa using hio
    rw [hio]
    split at h
    · rename_i as' has
      simp at h; subst h
      have hno : ∀ b, ¬ own σ (only [] ob) b := by
        rintro b ⟨o, y, k, ho, _⟩
        simp [only] at ho
      have hrest : rest σ (only [] ob) w = fun b => w.heap[b]? := by
        funext b
        simp [rest, hno b]
      have hS : restS oi [] false = SH w := Sb.eq hrest hrest
      refine ⟨rfl, ?_, ⟨?_, ?_, ?_, ?_, oi.tab.mono fun b x hb => rest_ext oi [] hb⟩, rfl, rfl, fun i o h => by simp at h⟩
      · show RL (restS oi [] false) _ _ _
        rw [hS]
        exact mapX_RL (fun a b v => ro_R oi depth a b v) has hR
      · intro o x h; simp [number, lookN] at h
      · intro o o' x x' k k' h; simp [number, lookN] at h
      · intro b x h; have h : rest σ (only [] ob) w b = some x := h; rw [hrest] at h; exact h
      · intro o x k h; simp [number, lookN] at h
    · cases h

theorem outAt_ok : ∀ (outs : List (Option Nat)) (acc : List Nat) (q o : Nat), outAt outs acc q = some o → ∃ i : Nat, outs[i]? = some (some q) ∧ acc[i]? = some o
  | [], _, q, o, h => by simp [outAt] at h
  | some p :: outs, [], q, o, h => by simp [outAt] at h
  | none :: outs, [], q, o, h => by simp [outAt] at h
  | some p :: outs, b :: acc, q, o, h => by
    simp only [outAt] at h
    split at h
    · rename_i e
      simp at e h; subst e; subst h
      exact ⟨0, rfl, rfl⟩
    · obtain ⟨i, h1, h2⟩ := outAt_ok outs acc q o h
      exact ⟨i + 1, by simpa using h1, by simpa using h2⟩
  | none :: outs, b :: acc, q, o, h => by
    simp only [outAt] at h
    obtain ⟨i, h1, h2⟩ := outAt_ok outs acc q o h
    exact ⟨i + 1, by simpa using h1, by simpa using h2⟩
theorem outAt_in : ∀ (outs : List (Option Nat)) (acc : List Nat) (i q o : Nat), outs[i]? = some (some q) → acc[i]? = some o → ∃ o', outAt outs acc q = some o'
  | [], _, i, q, o, h, _ => by simp at h
  | _ :: outs, [], i, q, o, _, h => by simp at h
  | some p :: outs, b :: acc, i, q, o, h1, h2 => by
    simp only [outAt]
    split
    · exact ⟨b, rfl⟩
    · rename_i e
      cases i with
      | zero => simp at h1; subst h1; simp at e
      | succ i => exact outAt_in outs acc i q o (by simpa using h1) (by simpa using h2)
  | none :: outs, b :: acc, i, q, o, h1, h2 => by
    simp only [outAt]
    cases i with
    | zero => simp at h1
    | succ i => exact outAt_in outs acc i q o (by simpa using h1) (by simpa using h2)
/-- The numbers of what comes back are different ones. -/
theorem outs_inj : ∀ (outs : List (Option Nat)), nodupB (outs.filterMap id) = true → ∀ (i j q : Nat), outs[i]? = some (some q) → outs[j]? = some (some q) → i = j
  | [], _, i, j, q, h, _ => by simp at h
  | none :: outs, hn, i, j, q, hi, hj => by
    cases i with
    | zero => simp at hi
    | succ i => cases j with
      | zero => simp at hj
      | succ j => rw [outs_inj outs (by simpa using hn) i j q (by simpa using hi) (by simpa using hj)]
  | some p :: outs, hn, i, j, q, hi, hj => by
    simp [nodupB] at hn
    have mem : ∀ (k : Nat), outs[k]? = some (some p) → False := fun k hk => hn.1 (List.mem_of_getElem? hk)
    cases i with
    | zero => cases j with
      | zero => rfl
      | succ j => simp at hi hj; subst hi; exact (mem j hj).elim
    | succ i => cases j with
      | zero => simp at hi hj; subst hj; exact (mem i hi).elim
      | succ j => simp at hi hj; rw [outs_inj outs (by simpa using hn.2) i j q hi hj]
theorem updF_backs (ρ : Nat → Option Nat) (nm : Nat → Nat) : ∀ (xs : List AO) (n : Nat) (ob : Ob) (o : Nat), (o ∉ (backs ρ nm n xs).map (·.1) ∧ updF ob (backs ρ nm n xs) o = ob o) ∨
    ∃ (q : Nat) (x : AO), xs[q]? = some x ∧ o = nm (n + q) ∧ updF ob (backs ρ nm n xs) o = some (renO ρ x)
  | [], n, ob, o => .inl ⟨by simp [backs], rfl⟩
  | x :: xs, n, ob, o => by
    simp only [backs, updF]
    rcases updF_backs ρ nm xs (n + 1) (fun p => if p = nm n then some (renO ρ x) else ob p) o with ⟨hn, h⟩ | ⟨q, y, h1, h2, h3⟩
    · by_cases e : o = nm n
      · right
        refine ⟨0, x, rfl, e, ?_⟩
        rw [h, if_pos e]
      · left
        refine ⟨?_, by rw [h, if_neg e]⟩
        simp only [List.map_cons, List.mem_cons, not_or]
        exact ⟨e, hn⟩
    · right
      exact ⟨q + 1, y, by simpa using h1, by rw [h2]; congr 1; omega, h3⟩
theorem backs_in (ρ : Nat → Option Nat) (nm : Nat → Nat) : ∀ (xs : List AO) (n q : Nat), q < xs.length → nm (n + q) ∈ (backs ρ nm n xs).map (·.1)
  | [], n, q, h => by simp at h
  | x :: xs, n, 0, _ => by simp [backs]
  | x :: xs, n, q + 1, h => by
    have := backs_in ρ nm xs (n + 1) q (by simpa using h)
    simp only [backs, List.map_cons, List.mem_cons]
    right
    have e : n + (q + 1) = n + 1 + q := by omega
    rwa [e]
theorem updF_deadL (outs : List (Option Nat)) : ∀ (acc : List Nat) (ob : Ob) (o : Nat) (x : AO), updF ob (dead outs acc) o = some x → ob o = some x ∧ ∀ (i : Nat), outs[i]? = some none → acc[i]? ≠ some o := by
  induction outs with
  | nil => intro acc ob o x h; exact ⟨by simpa [dead, updF] using h, fun i h => by simp at h⟩
  | cons y outs ih =>
    intro acc ob o x h
    cases acc with
    | nil => cases y <;> exact ⟨by simpa [dead, updF] using h, fun i _ h => by simp at h⟩
    | cons b acc =>
      cases y with
      | none =>
        simp only [dead, updF] at h
        obtain ⟨h1, h2⟩ := ih acc _ o x h
        split at h1
        · cases h1
        · rename_i hne
          refine ⟨h1, fun i g1 g2 => ?_⟩
          cases i with
          | zero => simp at g2; exact hne g2.symm
          | succ i => exact h2 i (by simpa using g1) (by simpa using g2)
      | some q =>
        simp only [dead] at h
        obtain ⟨h1, h2⟩ := ih acc _ o x h
        refine ⟨h1, fun i g1 g2 => ?_⟩
        cases i with
        | zero => simp at g1
        | succ i => exact h2 i (by simpa using g1) (by simpa using g2)
theorem updF_app (u u' : List (Nat × Option AO)) (ob : Ob) : updF ob (u ++ u') = updF (updF ob u) u' := updF_append u u' ob
/-- What the caller has then. -/
theorem post_ok (oi : OI S σ ob w) {q : Pre} (hlen : q.obs.length = q.acc.length) (hnd : nodupB q.acc = true) (hob : ∀ (i o : Nat), q.acc[i]? = some o → ∃ x, ob o = some x) {nb : Nat} (hfr : ∀ o, nb ≤ o → o < nb + 1000 → σ o = none)
    {io : Bool} {r : Res} {v : AV} {u : List (Nat × Option AO)} (h : postOf io nb q r = some (v, u)) {v' : Value} {w' : World} {σ1 : Sg} (h1 : R (restS oi q.acc io) σ1 r.av v') (h2 : OI (restS oi q.acc io) σ1 (lookN (number 0 r.obs)) w') (h3 : Tail w w')
    (h4 : ∀ q, σ1 q ≠ none → q < r.obs.length) (h5 : ∀ (i p : Nat), r.outs[i]? = some (some p) → σ1 p = names σ q.acc i) : ∃ σ', Does S σ ob w nb v u v' w' σ' := by
  unfold postOf at h
  split at h
  · rename_i hc
    simp at h
    obtain ⟨rfl, rfl⟩ := h
    simp only [Bool.and_eq_true, Nat.blt_eq, Nat.beq_eq, List.all_eq_true] at hc
    obtain ⟨⟨⟨hc12, hc3⟩, hc4⟩, hc5⟩ := hc
    have hR1 : R S σ1 r.av v' := by
      cases io with
      | true => exact h1.mono (fun _ _ h => h) fun b x h => h
      | false =>
        simp only [Bool.false_or, Bool.and_eq_true, List.all_eq_true] at hc12
        exact noMem_R (S := S) depth _ _ hc12.1 h1
    have hO1 : ∀ (y : AO) (k : Bk), y ∈ r.obs → objOK (restS oi q.acc io) σ1 w' k y → objOK S σ1 w' k y := by
      intro y k hy ok
      cases io with
      | true =>
        cases y with
        | row cs xs => exact ok
        | box us =>
          obtain ⟨g1, cur, e, g2, g3⟩ := ok
          exact ⟨g1, cur, e, g2, g3.mono (fun _ _ h => h) fun b x h => h⟩
      | false =>
        simp only [Bool.false_or, Bool.and_eq_true, List.all_eq_true] at hc12
        exact noMemO_ok (hc12.2 y hy) ok
    generalize hnm : (fun p => (outAt r.outs q.acc p).getD (nb + p)) = nm
    have hnm' : ∀ p, (outAt r.outs q.acc p).getD (nb + p) = nm p := fun p => by rw [← hnm]
    generalize hρ : (fun p => if p < r.obs.length then some (nm p) else none) = ρ
    let σ' : Sg := fun o => match σ o with
      | some k => some k
      | none => if nb ≤ o then σ1 (o - nb) else none
    -- each name
    have key : ∀ p, p < r.obs.length → σ' (nm p) = σ1 p := by
      intro p hp
      rw [← hnm' p]
      cases ho : outAt r.outs q.acc p with
      | some o =>
        obtain ⟨i, g1, g2⟩ := outAt_ok _ _ _ _ ho
        obtain ⟨x, hx⟩ := hob i o g2
        obtain ⟨k, hk, _⟩ := oi.ok o x hx
        simp only [Option.getD_some, σ', hk]
        rw [h5 i p g1]
        simp [names, g2, hk]
      | none =>
        have := hfr (nb + p) (by omega) (by omega)
        simp [σ', this]
    have hext : ∀ o k, σ o = some k → σ' o = some k := fun o k h => by simp [σ', h]
    have hρ' : ∀ p o, ρ p = some o → σ' o = σ1 p := by
      intro p o hpo
      rw [← hρ] at hpo
      simp only at hpo
      split at hpo
      · rename_i hp
        obtain rfl := Option.some.inj hpo
        exact key p hp
      · cases hpo
    have hsub : ∀ b x, S b = some x → rest σ (only q.acc ob) w b = some x := fun b x h => rest_ext oi q.acc h
    -- what is there then
    have at_ : ∀ o x, updF ob (dead r.outs q.acc ++ backs ρ nm 0 r.obs) o = some x → (∃ p y, r.obs[p]? = some y ∧ o = nm p ∧ x = renO ρ y) ∨ (ob o = some x ∧ o ∉ q.acc) := by
      intro o x hx
      rw [updF_app] at hx
      rcases updF_backs ρ nm r.obs 0 (updF ob (dead r.outs q.acc)) o with ⟨hnot, e⟩ | ⟨p, y, g1, g2, g3⟩
      · right
        rw [e] at hx
        obtain ⟨hx, hno⟩ := updF_deadL _ _ _ _ _ hx
        refine ⟨hx, fun hm => ?_⟩
        obtain ⟨i, hi, hie⟩ := List.getElem_of_mem hm
        have g2 : q.acc[i]? = some o := by simp [hi, hie]
        have hio : i < r.outs.length := by omega
        cases hoi : r.outs[i] with
        | none => exact hno i (by simp [hio, hoi]) g2
        | some p =>
          have g1 : r.outs[i]? = some (some p) := by simp [hio, hoi]
          have hσ := h5 i p g1
          obtain ⟨y, hy⟩ := hob i o g2
          obtain ⟨k, hk, _⟩ := oi.ok o y hy
          simp only [names, g2, hk] at hσ
          have hp := h4 p (by rw [hσ]; simp)
          obtain ⟨o', ho'⟩ := outAt_in _ _ _ _ _ g1 g2
          obtain ⟨i', f1, f2⟩ := outAt_ok _ _ _ _ ho'
          have := outs_inj r.outs hc5 i' i p f1 g1
          subst this
          rw [g2] at f2
          obtain rfl := Option.some.inj f2
          have hnmp : nm p = o := by rw [← hnm' p, ho']; rfl
          have hin := backs_in ρ nm r.obs 0 p hp
          rw [Nat.zero_add, hnmp] at hin
          exact hnot hin
      · left
        rw [g3] at hx
        exact ⟨p, y, g1, by simpa using g2, (Option.some.inj hx).symm⟩
    have hno : ∀ o x k, ob o = some x → o ∉ q.acc → σ o = some k → k.real = true → rest σ (only q.acc ob) w k.b = w.heap[k.b]? ∧ k.b < w.heap.size := by
      intro o x k ho hm hk hr
      obtain ⟨k', hk', ok⟩ := oi.ok o x ho
      rw [hk] at hk'
      obtain rfl := Option.some.inj hk'
      refine ⟨?_, ok.lt hr⟩
      have : ¬ own σ (only q.acc ob) k.b := by
        rintro ⟨o2, y, k2, g1, g2, g3, g4⟩
        simp only [only] at g1
        split at g1
        · rename_i hm2
          exact hm (oi.inj o2 o y x k2 k g1 ho g2 hk g3 hr g4 ▸ hm2)
        · cases g1
      simp [rest, this]
    have keep : ∀ b, ¬ own σ (only q.acc ob) b → b < w.heap.size → w'.heap[b]? = w.heap[b]? := by
      intro b hb hlt
      have : rest σ (only q.acc ob) w b = some (w.heap[b]) := by simp [rest, hb, hlt]
      rw [h2.st b _ this]
      simp [hlt]
    have honly : ∀ b, own σ (only q.acc ob) b → own σ ob b := by
      intro b hb
      refine own_sub (fun o x ho => ?_) hb
      simp only [only] at ho
      split at ho
      · exact ho
      · cases ho
    have obsn : ∀ (p : Nat) (y : AO), r.obs[p]? = some y → p < r.obs.length ∧ lookN (number 0 r.obs) p = some y := by
      intro p y hy
      exact ⟨(List.getElem?_eq_some_iff.1 hy).1, by rw [lookN_num]; exact hy⟩
    have at2 : ∀ o x, updF ob (dead r.outs q.acc ++ backs (fun q_1 => if q_1 < r.obs.length then some ((outAt r.outs q.acc q_1).getD (nb + q_1)) else none) nm 0 r.obs) o = some x →
        (∃ p y, r.obs[p]? = some y ∧ o = nm p ∧ x = renO ρ y) ∨ (ob o = some x ∧ o ∉ q.acc) := by
      intro o x hx
      refine at_ o x ?_
      subst hρ
      subst hnm
      exact hx
    refine ⟨σ', ?_, ⟨?_, ?_, ?_, ?_, oi.tab⟩, hext, ?_, h3, fun b hb hno' => keep b (fun h => hno' (honly b h)) hb, ?_⟩
    · have := ren_R hρ' depth _ _ hR1
      subst hρ
      subst hnm
      exact this
    · intro o x hx
      rcases at2 o x hx with ⟨p, y, g1, rfl, rfl⟩ | ⟨g1, g2⟩
      · obtain ⟨hp, hl⟩ := obsn p y g1
        obtain ⟨k, hk, ok⟩ := h2.ok p y hl
        exact ⟨k, by rw [key p hp]; exact hk, renO_ok hρ' (hO1 y k (List.mem_of_getElem? g1) ok)⟩
      · obtain ⟨k, hk, ok⟩ := oi.ok o x g1
        refine ⟨k, hext o k hk, ok.at hext fun hr => ?_⟩
        obtain ⟨e1, e2⟩ := hno o x k g1 g2 hk hr
        refine keep k.b (fun hown => ?_) e2
        have : rest σ (only q.acc ob) w k.b = none := by simp [rest, hown]
        rw [this] at e1
        simp [e2] at e1
    · intro o o' x x' k k' hx hx' hk hk' r1 r2 hb
      rcases at2 o x hx with ⟨p, y, g1, rfl, rfl⟩ | ⟨g1, g2⟩ <;> rcases at2 o' x' hx' with ⟨p', y', g1', rfl, rfl⟩ | ⟨g1', g2'⟩
      · obtain ⟨hp, hl⟩ := obsn p y g1
        obtain ⟨hp', hl'⟩ := obsn p' y' g1'
        rw [key p hp] at hk
        rw [key p' hp'] at hk'
        rw [h2.inj p p' y y' k k' hl hl' hk hk' r1 r2 hb]
      · obtain ⟨hp, hl⟩ := obsn p y g1
        rw [key p hp] at hk
        obtain ⟨k2, hk2, _⟩ := oi.ok o' x' g1'
        have : k2 = k' := by have := hext o' k2 hk2; rw [hk'] at this; exact (Option.some.inj this).symm
        subst this
        obtain ⟨e1, e2⟩ := hno o' x' k2 g1' g2' hk2 r2
        have this : rest σ (only q.acc ob) w k.b = none := h2.sep p y k hl hk r1
        rw [hb, e1] at this
        simp [e2] at this
      · obtain ⟨hp, hl⟩ := obsn p' y' g1'
        rw [key p' hp] at hk'
        obtain ⟨k2, hk2, _⟩ := oi.ok o x g1
        have : k2 = k := by have := hext o k2 hk2; rw [hk] at this; exact (Option.some.inj this).symm
        subst this
        obtain ⟨e1, e2⟩ := hno o x k2 g1 g2 hk2 r1
        have this : rest σ (only q.acc ob) w k'.b = none := h2.sep p' y' k' hl hk' r2
        rw [← hb, e1] at this
        simp [e2] at this
      · obtain ⟨k2, hk2, _⟩ := oi.ok o x g1
        obtain ⟨k3, hk3, _⟩ := oi.ok o' x' g1'
        have e2 : k2 = k := by have := hext o k2 hk2; rw [hk] at this; exact (Option.some.inj this).symm
        have e3 : k3 = k' := by have := hext o' k3 hk3; rw [hk'] at this; exact (Option.some.inj this).symm
        subst e2
        subst e3
        exact oi.inj o o' x x' k2 k3 g1 g1' hk2 hk3 r1 r2 hb
    · intro b x hb
      exact h2.st b x (hsub b x hb)
    · intro o x k hx hk hr
      rcases at2 o x hx with ⟨p, y, g1, rfl, rfl⟩ | ⟨g1, g2⟩
      · obtain ⟨hp, hl⟩ := obsn p y g1
        rw [key p hp] at hk
        have this : rest σ (only q.acc ob) w k.b = none := h2.sep p y k hl hk hr
        cases hS : S k.b with
        | none => rfl
        | some z => rw [hsub _ _ hS] at this; cases this
      · obtain ⟨k2, hk2, _⟩ := oi.ok o x g1
        have e2 : k2 = k := by have := hext o k2 hk2; rw [hk] at this; exact (Option.some.inj this).symm
        subst e2
        exact oi.sep o x k2 g1 hk2 hr
    · intro o ho
      by_cases hσ : σ o = none
      · right
        simp only [σ', hσ] at ho
        split at ho
        · rename_i hle
          have := h4 _ ho
          exact ⟨hle, by omega⟩
        · exact absurd rfl ho
      · exact .inl hσ
    · rintro b ⟨o, x, k, hx, hk, hr, rfl⟩
      rcases at2 o x hx with ⟨p, y, g1, rfl, rfl⟩ | ⟨g1, g2⟩
      · obtain ⟨hp, hl⟩ := obsn p y g1
        rw [key p hp] at hk
        have this : rest σ (only q.acc ob) w k.b = none := h2.sep p y k hl hk hr
        by_cases hown : own σ (only q.acc ob) k.b
        · exact .inl (honly _ hown)
        · simp only [rest, if_neg hown] at this
          right
          exact Nat.le_of_not_lt fun h => by simp [h] at this
      · obtain ⟨k2, hk2, _⟩ := oi.ok o x g1
        have e2 : k2 = k := by have := hext o k2 hk2; rw [hk] at this; exact (Option.some.inj this).symm
        subst e2
        exact .inl ⟨o, x, k2, g1, hk2, hr, rfl⟩
  · cases h
end Go.Proofs.Ytkjnijddbiconaa.Ev
