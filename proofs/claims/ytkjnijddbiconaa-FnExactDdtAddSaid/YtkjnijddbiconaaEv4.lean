/- Types, operands, loads and stores: the evaluator says what the model does. -/
import Derived.Test.YtkjnijddbiconaaEv3
import Derived.Laws.MakeOwn
import Derived.Deep.MidRow
namespace Go.Proofs.Ytkjnijddbiconaa.Ev
open Go
set_option linter.unusedVariables false
set_option linter.unusedSimpArgs false

/-! ### The table of types -/
def undD (P : Program) (t : Nat) : TD :=
  match P.underlying t with
  | some (.int k) => .int k
  | some .bool => .bool
  | some .string => .str
  | some (.slice e) => .slice e
  | some (.array n e) => .array n e
  | some (.struct fs) => .struct (fs.toList.map fun f => (f.offset, ((P.info? f.type).map (·.size)).getD 0, f.type))
  | some (.interface _) => .iface
  | _ => .other
def zval : ZK → Value
  | .v v => v
  | .slc _ => .slice none 0 0
def TI.zero (ti : TI) : Value :=
  if ti.isAgg then .agg (ti.z.map zval).toArray else match ti.z with
    | [z] => zval z
    | _ => .tuple #[]
structure RowOK (P : Program) (t : Nat) (ti : TI) : Prop where
  d : undD P t = ti.d
  i : (P.info? t).map (fun i => (i.size, i.bytes, i.zero)) = some (ti.size, ti.bytes, some ti.zero)
  u : (P.underlying t).isSome = true
  z : ti.z.length = ti.size
  k : ti.cks = [] ∨ ti.z.map zval = vals ti.cks (edflt ti.cks)
  c : ti.zero.cells.toList = ti.z.map zval
def TTOK (P : Program) (tt : List (Nat × TI)) : Prop := ∀ t ti, (t, ti) ∈ tt → RowOK P t ti
theorem lookN_mem {α : Type} : ∀ (l : List (Nat × α)) (t : Nat) (a : α), lookN l t = some a → (t, a) ∈ l
  | [], _, _, h => by simp [lookN] at h
  | (k, b) :: r, t, a, h => by
    simp only [lookN] at h
    by_cases e : k = t
    · subst e; simp at h; subst h; simp
    · simp [e] at h; exact List.mem_cons_of_mem _ (lookN_mem r t a h)
variable {P : Program}
theorem TTOK.row {tt : List (Nat × TI)} (h : TTOK P tt) {t : Nat} {ti : TI} (hl : lookN tt t = some ti) : RowOK P t ti := h t ti (lookN_mem tt t ti hl)
theorem RowOK.info {t : Nat} {ti : TI} (h : RowOK P t ti) : ∃ i, P.info? t = some i ∧ i.size = ti.size ∧ i.bytes = ti.bytes ∧ i.zero = some ti.zero := by
  have h := h.i
  cases hi : P.info? t with
  | none => simp [hi] at h
  | some i => simp [hi] at h; exact ⟨i, rfl, h.1, h.2.1, h.2.2⟩
theorem RowOK.sizeOf {t : Nat} {ti : TI} (h : RowOK P t ti) (w : World) : (sizeOf t).run P w = .ok ti.size w := by
  obtain ⟨i, hi, hs, _, _⟩ := h.info
  simp [Go.sizeOf, typeInfo, hi, hs]
theorem RowOK.desc {t : Nat} {ti : TI} (h : RowOK P t ti) : ∃ d, P.underlying t = some d := Option.isSome_iff_exists.1 h.u
theorem RowOK.isAgg {t : Nat} {ti : TI} (h : RowOK P t ti) (w : World) : (Go.isAgg t).run P w = .ok ti.isAgg w := by
  obtain ⟨d, hd⟩ := h.desc
  have hh := h.d
  unfold undD at hh
  rw [hd] at hh
  unfold Go.isAgg
  rw [Sem.run_bind, run_underlying hd w]
  cases d <;> simp [TI.isAgg, ← hh]
theorem RowOK.slice {t : Nat} {ti : TI} (h : RowOK P t ti) {e : Nat} (hd : ti.d = .slice e) : P.underlying t = some (.slice e) := by
  have hh := h.d
  rw [hd] at hh
  unfold undD at hh
  split at hh <;> simp_all
theorem RowOK.array {t : Nat} {ti : TI} (h : RowOK P t ti) {n e : Nat} (hd : ti.d = .array n e) : P.underlying t = some (.array n e) := by
  have hh := h.d
  rw [hd] at hh
  unfold undD at hh
  split at hh <;> simp_all
theorem RowOK.str {t : Nat} {ti : TI} (h : RowOK P t ti) (hd : ti.d = .str) : P.underlying t = some .string := by
  have hh := h.d
  rw [hd] at hh
  unfold undD at hh
  split at hh <;> simp_all
theorem RowOK.bool {t : Nat} {ti : TI} (h : RowOK P t ti) (hd : ti.d = .bool) : P.underlying t = some .bool := by
  have hh := h.d
  rw [hd] at hh
  unfold undD at hh
  split at hh <;> simp_all
theorem RowOK.iface {t : Nat} {ti : TI} (h : RowOK P t ti) (hd : ti.d = .iface) : ∃ ms, P.underlying t = some (.interface ms) := by
  have hh := h.d
  rw [hd] at hh
  unfold undD at hh
  split at hh <;> simp_all
theorem RowOK.int {t : Nat} {ti : TI} (h : RowOK P t ti) {k : IntKind} (hd : ti.d = .int k) : P.underlying t = some (.int k) := by
  have hh := h.d
  rw [hd] at hh
  unfold undD at hh
  split at hh <;> simp_all
theorem RowOK.struct {t : Nat} {ti : TI} (h : RowOK P t ti) {fs : List (Nat × Nat × Nat)} (hd : ti.d = .struct fs) :
    ∃ gs, P.underlying t = some (.struct gs) ∧ fs = gs.toList.map fun f => (f.offset, ((P.info? f.type).map (·.size)).getD 0, f.type) := by
  have hh := h.d
  rw [hd] at hh
  unfold undD at hh
  split at hh <;> simp_all

/-! ### Operands -/
theorem constCell_R {S : Sb} {σ : Sg} (z : ZK) (v : Value) : R S σ (constCell z v) v := by
  unfold constCell
  split
  · exact .nsl _
  · exact .val v
theorem constCells_RL {S : Sb} {σ : Sg} : ∀ (zs : List ZK) (vs : List Value), zs.length = vs.length → RL S σ (constCells zs vs) vs
  | [], [], _ => .nil
  | [], _ :: _, h => by simp at h
  | _ :: _, [], h => by simp at h
  | z :: zs, v :: vs, h => .cons (constCell_R z v) (constCells_RL zs vs (by simpa using h))
theorem constAV_R {S : Sb} {σ : Sg} (ti : Option TI) (v : Value) (a : AV) (h : constAV ti v = some a) : R S σ a v := by
  unfold constAV at h
  split at h
  · rename_i cs
    split at h
    · rename_i t
      split at h
      · rename_i hb
        simp at h; subst h
        have hl := constCells_RL (S := S) (σ := σ) t.z cs.toList (by simpa using hb)
        exact .agg _ cs.toList hl.1 hl.2
      · cases h
    · cases h
  · split at h
    · simp at h; subst h; exact .nsl _
    · cases h
  · cases h
  · cases h
  · simp at h; subst h; exact .val _
section
variable {E : Env} {S : Sb} {σ : Sg} {l : List AV} {a : Act} {ob : Ob} {w : World}
/-- The slots. -/
structure Slots (S : Sb) (σ : Sg) (l : List AV) (a : Act) : Prop where
  len : a.tmps.size = l.length
  tm : ∀ s v, a.tmps[s]? = some v → R S σ (getT l s) v
theorem opd_R (hs : Slots S σ l a) (t : Nat) (x : Operand) (av : AV) (h : opd E (getT l) t x = some av) : R S σ av (a.eval x) := by
  unfold opd at h
  split at h
  · rename_i s
    simp at h; subst h
    simp only [Act.eval]
    cases hv : a.tmps[s]? with
    | none =>
      have : a.tmps.size ≤ s := by simpa using hv
      rw [getT_none l s (by rw [← hs.len]; exact this)]
      exact .junk _
    | some v => simpa [hv] using hs.tm s v hv
  · exact constAV_R _ _ _ h
  · simp at h; subst h
    exact .fn _ [] [] rfl fun j u v hu => by simp at hu
  · cases h
theorem opdL_RL (hs : Slots S σ l a) : ∀ (ts : List Nat) (xs : List Operand) (az : List AV), opdL E (getT l) ts xs = some az → RL S σ az (xs.map a.eval)
  | _, [], az, h => by simp [opdL] at h; subst h; exact .nil
  | [], x :: xs, az, h => by
    simp only [opdL] at h
    split at h
    · rename_i b hb
      split at h
      · rename_i bs hbs
        simp at h; subst h
        exact .cons (opd_R hs _ _ _ hb) (opdL_RL hs [] xs bs hbs)
      · cases h
    · cases h
  | t :: ts, x :: xs, az, h => by
    simp only [opdL] at h
    split at h
    · rename_i b hb
      split at h
      · rename_i bs hbs
        simp at h; subst h
        exact .cons (opd_R hs _ _ _ hb) (opdL_RL hs ts xs bs hbs)
      · cases h
    · cases h

/-! ### Cells -/
theorem takeX_eq {α : Type} : ∀ (n : Nat) (l r : List α), takeX n l = some r → r = l.take n ∧ n ≤ l.length
  | 0, l, r, h => by simp [takeX] at h; subst h; simp
  | n + 1, [], r, h => by simp [takeX] at h
  | n + 1, x :: l, r, h => by
    simp only [takeX] at h
    split at h
    · rename_i q hq
      simp at h; subst h
      obtain ⟨h1, h2⟩ := takeX_eq n l q hq
      exact ⟨by simp [h1], by simpa using h2⟩
    · cases h
theorem spliceX_eq {α : Type} : ∀ (j : Nat) (ns us r : List α), spliceX j ns us = some r → j + ns.length ≤ us.length ∧ r = us.take j ++ ns ++ us.drop (j + ns.length)
  | 0, [], us, r, h => by simp [spliceX] at h; subst h; simp
  | 0, n :: ns, [], r, h => by simp [spliceX] at h
  | 0, n :: ns, u :: us, r, h => by
    simp only [spliceX] at h
    split at h
    · rename_i q hq
      simp at h; subst h
      obtain ⟨h1, h2⟩ := spliceX_eq 0 ns us q hq
      refine ⟨by simp at h1 ⊢; omega, ?_⟩
      simp at h2
      simp [h2]
    · cases h
  | j + 1, ns, [], r, h => by simp [spliceX] at h
  | j + 1, ns, u :: us, r, h => by
    simp only [spliceX] at h
    split at h
    · rename_i q hq
      simp at h; subst h
      obtain ⟨h1, h2⟩ := spliceX_eq j ns us q hq
      refine ⟨by simp at h1 ⊢; omega, ?_⟩
      have : j + 1 + ns.length = (j + ns.length) + 1 := by omega
      simp [h2, this]
    · cases h
theorem block_cell {w : World} {b : Nat} {cur : Array Value} {e : TypeId} {fr : Nat × Nat} (h : w.heap[b]? = some (.cells cur e fr)) (o j : Nat) : w.cell? ((⟨b, o, none⟩ : Addr).add j) = cur[o + j]? := by
  rw [Addr.add_mid]
  simp [World.cell?, h]
theorem readAt_ok (oi : OI S σ ob w) {n : Nat} {av : AV} {us : List AV} (h : readAt ob n av = some us) {v : Value} (r : R S σ av v) :
    ∃ ad vs, v = .pointer (some ad) ∧ vs.length = n ∧ RL S σ us vs ∧ ∀ j u, vs[j]? = some u → w.cell? (ad.add j) = some u := by
  unfold readAt at h
  split at h
  · rename_i o j
    split at h
    · rename_i us0 ho
      obtain ⟨rfl, hn⟩ := takeX_eq _ _ _ h
      cases r with
      | ptr _ _ k hk hr =>
        obtain ⟨k', hk', ok⟩ := oi.ok o _ ho
        rw [hk] at hk'
        obtain rfl := Option.some.inj hk'
        obtain ⟨_, cur, e, hb, hl⟩ := ok
        refine ⟨_, (cur.toList.drop j).take n, rfl, ?_, (hl.drop j).take n, fun i u hu => ?_⟩
        · have := hl.1
          simp at hn ⊢
          simp at this
          omega
        · rw [block_cell hb]
          rw [List.getElem?_take] at hu
          split at hu
          · simpa using hu
          · cases hu
    · cases h
  · rename_i o i j
    split at h
    · rename_i cs xs ho
      obtain ⟨rfl, hn⟩ := takeX_eq _ _ _ h
      cases r with
      | oel _ _ _ k hk hr hi =>
        obtain ⟨k', hk', ok⟩ := oi.ok o _ ho
        rw [hk] at hk'
        obtain rfl := Option.some.inj hk'
        obtain ⟨hx, _, hreal⟩ := ok
        obtain ⟨hm, cur, e, hb, hsz, ht⟩ := hreal hr
        refine ⟨_, ((vals cs (xs.getD i (edflt cs))).drop j).take n, rfl, ?_, ?_, fun q u hu => ?_⟩
        · simp at hn ⊢; omega
        · rw [List.map_take.symm]; exact .vals _
        · rw [block_cell hb]
          rw [List.getElem?_take] at hu
          split at hu
          · rename_i hq
            rw [List.getElem?_drop] at hu
            have hjq : j + q < cs.length := by
              have := (List.getElem?_eq_some_iff.1 hu).1
              rwa [vals_length] at this
            rw [← flat_get cs xs i (j + q) (by omega) hjq, ← ht, List.getElem?_take, hm] at hu
            split at hu
            · rw [← hm, Nat.add_assoc, hm]
              simpa using hu
            · cases hu
          · cases hu
    · cases h
  · rename_i us0
    obtain ⟨rfl, hn⟩ := takeX_eq _ _ _ h
    cases r with
    | rel _ ad hc =>
      refine ⟨ad, us0.take n, rfl, by simp at hn ⊢; omega, by rw [← List.map_take]; exact .vals _, fun j u hu => ?_⟩
      rw [List.getElem?_take] at hu
      split at hu
      · exact cellS_world oi.st (hc j u hu)
      · cases hu
  · rename_i us0
    obtain ⟨rfl, hn⟩ := takeX_eq _ _ _ h
    cases r with
    | rpt _ vs ad hl hR hv =>
      refine ⟨ad, vs.take n, rfl, by simp; omega, RL.take n ⟨hl, hR⟩, fun j u hu => ?_⟩
      rw [List.getElem?_take] at hu
      split at hu
      · exact cellS_world oi.st (hv j u hu)
      · cases hu
  · cases h
theorem ofCells_R {ti : TI} {us : List AV} {vs : List Value} {r : AV} (h : ofCells ti us = some r) (hl : RL S σ us vs) :
    (ti.isAgg = true ∧ R S σ r (.agg vs.toArray)) ∨ (ti.isAgg = false ∧ ∃ v, vs = [v] ∧ R S σ r v) := by
  unfold ofCells at h
  split at h
  · rename_i ha
    simp at h; subst h
    exact .inl ⟨ha, .agg us vs hl.1 hl.2⟩
  · rename_i ha
    split at h
    · simp at h; subst h
      obtain ⟨v, vs', rfl, hv, ht⟩ := hl.uncons
      have : vs' = [] := by have := ht.1; simp at this; exact List.eq_nil_of_length_eq_zero this.symm
      subst this
      exact .inr ⟨by simpa using ha, v, rfl, hv⟩
    · cases h
theorem run_loadVar_cells {t : Nat} {ti : TI} (row : RowOK P t ti) (ad : Addr) (vs : List Value) (hl : vs.length = ti.size) (hc : ∀ j u, vs[j]? = some u → w.cell? (ad.add j) = some u) :
    (ti.isAgg = true → (loadVar t ad).run P w = .ok (.agg vs.toArray) w) ∧ (∀ v, ti.isAgg = false → vs = [v] → (loadVar t ad).run P w = .ok v w) := by
  constructor
  · intro ha
    have := run_loadCells_list (P := P) w ad vs hc
    simp [loadVar, Sem.run_bind, row.isAgg w, ha, row.sizeOf w, ← hl, this]
  · intro v ha hv
    subst hv
    have := hc 0 v rfl
    simp [Addr.add] at this
    simp [loadVar, Sem.run_bind, row.isAgg w, ha, run_load, this]
/-- A load. -/
theorem load_ok (oi : OI S σ ob w) {t : Nat} {ti : TI} (row : RowOK P t ti) {av : AV} {us : List AV} {r : AV} (h : readAt ob ti.size av = some us) (h' : ofCells ti us = some r) {v : Value} (hv : R S σ av v) :
    ∃ u, (Instr.loadAt t v).run P w = .ok u w ∧ R S σ r u := by
  obtain ⟨ad, vs, rfl, hl, hR, hc⟩ := readAt_ok oi h hv
  have hrun := run_loadVar_cells row ad vs hl hc
  rcases ofCells_R h' hR with ⟨ha, hr⟩ | ⟨ha, u, rfl, hr⟩
  · exact ⟨_, by simp [Instr.loadAt, Instr.sureAddr, hrun.1 ha], hr⟩
  · exact ⟨u, by simp [Instr.loadAt, Instr.sureAddr, hrun.2 u ha rfl], hr⟩
end
end Go.Proofs.Ytkjnijddbiconaa.Ev
