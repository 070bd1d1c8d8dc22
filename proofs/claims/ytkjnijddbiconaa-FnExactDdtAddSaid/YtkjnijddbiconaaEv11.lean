/- Every operation but calls of functions: the evaluator says what the model does. -/
import Derived.Test.YtkjnijddbiconaaEv10
namespace Go.Proofs.Ytkjnijddbiconaa.Ev
open Go
set_option linter.unusedVariables false
set_option linter.unusedSimpArgs false
variable {P : Program} {E : Env} {S : Sb} {σ : Sg} {l : List AV} {a : Act} {ob : Ob} {w : World}

/-- A new row in a new block. -/
theorem Does.row (oi : OI S σ ob w) {nb : Nat} (hn : σ nb = none) {cs : List CK} {xs : List (Elem cs)} {n cap m : Nat} {cur : Array Value} {e : TypeId} (hm : cs.length = m) (hx : xs.length = n) (hcap : n ≤ cap) (hsz : cap * m ≤ cur.size)
    (hc : cur.toList.take (flat cs xs).length = flat cs xs) :
    ∃ σ', Does S σ ob w nb (.ows nb) [(nb, some (.row cs xs))] (.slice (some ⟨w.heap.size, 0, none⟩) n cap) (w.alloc (.cells cur e)) σ' := by
  let k : Bk := ⟨w.heap.size, n, m, cur.size, true⟩
  refine ⟨fun p => if p = nb then some k else σ p, Does.alloc oi (k := k) hn rfl (.ows nb k cap (by simp) rfl hcap hsz) ⟨hx, fun h => by simp [k] at h, fun _ => ⟨hm, cur, e, heap_alloc_new w _, rfl, hc⟩⟩⟩
theorem kindsOf_ok (tt : TTOK P E.tt) {t : Nat} {te : TI} {cs : List CK} (h : kindsOf E t = some (te, cs)) : ∃ e, P.underlying t = some (.slice e) ∧ RowOK P e te ∧ cs = te.cks ∧ lookN E.tt e = some te ∧ ∃ a b c d, lookN E.tt t = some ⟨.slice e, a, b, c, d⟩ := by
  unfold kindsOf at h
  split at h
  · rename_i e a b c d hl
    split at h
    · rename_i ti hte
      simp at h
      obtain ⟨rfl, rfl⟩ := h
      exact ⟨e, (tt.row hl).slice rfl, tt.row hte, rfl, hte, a, b, c, d, hl⟩
    · cases h
  · cases h
theorem makeSlice_ok (tt : TTOK P E.tt) (oi : OI S σ ob w) {t : Nat} {te : TI} {cs : List CK} (hk : kindsOf E t = some (te, cs)) (hcs : cs.length = te.size) (hby : 0 < te.bytes) {n m : Int} (h0 : 0 ≤ n) (h1 : n ≤ m) (h2 : (te.bytes : Int) * m ≤ 281474976710656)
    {nb : Nat} (hn : σ nb = none) : ∃ v' w' σ', (Instr.makeSlice t (.int .i64 n) (.int .i64 m)).run P w = .ok v' w' ∧ Does S σ ob w nb (.ows nb) [(nb, some (.row cs (List.replicate n.toNat (edflt cs))))] v' w' σ' := by
  obtain ⟨e, hu, row, rfl, _⟩ := kindsOf_ok tt hk
  obtain ⟨i, hi, his, hib, hiz⟩ := row.info
  have hm : m ≤ 281474976710656 := by
    have : m ≤ (te.bytes : Int) * m := by
      have h3 : 1 * m ≤ (te.bytes : Int) * m := Int.mul_le_mul_of_nonneg_right (by omega) (by omega)
      omega
    omega
  have hrun := run_make (P := P) w t e i te.zero hu hi hiz .i64 .i64 n m h0 h1 (by rw [hib]; exact h2) (by omega)
  have hnm : n.toNat ≤ m.toNat := by omega
  have hlen : (flat te.cks (List.replicate n.toNat (edflt te.cks))).length = n.toNat * te.size := by rw [flat_length, hcs]; simp
  obtain ⟨σ', hd⟩ := Does.row oi (nb := nb) hn (cs := te.cks) (xs := List.replicate n.toNat (edflt te.cks)) (n := n.toNat) (cap := m.toNat) (m := te.size) (cur := madeCells te.zero.cells (m.toNat * i.size)) (e := e) hcs (by simp) hnm
    (by rw [size_madeCells, his]; exact Nat.le_refl _) (by
      rw [hlen]
      by_cases hz : 0 < m.toNat * te.size
      · rw [his, made_ok row m.toNat hz, flat_replicate]
        have hpos : 0 < te.size := Nat.pos_of_mul_pos_left hz
        rcases row.k with hk | hk
        · rw [hk] at hcs; simp at hcs; omega
        · rw [hk]
          have hvl : (vals te.cks (edflt te.cks)).length = te.size := by rw [vals_length, hcs]
          obtain ⟨d, hd⟩ : ∃ d, m.toNat = n.toNat + d := ⟨m.toNat - n.toNat, by omega⟩
          rw [hd, ← List.replicate_append_replicate, List.flatten_append]
          have : n.toNat * te.size = ((List.replicate n.toNat (vals te.cks (edflt te.cks))).flatten).length := by simp [hvl]
          rw [this]
          exact List.take_left
      · have hz0 : n.toNat * te.size = 0 := by
          have := Nat.mul_le_mul_right te.size hnm
          omega
        have : flat te.cks (List.replicate n.toNat (edflt te.cks)) = [] := List.eq_nil_of_length_eq_zero (by rw [hlen, hz0])
        rw [this, hz0]; rfl)
  exact ⟨_, _, σ', hrun, hd⟩
theorem zeroRow_RL (ti : TI) : ∀ (n : Nat), RL S σ (zeroRow ti n) ((List.replicate n (ti.z.map zval)).flatten)
  | 0 => .nil
  | n + 1 => by
    have := (zav_RL (S := S) (σ := σ) ti.z).append (zeroRow_RL ti n)
    simpa [zeroRow, List.replicate_succ] using this
theorem buildSlice_ok (tt : TTOK P E.tt) (hs : Slots S σ l a) (oi : OI S σ ob w) {t n e : Nat} {te : TI} {cs : List CK} (hk : kindsOf E t = some (te, cs)) (ht : P.underlying t = some (.slice e)) (hte : lookN E.tt e = some te)
    (hcs : cs.length = te.size) (hsz : n * te.size ≤ 16777216) {ps : Array (Nat × Operand)} {us : List AV} (hus : partsAV E (getT l) (fun i => some (i * te.size, e)) ps.toList (zeroRow te n) = some us)
    {xs : List (Elem cs)} (hxs : elemsX cs n us = some xs) {nb : Nat} (hn : σ nb = none) :
    ∃ v' w' σ', (Instr.buildSlice t n (ps.map fun (i, x) => (i, a.eval x))).run P w = .ok v' w' ∧ Does S σ ob w nb (.ows nb) [(nb, some (.row cs xs))] v' w' σ' := by
  have row := tt.row hte
  obtain ⟨i, hi, his, hib, hiz⟩ := row.info
  have hz : RL S σ (zeroRow te n) (((Array.range (n * i.size)).map ((if n * i.size = 0 then #[] else te.zero.cells)[· % (if n * i.size = 0 then #[] else te.zero.cells).size]!))).toList := by
    by_cases h0 : n * te.size = 0
    · have : zeroRow te n = [] := by
        apply List.eq_nil_of_length_eq_zero
        simp [zeroRow, row.z]
        exact h0
      rw [this, his, h0]
      simpa using RL.nil
    · have := made_ok row n (by omega)
      unfold madeCells at this
      rw [his, if_neg h0, this]
      exact zeroRow_RL te n
  obtain ⟨cs', hf, hR⟩ := fill_ok tt hs _ (fun j => some (j * i.size, i.size)) (fun j off t' ti' h1 h2 => by
      simp at h1
      obtain ⟨rfl, rfl⟩ := h1
      rw [hte] at h2
      obtain rfl := Option.some.inj h2
      simp [his]) ps.toList _ us _ hus hz
  have hrun : (Instr.buildSlice t n (ps.map fun (i, x) => (i, a.eval x))).run P w = .ok (.slice (some ⟨w.heap.size, 0, none⟩) n n) (w.alloc (.cells cs' e)) := by
    have hsmall : ¬ (16777216 < n * i.size) := by rw [his]; omega
    by_cases h0 : n * i.size = 0
    · simp only [h0, if_true] at hf
      simp [Array.range_zero'] at hf
      simp [Instr.buildSlice, run_underlying ht, sizeOf, typeInfo, hi, h0, newRow, Array.range_zero', hf]
    · simp only [h0, if_false] at hf
      have hsmall' : ¬ n * i.size > 2 ^ 24 := by omega
      exact run_buildSlice w t e n _ cs' i te.zero ht hi hiz hsmall' h0 (by simpa using hf)
  obtain ⟨h1, h2⟩ := elemsX_ok cs n us xs _ hxs hR
  have hRl := hR.1
  have hcl : n * te.size ≤ cs'.size := by
    have h3 := congrArg List.length h2
    rw [flat_length, h1, hcs] at h3
    simp at h3
    omega
  obtain ⟨σ', hd⟩ := Does.row oi (nb := nb) hn (cs := cs) (xs := xs) (n := n) (cap := n) (m := te.size) (cur := cs') (e := e) hcs h1 (Nat.le_refl _) hcl (by
    rw [flat_length, h1, h2])
  exact ⟨_, _, σ', hrun, hd⟩

/-! ### All of them -/
/-- What an operation comes to, by its value or without one. -/
def Comes (P : Program) (a : Act) (o : Oper) (w : World) (v' : Value) (w' : World) : Prop :=
  (execOp a.eval o).run P w = .ok (.value v') w' ∨ ((execOp a.eval o).run P w = .ok .skip w' ∧ v' = undef)
theorem Comes.wp {o : Oper} {v' : Value} {w' : World} {K : Act → World → Prop} {Q : Exit → Act → World → Prop} (h : Comes P a o w v' w') (hk : K (a.put o.dst v') w') : o.wp P a w K Q := by
  unfold Oper.wp
  rcases h with h | ⟨h, rfl⟩
  · rw [h]; exact hk
  · rw [h]; exact hk
theorem comes_pure (oi : OI S σ ob w) {nb : Nat} {o : Oper} {v : AV} {s : Sem Value} (h : execOp a.eval o = (do pure (.value (← s)))) (hr : ∃ u, s.run P w = .ok u w ∧ R S σ v u) :
    ∃ v' w' σ', Comes P a o w v' w' ∧ Does S σ ob w nb v [] v' w' σ' := by
  obtain ⟨u, h1, h2⟩ := hr
  exact ⟨u, w, σ, .inl (by rw [h]; simp [h1]), Does.pure oi nb h2⟩
theorem comes_new {nb : Nat} {o : Oper} {v : AV} {u : List (Nat × Option AO)} {s : Sem Value} (h : execOp a.eval o = (do pure (.value (← s)))) (hr : ∃ v' w' σ', s.run P w = .ok v' w' ∧ Does S σ ob w nb v u v' w' σ') :
    ∃ v' w' σ', Comes P a o w v' w' ∧ Does S σ ob w nb v u v' w' σ' := by
  obtain ⟨v', w', σ', h1, h2⟩ := hr
  exact ⟨v', w', σ', .inl (by rw [h]; simp [h1]), h2⟩
theorem valA_eq {x : Option AV} {c : Bool} {v : AV} {u : List (Nat × Option AO)} (h : valA x = some ⟨c, v, u⟩) : x = some v ∧ c = true ∧ u = [] := by
  unfold valA at h
  split at h
  · simp at h; obtain ⟨rfl, rfl, rfl⟩ := h; exact ⟨rfl, rfl, rfl⟩
  · cases h
theorem cvA_eq {x : Option CV} {c : Bool} {v : AV} {u : List (Nat × Option AO)} (h : cvA x = some ⟨c, v, u⟩) : x = some (c, v) ∧ u = [] := by
  unfold cvA at h
  split at h
  · simp at h; obtain ⟨rfl, rfl, rfl⟩ := h; exact ⟨rfl, rfl⟩
  · cases h
theorem dest_ows (oi : OI S σ ob w) {o : Nat} {cs : List CK} {xs : List (Elem cs)} (h : elems ob cs (.ows o) = some xs) {v : Value} (hv : R S σ (.ows o) v) : Dest S σ ob w cs xs [(o, none)] v := by
  simp only [elems] at h
  split at h
  · rename_i cs' ys ho
    obtain ⟨rfl, h⟩ := castE_eq h
    simp at h; subst h
    obtain ⟨k', hk', hx, hvt, hreal⟩ := oi.ok o _ ho
    cases hv with
    | ows _ k cap hk hr h1 h2 =>
      rw [hk] at hk'
      obtain rfl := Option.some.inj hk'
      have := Dest.row (S := S) (w := w) o k ys k.n cap ho hk hr (Nat.le_refl _) h1 h2
      rwa [List.take_of_length_le (by omega)] at this
    | ows0 _ k x hk hr hn =>
      rw [hk] at hk'
      obtain rfl := Option.some.inj hk'
      have := hvt hr
      subst this
      exact .empty _ (by simp) x
  · cases h
theorem dest_osl (oi : OI S σ ob w) {o n : Nat} {cs : List CK} {xs : List (Elem cs)} (h : elems ob cs (.osl o 0 n) = some xs) {v : Value} (hv : R S σ (.osl o 0 n) v) : Dest S σ ob w cs xs [(o, none)] v := by
  simp only [elems] at h
  split at h
  · rename_i cs' ys ho
    obtain ⟨rfl, h⟩ := castE_eq h
    simp at h; subst h
    obtain ⟨k', hk', hx, hvt, hreal⟩ := oi.ok o _ ho
    generalize hz : (0 : Nat) = z at hv
    cases hv with
    | osl _ _ _ k cap hk hr h0 h1 h2 =>
      subst hz
      rw [hk] at hk'
      obtain rfl := Option.some.inj hk'
      have := Dest.row (S := S) (w := w) o k ys n cap ho hk hr (by omega) h1 (by simpa using h2)
      simpa using this
    | osl0 _ _ k x hk h0 =>
      subst hz
      exact .empty _ (by simp) x
  · cases h
theorem append_ok (tt : TTOK P E.tt) (oi : OI S σ ob w) {t ty nb : Nat} {az ax : AV} {out : Out} (h : appendA E nb t ob az ax = some out) (hc : out.c = true) {vs vx : Value} (hs : R S σ az vs) (hx : R S σ ax vx) (hn : σ nb = none) :
    ∃ v' w' σ', (Builtin.append_ #[t, t] ty #[vs, vx]).run P w = .ok v' w' ∧ Does S σ ob w nb out.v out.u v' w' σ' := by
  unfold appendA at h
  split at h
  · rename_i ti cs hk
    obtain ⟨e, hu, row, rfl, _⟩ := kindsOf_ok tt hk
    split at h
    · rename_i hsz
      split at h
      · rename_i xs fr hd
        split at h
        · rename_i ys hys
          simp at h
          subst h
          simp at hc
          obtain ⟨A, c, rfl, _, hcell⟩ := elems_ok oi hys hx
          refine append_dest oi hu row hsz.1 hsz.2.1 hsz.2.2 ?_ hcell hc hn
          split at hd
          · simp at hd
            obtain ⟨rfl, rfl⟩ := hd
            cases hs
            exact .empty _ (by simp) none
          · rename_i o
            split at hd
            · rename_i xs' hxs
              simp at hd
              obtain ⟨rfl, rfl⟩ := hd
              exact dest_ows oi hxs hs
            · cases hd
          · rename_i o n
            split at hd
            · rename_i xs' hxs
              simp at hd
              obtain ⟨rfl, rfl⟩ := hd
              exact dest_osl oi hxs hs
            · cases hd
          · cases hd
        · cases h
      · cases h
    · cases h
  · cases h

theorem resolve_builtin {b : Builtin} {args : Array Operand} {ts : Array TypeId} {s : Sem Value} {ρ : Operand → Value} (o : Oper)
    (ho : o.op = .call ⟨.builtin b, args, ts⟩) (hb : builtin b ts o.type (args.map fun | .const _ => true | _ => false) (args.map ρ) = (do pure (.value (← s)))) : execOp ρ o = (do pure (.value (← s))) := by
  unfold execOp
  simp only [ho]
  simp only [resolve, pure_bind, invoke]
  exact hb
theorem RL.two {x y : AV} {vs : List Value} (h : RL S σ [x, y] vs) : ∃ v u, vs = [v, u] ∧ R S σ x v ∧ R S σ y u := by
  obtain ⟨v, vs', rfl, h1, h2⟩ := h.uncons
  obtain ⟨u, vs'', rfl, h3, h4⟩ := h2.uncons
  have : vs'' = [] := List.eq_nil_of_length_eq_zero (by have := h4.1; simpa using this.symm)
  subst this
  exact ⟨v, u, rfl, h1, h3⟩
theorem RL.one {x : AV} {vs : List Value} (h : RL S σ [x] vs) : ∃ v, vs = [v] ∧ R S σ x v := by
  obtain ⟨v, vs', rfl, h1, h2⟩ := h.uncons
  have : vs' = [] := List.eq_nil_of_length_eq_zero (by have := h2.1; simpa using this.symm)
  subst this
  exact ⟨v, rfl, h1⟩
theorem zeroCells_flat {e : Nat} {cs : List CK} {te : TI} (row : RowOK P e te) (hc : te.cks = cs) (hl : cs.length = te.size) (hp : 0 < te.size) (n : Nat) : (Builtin.zeroCells te.zero.cells n).toList = flat cs (List.replicate n (edflt cs)) := by
  subst hc
  have hz : te.zero.cells.toList = vals te.cks (edflt te.cks) := by
    rw [row.c]
    rcases row.k with h | h
    · rw [h] at hl; simp at hl; omega
    · exact h
  have hs : te.zero.cells.size = te.cks.length := by
    rw [← Array.length_toList, hz, vals_length]
  have hf := flat_length te.cks (List.replicate n (edflt te.cks))
  rw [List.length_replicate] at hf
  apply List.ext_getElem
  · simp [Builtin.zeroCells, hs, hf]
  · intro i h1 h2
    have hi : i < n * te.cks.length := by rw [hf] at h2; exact h2
    have hq : i / te.cks.length < n := by
      rw [Nat.div_lt_iff_lt_mul (by omega)]
      exact hi
    have hr : i % te.cks.length < te.cks.length := Nat.mod_lt _ (by omega)
    have hat := flat_at te.cks (List.replicate n (edflt te.cks)) (i / te.cks.length) (by simpa using hq)
    have hg : (List.replicate n (edflt te.cks)).getD (i / te.cks.length) (edflt te.cks) = edflt te.cks := by
      rw [List.getD_eq_getElem?_getD, List.getElem?_replicate]
      split <;> rfl
    rw [hg] at hat
    have e1 : (flat te.cks (List.replicate n (edflt te.cks)))[i]? = (vals te.cks (edflt te.cks))[i % te.cks.length]? := by
      rw [← hat, List.getElem?_take, if_pos hr, List.getElem?_drop]
      congr 1
      have := Nat.div_add_mod i te.cks.length
      rw [Nat.mul_comm]
      omega
    have e2 : (Builtin.zeroCells te.zero.cells n).toList[i]? = (vals te.cks (edflt te.cks))[i % te.cks.length]? := by
      rw [← hz, Array.getElem?_toList, Array.getElem?_toList]
      unfold Builtin.zeroCells
      rw [Array.getElem?_map, Array.getElem?_range, if_pos (by rw [hs]; exact hi)]
      show some (te.zero.cells[i % te.zero.cells.size]!) = _
      rw [hs]
      rw [getElem!_pos te.zero.cells (i % te.cks.length) (by rw [hs]; exact hr), Array.getElem?_eq_getElem (by rw [hs]; exact hr)]
    have := e2.trans e1.symm
    rw [List.getElem?_eq_getElem h1, List.getElem?_eq_getElem h2] at this
    exact Option.some.inj this
theorem clear_ok (tt : TTOK P E.tt) (oi : OI S σ ob w) {t ty nb o lo n : Nat} {ti : TI} {cs : List CK} {xs : List (Elem cs)} (hk : kindsOf E t = some (ti, cs)) (ho : ob o = some (.row cs xs)) (hsz : cs.length = ti.size) (hp : 0 < ti.size) {v : Value} (hv : R S σ (.osl o lo n) v) :
    ∃ v' w' σ', (Builtin.clear_ #[t] ty #[v]).run P w = .ok v' w' ∧ Does S σ ob w nb (.val (.tuple #[])) [(o, some (.row cs (zapR cs xs lo n)))] v' w' σ' := by
  obtain ⟨e, hu, row, hcs, _⟩ := kindsOf_ok tt hk
  have same : n = 0 → updF ob [(o, some (.row cs (zapR cs xs lo n)))] = ob := by
    intro h0
    subst h0
    have : zapR cs xs lo 0 = xs := by unfold zapR; simp
    rw [this]
    funext q
    by_cases hq : q = o
    · subst hq; simp [updF, ho]
    · simp [updF, hq]
  have nop : n = 0 → Does S σ ob w nb (.val (.tuple #[])) [(o, some (.row cs (zapR cs xs lo n)))] (.tuple #[]) w σ := fun h0 =>
    ⟨.val _, by rw [same h0]; exact oi, fun _ _ h => h, fun _ h => .inl h, .refl w, fun _ _ _ => rfl, fun b h => by rw [same h0] at h; exact .inl h⟩
  cases hv with
  | osl0 _ _ k x hk' h0 => exact ⟨_, _, _, by cases x <;> simp [Builtin.clear_, run_underlying hu], nop rfl⟩
  | osl _ _ _ k cap hk' hr h0 h1 h2 =>
    by_cases hn : n = 0
    · subst hn
      exact ⟨_, _, _, by simp [Builtin.clear_, run_underlying hu], nop rfl⟩
    obtain ⟨k', hk2, ok⟩ := oi.ok o _ ho
    rw [hk'] at hk2
    obtain rfl := Option.some.inj hk2
    obtain ⟨hx, _, hreal⟩ := ok
    obtain ⟨hm, cur, et, hb, hcsz, ht⟩ := hreal hr
    obtain ⟨i, hi, _, _, hiz⟩ := row.info
    have hzc := zeroCells_flat (P := P) row hcs.symm hsz hp n
    have hfl := flat_length cs xs
    have hfr := flat_length cs (List.replicate n (edflt cs))
    rw [List.length_replicate] at hfr
    have hle : (flat cs xs).length ≤ cur.size := by
      have := congrArg List.length ht
      simp at this
      omega
    have hfit : lo * k.m + (n * cs.length) ≤ cur.size := by
      have : (lo + n) * cs.length ≤ xs.length * cs.length := Nat.mul_le_mul_right _ (by omega)
      rw [Nat.add_mul] at this
      rw [← hm]
      omega
    have hone : ∀ u ∈ flat cs (List.replicate n (edflt cs)), u.oneCell' = true := by
      intro u hu'
      simp only [flat, List.mem_flatMap] at hu'
      obtain ⟨y, _, hu'⟩ := hu'
      exact vals_one cs y u hu'
    have hrun := run_storeCells_at (P := P) k.b (lo * k.m) et (flat cs (List.replicate n (edflt cs))) 0 cur w hb (by rw [hfr]; simpa using hfit) hone
    simp only [Nat.add_zero] at hrun
    obtain ⟨m, rfl⟩ : ∃ m, n = m + 1 := ⟨n - 1, by omega⟩
    refine ⟨_, w.setRow k.b (cur.toList.take (lo * k.m) ++ flat cs (List.replicate (m + 1) (edflt cs)) ++ cur.toList.drop (lo * k.m + (flat cs (List.replicate (m + 1) (edflt cs))).length)).toArray, σ, by
      simp [Builtin.clear_, run_underlying hu, zeroValue, typeInfo, hi, hiz, hzc, hrun], ⟨.val _, ?_, fun _ _ h => h, fun _ h => .inl h, .setRow _ _ _, fun b _ hno => setRow_other w k.b b _ fun e => hno ⟨o, _, k, ho, hk', hr, e.symm⟩, fun b hb => .inl (own_set ho b hb)⟩⟩
    have hnew : cur.toList.take (lo * k.m) ++ flat cs (List.replicate (m + 1) (edflt cs)) ++ cur.toList.drop (lo * k.m + (flat cs (List.replicate (m + 1) (edflt cs))).length) = flat cs (zapR cs xs lo (m + 1)) ++ cur.toList.drop (flat cs xs).length := by
      have hcur : cur.toList = flat cs xs ++ cur.toList.drop (flat cs xs).length := by
        conv => lhs; rw [← List.take_append_drop (flat cs xs).length cur.toList, ht]
      have a1 : cur.toList.take (lo * cs.length) = flat cs (xs.take lo) := by
        rw [hcur, List.take_append_of_le_length (by rw [hfl]; exact Nat.mul_le_mul_right _ (by omega)), flat_take]
      have a2 : cur.toList.drop ((lo + (m + 1)) * cs.length) = flat cs (xs.drop (lo + (m + 1))) ++ cur.toList.drop (flat cs xs).length := by
        conv => lhs; rw [hcur]
        rw [List.drop_append_of_le_length (by rw [hfl]; exact Nat.mul_le_mul_right _ (by omega)), flat_drop]
      rw [hfr, ← hm, a1, ← Nat.add_mul, a2]
      unfold zapR
      rw [flat_append, flat_append]
      simp [List.append_assoc]
    have hz : (zapR cs xs lo (m + 1)).length = xs.length := by
      unfold zapR
      simp
      omega
    refine oi.set ho hk' hr (fun b _ hne => setRow_other w k.b b _ hne) ⟨by rw [hz]; exact hx, fun hf => by simp [hr] at hf, fun _ => ⟨hm, _, et, setRow_heap w k.b cur _ et _ hb, ?_, ?_⟩⟩
    · rw [hnew, ← hcsz]
      have hl1 := flat_length cs (zapR cs xs lo (m + 1))
      rw [hz] at hl1
      simp
      rw [hl1, ← hfl]
      omega
    · simp only [List.toList_toArray]
      rw [hnew]
      exact List.take_left
theorem builtin_ok (tt : TTOK P E.tt) (oi : OI S σ ob w) {nb : Nat} (hn : σ nb = none) {o : Oper} {b : Builtin} {args : Array Operand} {ts : Array TypeId} (ho : o.op = .call ⟨.builtin b, args, ts⟩) {az : List AV} {out : Out}
    (h : builtinA E nb ob b ts.toList az = some out) (hc : out.c = true) (hl : RL S σ az (args.map a.eval).toList) : ∃ v' w' σ', Comes P a o w v' w' ∧ Does S σ ob w nb out.v out.u v' w' σ' := by
  have arr : ∀ {xs : List Value}, (args.map a.eval).toList = xs → args.map a.eval = xs.toArray := fun h => by rw [← h]
  have tarr : ∀ {xs : List Nat}, ts.toList = xs → ts = xs.toArray := fun h => by rw [← h]
  unfold builtinA at h
  split at h
  · rename_i x
    obtain ⟨v, hv, hR⟩ := hl.one
    split at h
    · rename_i t ht
      have hts := tarr ht
      split at h
      · rename_i n e _ _ _ _ hlt
        have hu := (tt.row hlt).array rfl
        simp at h; subst h
        exact comes_pure oi (resolve_builtin (s := Builtin.len_ ts o.type (args.map a.eval)) o ho rfl) ⟨_, by rw [arr hv, hts]; simp [Builtin.len_, run_underlying hu, goInt], .val _⟩
      · rename_i e _ _ _ _ hlt
        have hu := (tt.row hlt).slice rfl
        split at h
        · cases h
        · rename_i hnv
          split at h
          · rename_i n hln
            simp at h; subst h
            rcases lenAV_ok oi hln hR with ⟨A, c, rfl, _⟩ | ⟨s, rfl, _⟩
            · exact comes_pure oi (resolve_builtin (s := Builtin.len_ ts o.type (args.map a.eval)) o ho rfl) ⟨_, by rw [arr hv, hts]; simp [Builtin.len_, run_underlying hu, goInt], .val _⟩
            · exact absurd rfl (hnv _)
          · cases h
      · rename_i hlt
        have hu := (tt.row hlt).str rfl
        split at h
        · rename_i s
          simp at h; subst h
          cases hR
          exact comes_pure oi (resolve_builtin (s := Builtin.len_ ts o.type (args.map a.eval)) o ho rfl) ⟨_, by rw [arr hv, hts]; simp [Builtin.len_, run_underlying hu, goInt], .val _⟩
        · cases h
      · cases h
    · cases h
  · rename_i x y
    obtain ⟨v, u, hv, h1, h2⟩ := hl.two
    split at h
    · rename_i t t' ht
      have hts := tarr ht
      split at h
      · rename_i e
        subst e
        refine comes_new (resolve_builtin (s := Builtin.append_ ts o.type (args.map a.eval)) o ho rfl) ?_
        rw [arr hv, hts]
        exact append_ok tt oi h hc h1 h2 hn
      · cases h
    · cases h
  · rename_i k x k' y
    obtain ⟨v, u, hv, h1, h2⟩ := hl.two
    split at h
    · rename_i e
      subst e
      simp at h; subst h
      cases h1; cases h2
      exact comes_pure oi (resolve_builtin (s := Builtin.min_ ts o.type (args.map a.eval)) o ho rfl) ⟨_, by rw [arr hv]; simp [Builtin.min_, Builtin.min2], .val _⟩
    · cases h
  · rename_i k x k' y
    obtain ⟨v, u, hv, h1, h2⟩ := hl.two
    split at h
    · rename_i e
      subst e
      simp at h; subst h
      cases h1; cases h2
      exact comes_pure oi (resolve_builtin (s := Builtin.max_ ts o.type (args.map a.eval)) o ho rfl) ⟨_, by rw [arr hv]; simp [Builtin.max_, Builtin.max2], .val _⟩
    · cases h
  · rename_i o' lo n
    obtain ⟨v, hv, hR⟩ := hl.one
    split at h
    · rename_i t ht
      have hts := tarr ht
      split at h
      · rename_i ti cs cs' xs hk hob
        split at h
        · rename_i hcs
          obtain ⟨rfl, h1, h2⟩ := hcs
          simp at h; subst h
          refine comes_new (resolve_builtin (s := Builtin.clear_ ts o.type (args.map a.eval)) o ho rfl) ?_
          rw [arr hv, hts]
          exact clear_ok tt oi hk hob h1 h2 hR
        · cases h
      · cases h
    · cases h
  · cases h

theorem Does.nop (oi : OI S σ ob w) {nb : Nat} {v : AV} {v' : Value} (r : R S σ v v') : ∃ w' σ', w' = w ∧ Does S σ ob w nb v [] v' w' σ' := ⟨w, σ, rfl, Does.pure oi nb r⟩
theorem comp_move (tt : TTOK P E.tt) (he : EqsOK P E) (hs : Slots S σ l a) (oi : OI S σ ob w) {nb : Nat} (hn : σ nb = none) {o : Oper} {v : AV} {u : List (Nat × Option AO)} (h : comp E nb o (getT l) ob = some ⟨true, v, u⟩) (x : Operand) (ho : o.op = .move x) : ∃ v' w' σ', Comes P a o w v' w' ∧ Does S σ ob w nb v u v' w' σ' := by
  have h0 := h
  unfold comp at h
  simp only [ho] at h
  obtain ⟨h1, _, rfl⟩ := valA_eq h
  exact ⟨_, w, σ, .inl (by unfold execOp; simp only [ho]; rfl), Does.pure oi nb (opd_R hs _ _ _ h1)⟩
theorem comp_assign (tt : TTOK P E.tt) (he : EqsOK P E) (hs : Slots S σ l a) (oi : OI S σ ob w) {nb : Nat} (hn : σ nb = none) {o : Oper} {v : AV} {u : List (Nat × Option AO)} (h : comp E nb o (getT l) ob = some ⟨true, v, u⟩) (x : Operand) (ho : o.op = .assign x) : ∃ v' w' σ', Comes P a o w v' w' ∧ Does S σ ob w nb v u v' w' σ' := by
  have h0 := h
  unfold comp at h
  simp only [ho] at h
  obtain ⟨h1, _, rfl⟩ := valA_eq h
  exact ⟨_, w, σ, .inl (by unfold execOp; simp only [ho]; rfl), Does.pure oi nb (opd_R hs _ _ _ h1)⟩
theorem comp_pick (tt : TTOK P E.tt) (he : EqsOK P E) (hs : Slots S σ l a) (oi : OI S σ ob w) {nb : Nat} (hn : σ nb = none) {o : Oper} {v : AV} {u : List (Nat × Option AO)} (h : comp E nb o (getT l) ob = some ⟨true, v, u⟩) (c x y : Operand) (ho : o.op = .pick c x y) : ∃ v' w' σ', Comes P a o w v' w' ∧ Does S σ ob w nb v u v' w' σ' := by
  have h0 := h
  unfold comp at h
  simp only [ho] at h
  split at h
  · rename_i hb
    obtain ⟨h1, _, rfl⟩ := valA_eq h
    have hR := opd_R hs _ _ _ hb
    generalize hz : a.eval c = z at hR
    cases hR
    exact ⟨_, w, σ, .inl (by unfold execOp; simp [ho, hz, asBool]), Does.pure oi nb (opd_R hs _ _ _ h1)⟩
  · rename_i hb
    obtain ⟨h1, _, rfl⟩ := valA_eq h
    have hR := opd_R hs _ _ _ hb
    generalize hz : a.eval c = z at hR
    cases hR
    exact ⟨_, w, σ, .inl (by unfold execOp; simp [ho, hz, asBool]), Does.pure oi nb (opd_R hs _ _ _ h1)⟩
  · cases h
theorem comp_alloc (tt : TTOK P E.tt) (he : EqsOK P E) (hs : Slots S σ l a) (oi : OI S σ ob w) {nb : Nat} (hn : σ nb = none) {o : Oper} {v : AV} {u : List (Nat × Option AO)} (h : comp E nb o (getT l) ob = some ⟨true, v, u⟩) (t : TypeId) (ho : o.op = .alloc t) : ∃ v' w' σ', Comes P a o w v' w' ∧ Does S σ ob w nb v u v' w' σ' := by
  have h0 := h
  unfold comp at h
  simp only [ho] at h
  split at h
  · rename_i ti hti
    have row := tt.row hti
    obtain ⟨i, hi, _, _, hiz⟩ := row.info
    simp at h
    obtain ⟨rfl, rfl⟩ := h
    refine comes_new (s := Instr.alloc t true (.tuple #[])) (by unfold execOp; simp only [ho]) ⟨.pointer (some ⟨w.heap.size, 0, none⟩), w.alloc (.cells ti.zero.cells t), fun p => if p = nb then some ⟨w.heap.size, 0, 0, 0, true⟩ else σ p, by simp [Instr.alloc, zeroValue, typeInfo, hi, hiz, newVar, newRow], ?_⟩
    exact Does.alloc oi (k := ⟨w.heap.size, 0, 0, 0, true⟩) hn rfl (.ptr nb 0 ⟨w.heap.size, 0, 0, 0, true⟩ (if_pos rfl) rfl) ⟨rfl, _, t, heap_alloc_new w _, by rw [row.c]; exact zav_RL _⟩
  · cases h
theorem comp_box (tt : TTOK P E.tt) (he : EqsOK P E) (hs : Slots S σ l a) (oi : OI S σ ob w) {nb : Nat} (hn : σ nb = none) {o : Oper} {v : AV} {u : List (Nat × Option AO)} (h : comp E nb o (getT l) ob = some ⟨true, v, u⟩) (t : TypeId) (x : Operand) (ho : o.op = .box t x) : ∃ v' w' σ', Comes P a o w v' w' ∧ Does S σ ob w nb v u v' w' σ' := by
  have h0 := h
  unfold comp at h
  simp only [ho] at h
  split at h
  · rename_i ti av hti hav
    split at h
    · rename_i us hus
      split at h
      · simp at h
        obtain ⟨rfl, rfl⟩ := h
        have hR := opd_R hs _ _ _ hav
        obtain ⟨hc, _⟩ := cellsOf_ok hus hR
        refine comes_new (s := Instr.box t (a.eval x)) (by unfold execOp; simp only [ho]) ⟨.pointer (some ⟨w.heap.size, 0, none⟩), w.alloc (.cells (a.eval x).cells t), fun p => if p = nb then some ⟨w.heap.size, 0, 0, 0, true⟩ else σ p, by simp [Instr.box, newVar, newRow], ?_⟩
        exact Does.alloc oi (k := ⟨w.heap.size, 0, 0, 0, true⟩) hn rfl (.ptr nb 0 ⟨w.heap.size, 0, 0, 0, true⟩ (if_pos rfl) rfl) ⟨rfl, _, t, heap_alloc_new w _, hc.mono (ext_put (.inl hn)) fun _ _ h => h⟩
      · cases h
    · cases h
  · cases h
theorem comp_build (tt : TTOK P E.tt) (he : EqsOK P E) (hs : Slots S σ l a) (oi : OI S σ ob w) {nb : Nat} (hn : σ nb = none) {o : Oper} {v : AV} {u : List (Nat × Option AO)} (h : comp E nb o (getT l) ob = some ⟨true, v, u⟩) (t : TypeId) (ps : Array (Nat × Operand)) (ho : o.op = .build t ps) : ∃ v' w' σ', Comes P a o w v' w' ∧ Does S σ ob w nb v u v' w' σ' := by
  have h0 := h
  unfold comp at h
  simp only [ho] at h
  obtain ⟨hc, hu, v', hr, hR⟩ := built_ok tt hs oi ho h0
  simp at hu
  subst hu
  exact comes_pure oi (s := Instr.build t (ps.map fun (i, x) => (i, a.eval x))) (by unfold execOp; simp only [ho]) ⟨v', hr, hR⟩
theorem comp_buildSlice (tt : TTOK P E.tt) (he : EqsOK P E) (hs : Slots S σ l a) (oi : OI S σ ob w) {nb : Nat} (hn : σ nb = none) {o : Oper} {v : AV} {u : List (Nat × Option AO)} (h : comp E nb o (getT l) ob = some ⟨true, v, u⟩) (t n : Nat) (ps : Array (Nat × Operand)) (ho : o.op = .buildSlice t n ps) : ∃ v' w' σ', Comes P a o w v' w' ∧ Does S σ ob w nb v u v' w' σ' := by
  have h0 := h
  unfold comp at h
  simp only [ho] at h
  split at h
  · rename_i te cs e _ _ _ _ hk hlt
    split at h
    · rename_i hcs
      split at h
      · rename_i us hus
        split at h
        · rename_i xs hxs
          simp at h
          obtain ⟨rfl, rfl⟩ := h
          obtain ⟨e', hu, _, _, hte, a1, a2, a3, a4, hl'⟩ := kindsOf_ok tt hk
          have : e' = e := by rw [hlt] at hl'; simp at hl'; exact hl'.1.symm
          subst this
          have hh := buildSlice_ok tt hs oi hk hu hte hcs.1 hcs.2 hus hxs hn
          refine comes_new ?_ hh
          unfold execOp
          simp only [ho]
        · cases h
      · cases h
    · cases h
  · cases h
theorem comp_load (tt : TTOK P E.tt) (he : EqsOK P E) (hs : Slots S σ l a) (oi : OI S σ ob w) {nb : Nat} (hn : σ nb = none) {o : Oper} {v : AV} {u : List (Nat × Option AO)} (h : comp E nb o (getT l) ob = some ⟨true, v, u⟩) (t : TypeId) (x : Operand) (ho : o.op = .load t x) : ∃ v' w' σ', Comes P a o w v' w' ∧ Does S σ ob w nb v u v' w' σ' := by
  have h0 := h
  unfold comp at h
  simp only [ho] at h
  split at h
  · rename_i ti av hti hav
    split at h
    · rename_i us hus
      obtain ⟨h1, _, rfl⟩ := valA_eq h
      exact comes_pure oi (s := Instr.loadAt t (a.eval x)) (by unfold execOp; simp only [ho]) (load_ok oi (tt.row hti) hus h1 (opd_R hs _ _ _ hav))
    · cases h
  · cases h
theorem comp_store (tt : TTOK P E.tt) (he : EqsOK P E) (hs : Slots S σ l a) (oi : OI S σ ob w) {nb : Nat} (hn : σ nb = none) {o : Oper} {v : AV} {u : List (Nat × Option AO)} (h : comp E nb o (getT l) ob = some ⟨true, v, u⟩) (t : TypeId) (x y : Operand) (ho : o.op = .store t x y) : ∃ v' w' σ', Comes P a o w v' w' ∧ Does S σ ob w nb v u v' w' σ' := by
  have h0 := h
  unfold comp at h
  simp only [ho] at h
  split at h
  · rename_i ti av xv hti hav hxv
    split at h
    · rename_i ns hns
      split at h
      · rename_i hsz
        split at h
        · rename_i u' hu'
          simp at h
          obtain ⟨rfl, rfl⟩ := h
          obtain ⟨w', hr, hd⟩ := store_ok oi (tt.row hti) hns hsz hu' (opd_R hs _ _ _ hav) (opd_R hs _ _ _ hxv) nb
          exact ⟨undef, w', σ, .inr ⟨by unfold execOp; simp [ho, hr], rfl⟩, hd⟩
        · cases h
      · cases h
    · cases h
  · cases h
theorem comp_nilCheck (tt : TTOK P E.tt) (he : EqsOK P E) (hs : Slots S σ l a) (oi : OI S σ ob w) {nb : Nat} (hn : σ nb = none) {o : Oper} {v : AV} {u : List (Nat × Option AO)} (h : comp E nb o (getT l) ob = some ⟨true, v, u⟩) (x : Operand) (ho : o.op = .nilCheck x) : ∃ v' w' σ', Comes P a o w v' w' ∧ Does S σ ob w nb v u v' w' σ' := by
  have h0 := h
  unfold comp at h
  simp only [ho] at h
  have key : ∀ av, opd E (getT l) 0 x = some av → (some ⟨true, av, []⟩ : Option Out) = some ⟨true, v, u⟩ → (∀ y, R S σ av y → (match y with | .pointer none | .nilIface | .nilFunc => False | .func (.method _) _ _ => False | _ => True)) →
      ∃ v' w' σ', Comes P a o w v' w' ∧ Does S σ ob w nb v u v' w' σ' := by
    intro av hav h hy
    simp at h
    obtain ⟨rfl, rfl⟩ := h
    have hR := opd_R hs _ _ _ hav
    have := hy _ hR
    refine ⟨_, w, σ, .inl ?_, Does.pure oi nb hR⟩
    unfold execOp
    simp only [ho]
    split <;> simp_all
  split at h
  · rename_i hav; exact key _ hav h fun y hy => by cases hy; trivial
  · rename_i hav; exact key _ hav h fun y hy => by cases hy; trivial
  · rename_i hav; exact key _ hav h fun y hy => by cases hy; trivial
  · rename_i hav; exact key _ hav h fun y hy => by cases hy; trivial
  · rename_i hav; exact key _ hav h fun y hy => by cases hy; trivial
  · cases h
theorem comp_binOp (tt : TTOK P E.tt) (he : EqsOK P E) (hs : Slots S σ l a) (oi : OI S σ ob w) {nb : Nat} (hn : σ nb = none) {o : Oper} {v : AV} {u : List (Nat × Option AO)} (h : comp E nb o (getT l) ob = some ⟨true, v, u⟩) (op : BinOp) (t : TypeId) (x y : Operand) (z : TypeId) (ho : o.op = .binOp op t x y z) : ∃ v' w' σ', Comes P a o w v' w' ∧ Does S σ ob w nb v u v' w' σ' := by
  have h0 := h
  unfold comp at h
  simp only [ho] at h
  split at h
  · rename_i ax ay hx hy
    obtain ⟨h1, rfl⟩ := cvA_eq h
    exact comes_pure oi (s := do eqGuard op t x y (a.eval x) (a.eval y); binOp op t (a.eval x) (a.eval y)) (by unfold execOp; simp only [ho]) (binOp_ok tt he h1 (opd_R hs _ _ _ hx) (opd_R hs _ _ _ hy))
  · cases h
theorem comp_unOp (tt : TTOK P E.tt) (he : EqsOK P E) (hs : Slots S σ l a) (oi : OI S σ ob w) {nb : Nat} (hn : σ nb = none) {o : Oper} {v : AV} {u : List (Nat × Option AO)} (h : comp E nb o (getT l) ob = some ⟨true, v, u⟩) (op : UnOp) (t : TypeId) (x : Operand) (ho : o.op = .unOp op t x) : ∃ v' w' σ', Comes P a o w v' w' ∧ Does S σ ob w nb v u v' w' σ' := by
  have h0 := h
  unfold comp at h
  simp only [ho] at h
  split at h
  · rename_i ax hx
    obtain ⟨h1, rfl⟩ := cvA_eq h
    exact comes_pure oi (s := Op.unary op (a.eval x)) (by unfold execOp; simp only [ho]) (unOp_ok h1 (opd_R hs _ _ _ hx))
  · cases h
theorem comp_convert (tt : TTOK P E.tt) (he : EqsOK P E) (hs : Slots S σ l a) (oi : OI S σ ob w) {nb : Nat} (hn : σ nb = none) {o : Oper} {v : AV} {u : List (Nat × Option AO)} (h : comp E nb o (getT l) ob = some ⟨true, v, u⟩) (src dst : TypeId) (x : Operand) (ho : o.op = .convert src dst x) : ∃ v' w' σ', Comes P a o w v' w' ∧ Does S σ ob w nb v u v' w' σ' := by
  have h0 := h
  unfold comp at h
  simp only [ho] at h
  split at h
  · rename_i ax hx
    obtain ⟨h1, rfl⟩ := cvA_eq h
    exact comes_pure oi (s := convert src dst (a.eval x)) (by unfold execOp; simp only [ho]) (conv_ok tt oi h1 (opd_R hs _ _ _ hx))
  · cases h
theorem comp_makeInterface (tt : TTOK P E.tt) (he : EqsOK P E) (hs : Slots S σ l a) (oi : OI S σ ob w) {nb : Nat} (hn : σ nb = none) {o : Oper} {v : AV} {u : List (Nat × Option AO)} (h : comp E nb o (getT l) ob = some ⟨true, v, u⟩) (t : TypeId) (x : Operand) (ho : o.op = .makeInterface t x) : ∃ v' w' σ', Comes P a o w v' w' ∧ Does S σ ob w nb v u v' w' σ' := by
  have h0 := h
  unfold comp at h
  simp only [ho] at h
  split at h
  · rename_i ti hti
    have row := tt.row hti
    obtain ⟨d, hd⟩ := row.desc
    split at h
    · cases h
    · rename_i hni
      simp at h
      obtain ⟨rfl, rfl⟩ := h
      refine comes_pure oi (s := Instr.makeInterface t (a.eval x)) (by unfold execOp; simp only [ho]) ⟨.iface t (a.eval x), ?_, .ifc _ _⟩
      have hh := row.d
      unfold undD at hh
      rw [hd] at hh
      simp only [Instr.makeInterface, Sem.run_bind, run_underlying hd w]
      cases d <;> simp_all
  · cases h
theorem comp_makeFunc (tt : TTOK P E.tt) (he : EqsOK P E) (hs : Slots S σ l a) (oi : OI S σ ob w) {nb : Nat} (hn : σ nb = none) {o : Oper} {v : AV} {u : List (Nat × Option AO)} (h : comp E nb o (getT l) ob = some ⟨true, v, u⟩) (f : FuncId) (first caps : Array Operand) (ho : o.op = .makeFunc (.func f) first caps) : ∃ v' w' σ', Comes P a o w v' w' ∧ Does S σ ob w nb v u v' w' σ' := by
  have h0 := h
  unfold comp at h
  simp only [ho] at h
  split at h
  · rename_i hf
    split at h
    · rename_i us hus
      simp at h
      obtain ⟨rfl, rfl⟩ := h
      have hR := opdL_RL hs _ _ _ hus
      refine comes_pure oi (s := Instr.makeFunc (.func f) (first.map a.eval) (caps.map a.eval)) (by unfold execOp; simp only [ho]) ⟨_, rfl, ?_⟩
      have hf0 : first = #[] := Array.eq_empty_of_size_eq_zero hf
      subst hf0
      have e : caps.map a.eval = (caps.toList.map a.eval).toArray := by
        apply Array.toList_inj.1
        simp only [Array.toList_map]
      rw [e, show (#[] : Array Operand).map a.eval = #[] from Array.map_empty]
      exact .fn f us _ hR.1 hR.2
    · cases h
  · cases h
theorem comp_makeSlice (tt : TTOK P E.tt) (he : EqsOK P E) (hs : Slots S σ l a) (oi : OI S σ ob w) {nb : Nat} (hn : σ nb = none) {o : Oper} {v : AV} {u : List (Nat × Option AO)} (h : comp E nb o (getT l) ob = some ⟨true, v, u⟩) (t : TypeId) (x y : Operand) (ho : o.op = .makeSlice t x y) : ∃ v' w' σ', Comes P a o w v' w' ∧ Does S σ ob w nb v u v' w' σ' := by
  have h0 := h
  unfold comp at h
  simp only [ho] at h
  split at h
  · rename_i te cs n m hk hx hy
    split at h
    · rename_i hcs
      simp at h
      obtain ⟨⟨h1, h2, h3⟩, rfl, rfl⟩ := h
      have r1 := opd_R hs _ _ _ hx
      have r2 := opd_R hs _ _ _ hy
      generalize hz1 : a.eval x = z1 at r1
      generalize hz2 : a.eval y = z2 at r2
      cases r1; cases r2
      exact comes_new (s := Instr.makeSlice t (a.eval x) (a.eval y)) (by unfold execOp; simp only [ho]) (by rw [hz1, hz2]; exact makeSlice_ok tt oi hk hcs.1 hcs.2 h1 h2 h3 hn)
    · cases h
  · cases h
theorem comp_slice (tt : TTOK P E.tt) (he : EqsOK P E) (hs : Slots S σ l a) (oi : OI S σ ob w) {nb : Nat} (hn : σ nb = none) {o : Oper} {v : AV} {u : List (Nat × Option AO)} (h : comp E nb o (getT l) ob = some ⟨true, v, u⟩) (t : TypeId) (x : Operand) (lo hi mx : Option Operand) (ho : o.op = .slice t x lo hi mx) : ∃ v' w' σ', Comes P a o w v' w' ∧ Does S σ ob w nb v u v' w' σ' := by
  have h0 := h
  unfold comp at h
  simp only [ho] at h
  split at h
  · rename_i ax hx
    obtain ⟨h1, rfl⟩ := cvA_eq h
    exact comes_pure oi (s := Instr.sliceAt t (a.eval x) (lo.map a.eval) (hi.map a.eval) (mx.map a.eval)) (by unfold execOp; simp only [ho]) (slice_ok tt hs oi h1 (opd_R hs _ _ _ hx))
  · cases h
theorem comp_fieldAddr (tt : TTOK P E.tt) (he : EqsOK P E) (hs : Slots S σ l a) (oi : OI S σ ob w) {nb : Nat} (hn : σ nb = none) {o : Oper} {v : AV} {u : List (Nat × Option AO)} (h : comp E nb o (getT l) ob = some ⟨true, v, u⟩) (t : TypeId) (x : Operand) (f : Nat) (ho : o.op = .fieldAddr t x f) : ∃ v' w' σ', Comes P a o w v' w' ∧ Does S σ ob w nb v u v' w' σ' := by
  have h0 := h
  unfold comp at h
  simp only [ho] at h
  split at h
  · rename_i ax off sz ft hx hfo
    split at h
    · rename_i hsz
      obtain ⟨h1, _, rfl⟩ := valA_eq h
      obtain ⟨ad, hv, hR⟩ := addOff_ok h1 (opd_R hs _ _ _ hx)
      refine comes_pure oi (s := Instr.fieldAt t (a.eval x) f) (by unfold execOp; simp only [ho]) ⟨_, ?_, hR⟩
      unfold fieldOf at hfo
      split at hfo
      · rename_i fs _ _ _ _ hl
        obtain ⟨gs, hu, rfl⟩ := (tt.row hl).struct rfl
        rw [List.getElem?_map] at hfo
        cases hg : gs.toList[f]? with
        | none => simp [hg] at hfo
        | some g =>
          simp [hg] at hfo
          obtain ⟨rfl, hszz, rfl⟩ := hfo
          have hg' : gs[f]? = some g := by simpa using hg
          cases hi : P.info? g.type with
          | none => simp [hi] at hszz; omega
          | some i =>
            simp [hi] at hszz
            have hne : ¬ i.size = 0 := by omega
            rw [hv]
            simp [Instr.fieldAt, run_underlying hu, hg', Instr.sureAddr, fieldPlace, sizeOf, typeInfo, hi, hne]
      · cases hfo
    · cases h
  · cases h
theorem comp_field (tt : TTOK P E.tt) (he : EqsOK P E) (hs : Slots S σ l a) (oi : OI S σ ob w) {nb : Nat} (hn : σ nb = none) {o : Oper} {v : AV} {u : List (Nat × Option AO)} (h : comp E nb o (getT l) ob = some ⟨true, v, u⟩) (t : TypeId) (x : Operand) (f : Nat) (ho : o.op = .field t x f) : ∃ v' w' σ', Comes P a o w v' w' ∧ Does S σ ob w nb v u v' w' σ' := by
  have h0 := h
  unfold comp at h
  simp only [ho] at h
  split at h
  · rename_i us off sz ft hx hfo
    split at h
    · rename_i ti hti
      obtain ⟨h1, _, rfl⟩ := valA_eq h
      refine comes_pure oi (s := Instr.field t (a.eval x) f) (by unfold execOp; simp only [ho]) ?_
      have hR := opd_R hs _ _ _ hx
      generalize hz : a.eval x = z at hR
      cases hR with
      | agg _ vs hl hr =>
        obtain ⟨y, hrun, hy⟩ := part_ok (P := P) (w := w) (tt.row hti) h1 ⟨hl, hr⟩
        refine ⟨y, ?_, hy⟩
        unfold fieldOf at hfo
        split at hfo
        · rename_i fs _ _ _ _ hl
          obtain ⟨gs, hu, rfl⟩ := (tt.row hl).struct rfl
          rw [List.getElem?_map] at hfo
          cases hg : gs.toList[f]? with
          | none => simp [hg] at hfo
          | some g =>
            simp [hg] at hfo
            obtain ⟨rfl, hszz, rfl⟩ := hfo
            have hg' : gs[f]? = some g := by simpa using hg
            simp [Instr.field, run_underlying hu, hg', asAgg, hrun]
        · cases hfo
    · cases h
  · cases h
theorem comp_indexAddr (tt : TTOK P E.tt) (he : EqsOK P E) (hs : Slots S σ l a) (oi : OI S σ ob w) {nb : Nat} (hn : σ nb = none) {o : Oper} {v : AV} {u : List (Nat × Option AO)} (h : comp E nb o (getT l) ob = some ⟨true, v, u⟩) (t : TypeId) (x i : Operand) (ho : o.op = .indexAddr t x i) : ∃ v' w' σ', Comes P a o w v' w' ∧ Does S σ ob w nb v u v' w' σ' := by
  have h0 := h
  unfold comp at h
  simp only [ho] at h
  split at h
  · rename_i ax k n hx hi
    obtain ⟨h1, rfl⟩ := cvA_eq h
    have r2 := opd_R hs _ _ _ hi
    generalize hz : a.eval i = z at r2
    cases r2
    exact comes_pure oi (s := Instr.indexAt t (a.eval x) (a.eval i)) (by unfold execOp; simp only [ho]) (by rw [hz]; exact indexAddr_ok tt oi h1 (opd_R hs _ _ _ hx) k)
  · cases h
theorem comp_index (tt : TTOK P E.tt) (he : EqsOK P E) (hs : Slots S σ l a) (oi : OI S σ ob w) {nb : Nat} (hn : σ nb = none) {o : Oper} {v : AV} {u : List (Nat × Option AO)} (h : comp E nb o (getT l) ob = some ⟨true, v, u⟩) (t : TypeId) (x i : Operand) (ho : o.op = .index t x i) : ∃ v' w' σ', Comes P a o w v' w' ∧ Does S σ ob w nb v u v' w' σ' := by
  have h0 := h
  unfold comp at h
  simp only [ho] at h
  split at h
  · rename_i ax k n hx hi
    obtain ⟨h1, rfl⟩ := cvA_eq h
    have r2 := opd_R hs _ _ _ hi
    generalize hz : a.eval i = z at r2
    cases r2
    exact comes_pure oi (s := Instr.index t (a.eval x) (a.eval i)) (by unfold execOp; simp only [ho]) (by rw [hz]; exact index_ok tt h1 (opd_R hs _ _ _ hx) k)
  · cases h
theorem comp_extract (tt : TTOK P E.tt) (he : EqsOK P E) (hs : Slots S σ l a) (oi : OI S σ ob w) {nb : Nat} (hn : σ nb = none) {o : Oper} {v : AV} {u : List (Nat × Option AO)} (h : comp E nb o (getT l) ob = some ⟨true, v, u⟩) (x : Operand) (i : Nat) (ho : o.op = .extract x i) : ∃ v' w' σ', Comes P a o w v' w' ∧ Does S σ ob w nb v u v' w' σ' := by
  have h0 := h
  unfold comp at h
  simp only [ho] at h
  split at h
  · rename_i us hx
    obtain ⟨h1, _, rfl⟩ := valA_eq h
    have hR := opd_R hs _ _ _ hx
    refine comes_pure oi (s := Instr.extract (a.eval x) i) (by unfold execOp; simp only [ho]) ?_
    generalize hz : a.eval x = z at hR
    cases hR with
    | tup _ vs hl hr =>
      have hlt : i < vs.length := by rw [← hl]; exact (List.getElem?_eq_some_iff.1 h1).1
      refine ⟨vs[i], by simp [Instr.extract, hlt], hr i v _ h1 (by simp [hlt])⟩
  · cases h
theorem comp_builtin (tt : TTOK P E.tt) (he : EqsOK P E) (hs : Slots S σ l a) (oi : OI S σ ob w) {nb : Nat} (hn : σ nb = none) {o : Oper} {v : AV} {u : List (Nat × Option AO)} (h : comp E nb o (getT l) ob = some ⟨true, v, u⟩) (b : Builtin) (args : Array Operand) (ts : Array TypeId) (ho : o.op = .call ⟨.builtin b, args, ts⟩) : ∃ v' w' σ', Comes P a o w v' w' ∧ Does S σ ob w nb v u v' w' σ' := by
  have h0 := h
  unfold comp at h
  simp only [ho] at h
  split at h
  · rename_i az has
    have := builtin_ok (P := P) (w := w) (a := a) tt oi hn ho h rfl (by simpa using opdL_RL hs _ _ _ has)
    exact this
  · cases h
/-- Every operation but calls of functions. -/
theorem comp_ok (tt : TTOK P E.tt) (he : EqsOK P E) (hs : Slots S σ l a) (oi : OI S σ ob w) {nb : Nat} (hn : σ nb = none) {o : Oper} {v : AV} {u : List (Nat × Option AO)} (h : comp E nb o (getT l) ob = some ⟨true, v, u⟩) : ∃ v' w' σ', Comes P a o w v' w' ∧ Does S σ ob w nb v u v' w' σ' := by
  cases hop : o.op
  case move => exact comp_move tt he hs oi hn h _ hop
  case assign => exact comp_assign tt he hs oi hn h _ hop
  case pick => exact comp_pick tt he hs oi hn h _ _ _ hop
  case alloc => exact comp_alloc tt he hs oi hn h _ hop
  case box => exact comp_box tt he hs oi hn h _ _ hop
  case build => exact comp_build tt he hs oi hn h _ _ hop
  case buildSlice => exact comp_buildSlice tt he hs oi hn h _ _ _ hop
  case load => exact comp_load tt he hs oi hn h _ _ hop
  case store => exact comp_store tt he hs oi hn h _ _ _ hop
  case nilCheck => exact comp_nilCheck tt he hs oi hn h _ hop
  case binOp => exact comp_binOp tt he hs oi hn h _ _ _ _ _ hop
  case unOp => exact comp_unOp tt he hs oi hn h _ _ _ hop
  case convert => exact comp_convert tt he hs oi hn h _ _ _ hop
  case makeInterface => exact comp_makeInterface tt he hs oi hn h _ _ hop
  case makeSlice => exact comp_makeSlice tt he hs oi hn h _ _ _ hop
  case slice => exact comp_slice tt he hs oi hn h _ _ _ _ _ hop
  case fieldAddr => exact comp_fieldAddr tt he hs oi hn h _ _ _ hop
  case field => exact comp_field tt he hs oi hn h _ _ _ hop
  case indexAddr => exact comp_indexAddr tt he hs oi hn h _ _ _ hop
  case index => exact comp_index tt he hs oi hn h _ _ _ hop
  case extract => exact comp_extract tt he hs oi hn h _ _ hop
  case makeFunc fn first caps =>
    cases fn with
    | func f => exact comp_makeFunc tt he hs oi hn h _ _ _ hop
    | _ => simp [comp, hop] at h
  case call c =>
    obtain ⟨callee, args, ts⟩ := c
    cases callee with
    | builtin b => exact comp_builtin tt he hs oi hn h _ _ _ hop
    | _ => simp [comp, hop] at h
  all_goals (simp [comp, hop] at h)
end Go.Proofs.Ytkjnijddbiconaa.Ev
