/- Numbers, strings, cuts, indices, parts: the evaluator says what the model does. -/
import Derived.Test.YtkjnijddbiconaaEv6
import Derived.Laws.StructEq
namespace Go.Proofs.Ytkjnijddbiconaa.Ev
open Go
set_option linter.unusedVariables false
set_option linter.unusedSimpArgs false
variable {P : Program} {E : Env} {S : Sb} {σ : Sg} {l : List AV} {a : Act} {ob : Ob} {w : World}

theorem sure_eq {v : Value} {c : Bool} {r : AV} (h : sure v = some (c, r)) : c = true ∧ r = .val v := by
  simp [sure] at h; exact ⟨h.1, h.2.symm⟩
theorem intOp_ok {op : BinOp} {k : IntKind} {x y : Int} {r : AV} (h : intOp op k x y = some (true, r)) : ∃ v, r = .val v ∧
    (binOp op 0 (.int k x) (.int k y)).run P w = .ok v w ∧ ∀ t, (binOp op t (.int k x) (.int k y)) = binOp op 0 (.int k x) (.int k y) := by
  cases op <;> simp [intOp, sure] at h
  case quo => exact ⟨_, h.2.symm, by simp [binOp, Op.intDiv, h.1], fun t => rfl⟩
  case rem => exact ⟨_, h.2.symm, by simp [binOp, Op.intDiv, h.1], fun t => rfl⟩
  all_goals exact ⟨_, h.symm, by simp [binOp, Op.intArith, Op.intBits, Op.intCmp], fun t => rfl⟩
theorem shiftOp_ok {op : BinOp} (ho : op = .shl ∨ op = .shr) {k k' : IntKind} {x y : Int} {r : AV} (h : shiftOp op k x y = some (true, r)) : ∃ v, r = .val v ∧
    (binOp op 0 (.int k x) (.int k' y)).run P w = .ok v w ∧ ∀ t, (binOp op t (.int k x) (.int k' y)) = binOp op 0 (.int k x) (.int k' y) := by
  rcases ho with rfl | rfl <;> simp [shiftOp] at h <;> exact ⟨_, h.2.symm, by simp [binOp, Op.shift, Int.not_lt.2 h.1], fun t => rfl⟩
theorem strOp_ok {op : BinOp} {x y : ByteArray} {r : AV} (h : strOp op x y = some (true, r)) : ∃ v, r = .val v ∧
    (binOp op 0 (.string x) (.string y)).run P w = .ok v w ∧ ∀ t, (binOp op t (.string x) (.string y)) = binOp op 0 (.string x) (.string y) := by
  cases op <;> simp [strOp, sure] at h
  case add => exact ⟨_, h.2.symm, by
    have : ¬ (9223372036854775807 < (x.size : Int) + (y.size : Int)) := by omega
    simp [binOp, Op.stringOp, this], fun t => rfl⟩
  all_goals exact ⟨_, h.symm, by simp [binOp, Op.stringOp, strEq, strLt], fun t => rfl⟩
theorem run_exec {s : Sem Value} {v : Value} {w' : World} (h : s.run P w = .ok v w') : (do pure (Next.value (← s)) : Sem Next).run P w = .ok (.value v) w' := by
  simp [h]
theorem guard_no {op : BinOp} {t : TypeId} {x y : Operand} {u v : Value} (ho : op ≠ .eql ∧ op ≠ .neq) : eqGuard op t x y u v = pure () := by
  cases op <;> first | rfl | (simp at ho)
theorem guard_eql {t : TypeId} {x y : Operand} {u v : Value} (h : match u, v with | .nilIface, .nilIface => isConst y = true | .agg _, .agg _ => False | _, _ => True) :
    (eqGuard .eql t x y u v).run P w = .ok () w := by
  cases u <;> cases v <;> first
    | rfl
    | exact h.elim
    | (cases y <;> first | (simp [isConst] at h; done) | (cases x <;> rfl))
theorem guard_ok {op : BinOp} {t : TypeId} {x y : Operand} {u v : Value} (h : match u, v with | .nilIface, .nilIface => isConst y = true | .agg _, .agg _ => False | _, _ => True) :
    (eqGuard op t x y u v).run P w = .ok () w := by
  by_cases h1 : op = .eql
  · subst h1; exact guard_eql h
  · by_cases h2 : op = .neq
    · subst h2; exact guard_eql h
    · rw [guard_no ⟨h1, h2⟩]; rfl
theorem run_eql_any {t : TypeId} {u v : Value} {b : Bool} (h : ∀ op, binOp op t u v = (match op with | .eql => (do pure (.bool (← Op.equal t u v)) : Sem Value) | .neq => (do pure (.bool (!(← Op.equal t u v))) : Sem Value) | op => binOp op t u v))
    (he : (Op.equalIn 10000 t u v).run P w = .ok b w) : (binOp .eql t u v).run P w = .ok (.bool b) w ∧ (binOp .neq t u v).run P w = .ok (.bool (!b)) w := by
  have he' : (Op.equal t u v).run P w = .ok b w := he
  constructor
  · rw [h .eql]; simp only [Sem.run_bind, he', Result.andThen_ok, Sem.run_pure]
  · rw [h .neq]; simp only [Sem.run_bind, he', Result.andThen_ok, Sem.run_pure]
theorem run_equalIn_bools {t : TypeId} (hb : P.underlying t = some .bool) (d : Nat) (p q : Bool) : (Op.equalIn (d + 1) t (.bool p) (.bool q)).run P w = .ok (p == q) w := by
  simp [Op.equalIn, run_underlying hb]
theorem run_equalIn_some {t t' : TypeId} {ms : Array (String × TypeId)} (hb : P.underlying t = some (.interface ms)) (d : Nat) (v : Value) : (Op.equalIn (d + 1) t (.iface t' v) .nilIface).run P w = .ok false w := by
  simp [Op.equalIn, run_underlying hb]
theorem run_equalIn_nils {t : TypeId} {ms : Array (String × TypeId)} (hb : P.underlying t = some (.interface ms)) (d : Nat) : (Op.equalIn (d + 1) t .nilIface .nilIface).run P w = .ok true w := by
  simp [Op.equalIn, run_underlying hb]
theorem run_bind_ok {α β : Type} {x : Sem α} {f : α → Sem β} {r : α} (h : x.run P w = .ok r w) : (x >>= f).run P w = (f r).run P w := by
  rw [Sem.run_bind, h]; rfl
/-- '==' of structs whose cells are flat. -/
def EqsOK (P : Program) (E : Env) : Prop := ∀ t ∈ E.eqs, ∀ ti, lookN E.tt t = some ti → ∀ (a b : Elem ti.cks) (x y : Operand) (w : World),
  (eqGuard .eql t x y (.agg (vals ti.cks a).toArray) (.agg (vals ti.cks b).toArray)).run P w = .ok () w ∧ (eqGuard .neq t x y (.agg (vals ti.cks a).toArray) (.agg (vals ti.cks b).toArray)).run P w = .ok () w ∧
  (Op.equal t (.agg (vals ti.cks a).toArray) (.agg (vals ti.cks b).toArray)).run P w = .ok (elemEq ti.cks a b) w
theorem elemOf_ok {cs : List CK} {us : List AV} {e : Elem cs} {xs : List Value} (h : elemOf cs us = some e) (hl : RL S σ us xs) : xs = vals cs e := by
  unfold elemOf at h
  split at h
  · rename_i vs hvs
    rw [flatAVs_RL hvs hl]
    exact ofVals_vals cs vs e h
  · cases h
theorem structEq_ok {ti : Option TI} {us vs : List AV} {b : Bool} {xs ys : List Value} (h : structEq ti us vs = some b) (h1 : RL S σ us xs) (h2 : RL S σ vs ys) :
    ∃ t e e', ti = some t ∧ xs = vals t.cks e ∧ ys = vals t.cks e' ∧ b = elemEq t.cks e e' := by
  unfold structEq at h
  split at h
  · rename_i t
    split at h
    · rename_i e e' he he'
      simp at h
      exact ⟨t, e, e', rfl, elemOf_ok he h1, elemOf_ok he' h2, h.symm⟩
    · cases h
  · cases h
theorem eqOp_eq {op : BinOp} {b : Option Bool} {r : AV} (h : eqOp op b = some (true, r)) : ∃ c, b = some c ∧ ((op = .eql ∧ r = .val (.bool c)) ∨ (op = .neq ∧ r = .val (.bool (!c)))) := by
  unfold eqOp at h
  split at h
  · simp [sure] at h; exact ⟨_, rfl, .inl ⟨rfl, h.symm⟩⟩
  · simp [sure] at h; exact ⟨_, rfl, .inr ⟨rfl, h.symm⟩⟩
  · cases h
theorem binOp_ok (tt : TTOK P E.tt) (he : EqsOK P E) {op : BinOp} {t : Nat} {x y : Operand} {ax ay : AV} {r : AV} (h : binOpA E op t (isConst y) ax ay = some (true, r)) {u v : Value} (hu : R S σ ax u) (hv : R S σ ay v) :
    ∃ z, (do eqGuard op t x y u v; binOp op t u v : Sem Value).run P w = .ok z w ∧ R S σ r z := by
  unfold binOpA at h
  split at h
  · rename_i k p k' q
    cases hu; cases hv
    have hg := guard_ok (P := P) (w := w) (op := op) (t := t) (x := x) (y := y) (u := .int k p) (v := .int k' q) trivial
    split at h
    · obtain ⟨z, rfl, hr, ht⟩ := shiftOp_ok (P := P) (w := w) (k' := k') (.inl rfl) h
      exact ⟨z, (run_bind_ok hg).trans (by rw [ht]; exact hr), .val z⟩
    · obtain ⟨z, rfl, hr, ht⟩ := shiftOp_ok (P := P) (w := w) (k' := k') (.inr rfl) h
      exact ⟨z, (run_bind_ok hg).trans (by rw [ht]; exact hr), .val z⟩
    · split at h
      · rename_i hk
        subst hk
        obtain ⟨z, rfl, hr, ht⟩ := intOp_ok (P := P) (w := w) h
        exact ⟨z, (run_bind_ok hg).trans (by rw [ht]; exact hr), .val z⟩
      · cases h
  · rename_i p q
    cases hu; cases hv
    have hg := guard_ok (P := P) (w := w) (op := op) (t := t) (x := x) (y := y) (u := .string p) (v := .string q) trivial
    obtain ⟨z, rfl, hr, ht⟩ := strOp_ok (P := P) (w := w) h
    exact ⟨z, (run_bind_ok hg).trans (by rw [ht]; exact hr), .val z⟩
  · rename_i p q
    split at h
    · rename_i hl
      have row := tt.row hl
      have hb := row.bool rfl
      cases hu; cases hv
      have hg := guard_ok (P := P) (w := w) (op := op) (t := t) (x := x) (y := y) (u := .bool p) (v := .bool q) trivial
      obtain ⟨c, hc, hr⟩ := eqOp_eq h
      obtain rfl := Option.some.inj hc
      have hq := run_eql_any (P := P) (w := w) (t := t) (u := .bool p) (v := .bool q) (fun op => by cases op <;> rfl) (run_equalIn_bools hb 9999 p q)
      rcases hr with ⟨rfl, rfl⟩ | ⟨rfl, rfl⟩
      · exact ⟨_, (run_bind_ok hg).trans hq.1, .val _⟩
      · exact ⟨_, (run_bind_ok hg).trans hq.2, .val _⟩
    · cases h
  · rename_i us vs
    split at h
    · rename_i hin
      obtain ⟨c, hc, hr⟩ := eqOp_eq h
      cases hu with
      | agg _ xs hl1 hR1 =>
        cases hv with
        | agg _ ys hl2 hR2 =>
          obtain ⟨ti, e1, e2, hti, rfl, rfl, rfl⟩ := structEq_ok hc ⟨hl1, hR1⟩ ⟨hl2, hR2⟩
          obtain ⟨g1, g2, g3⟩ := he t (by simpa using hin) ti hti e1 e2 x y w
          rcases hr with ⟨rfl, rfl⟩ | ⟨rfl, rfl⟩
          · exact ⟨_, (run_bind_ok g1).trans (run_eql_any (fun op => by cases op <;> rfl) g3).1, .val _⟩
          · exact ⟨_, (run_bind_ok g2).trans (run_eql_any (fun op => by cases op <;> rfl) g3).2, .val _⟩
    · cases h
  · split at h
    · rename_i hi
      unfold ifaceT at hi
      split at hi
      · rename_i hl
        obtain ⟨ms, hm⟩ := (tt.row hl).iface rfl
        cases hu with
        | ifc t' v' =>
          cases hv
          have hg := guard_ok (P := P) (w := w) (op := op) (t := t) (x := x) (y := y) (u := .iface t' v') (v := .nilIface) trivial
          obtain ⟨c, hc, hr⟩ := eqOp_eq h
          obtain rfl := Option.some.inj hc
          have hq := run_eql_any (P := P) (w := w) (t := t) (u := .iface t' v') (v := .nilIface) (fun op => by cases op <;> rfl) (run_equalIn_some hm 9999 v')
          rcases hr with ⟨rfl, rfl⟩ | ⟨rfl, rfl⟩
          · exact ⟨_, (run_bind_ok hg).trans hq.1, .val _⟩
          · exact ⟨_, (run_bind_ok hg).trans hq.2, .val _⟩
      · cases hi
    · cases h
  · split at h
    · rename_i hi
      simp at hi
      obtain ⟨hi, hcy⟩ := hi
      unfold ifaceT at hi
      split at hi
      · rename_i hl
        obtain ⟨ms, hm⟩ := (tt.row hl).iface rfl
        cases hu; cases hv
        have hg := guard_ok (P := P) (w := w) (op := op) (t := t) (x := x) (y := y) (u := .nilIface) (v := .nilIface) hcy
        obtain ⟨c, hc, hr⟩ := eqOp_eq h
        obtain rfl := Option.some.inj hc
        have hq := run_eql_any (P := P) (w := w) (t := t) (u := .nilIface) (v := .nilIface) (fun op => by cases op <;> rfl) (run_equalIn_nils hm 9999)
        rcases hr with ⟨rfl, rfl⟩ | ⟨rfl, rfl⟩
        · exact ⟨_, (run_bind_ok hg).trans hq.1, .val _⟩
        · exact ⟨_, (run_bind_ok hg).trans hq.2, .val _⟩
      · cases hi
    · cases h
  · cases h
theorem unOp_ok {op : UnOp} {ax r : AV} (h : unOpA op ax = some (true, r)) {u : Value} (hu : R S σ ax u) : ∃ z, (Op.unary op u).run P w = .ok z w ∧ R S σ r z := by
  unfold unOpA at h
  split at h
  · cases hu; simp [sure] at h; subst h; exact ⟨_, by simp [Op.unary, Op.intArith], .val _⟩
  · cases hu; simp [sure] at h; subst h; exact ⟨_, by simp [Op.unary], .val _⟩
  · cases h
end Go.Proofs.Ytkjnijddbiconaa.Ev
