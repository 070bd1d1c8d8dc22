/- '==' of structs whose cells are flat: every cell of the one is the other's. -/
import Derived.Test.YtkjnijddbiconaaEv21
import Derived.Laws.StructEq
import Derived.ChangeKeysEq
namespace Go.Proofs.Ytkjnijddbiconaa.Ev
open Go
set_option linter.unusedVariables false
set_option linter.unusedSimpArgs false
variable {P : Program}

def cellB : Value → Value → Bool
  | .int _ a, .int _ b => a == b
  | .string a, .string b => strEq a b
  | .bool a, .bool b => a == b
  | _, _ => false
def listB : List Value → List Value → Bool
  | u :: us, v :: vs => cellB u v && listB us vs
  | _, _ => true
def KV : List CK → List Value → Prop
  | [], [] => True
  | c :: cs, v :: vs => (∃ x, v = c.val x) ∧ KV cs vs
  | _, _ => False
theorem KV.length : ∀ {cs : List CK} {vs : List Value}, KV cs vs → vs.length = cs.length
  | [], [], _ => rfl
  | [], _ :: _, h => h.elim
  | _ :: _, [], h => h.elim
  | c :: cs, v :: vs, h => by simp [KV.length h.2]
theorem KV.split : ∀ {ks ks' : List CK} {vs : List Value}, KV (ks ++ ks') vs → KV ks (vs.take ks.length) ∧ KV ks' (vs.drop ks.length)
  | [], ks', vs, h => by simpa [KV] using h
  | k :: ks, ks', [], h => h.elim
  | k :: ks, ks', v :: vs, h => by
    obtain ⟨h1, h2⟩ := KV.split h.2
    exact ⟨⟨h.1, h1⟩, h2⟩
theorem KV_vals : ∀ (cs : List CK) (e : Elem cs), KV cs (vals cs e)
  | [], _ => trivial
  | c :: cs, e => ⟨⟨e.1, rfl⟩, KV_vals cs e.2⟩
theorem cellB_val (c : CK) (a b : c.T) : cellB (c.val a) (c.val b) = ckEq c a b := by cases c <;> rfl
theorem listB_vals : ∀ (cs : List CK) (a b : Elem cs), listB (vals cs a) (vals cs b) = elemEq cs a b
  | [], a, b => rfl
  | [c], a, b => by simp [vals, listB, elemEq, cellB_val]
  | c :: c' :: cs, a, b => by
    have := listB_vals (c' :: cs) a.2 b.2
    simp only [vals, listB, elemEq, cellB_val] at this ⊢
    rw [this]
theorem listB_split : ∀ (n : Nat) (us vs : List Value), us.length = vs.length → listB us vs = (listB (us.take n) (vs.take n) && listB (us.drop n) (vs.drop n))
  | 0, us, vs, _ => by simp [listB]
  | n + 1, [], [], _ => by simp [listB]
  | n + 1, [], _ :: _, h => by simp at h
  | n + 1, _ :: _, [], h => by simp at h
  | n + 1, u :: us, v :: vs, h => by
    simp only [List.take_succ_cons, List.drop_succ_cons, listB]
    rw [listB_split n us vs (by simpa using h), Bool.and_assoc]
/-- The kinds of a type's cells, if they are flat, as '==' goes through them. -/
def flatFs (P : Program) (g : TypeId → Option (List CK)) : List Field → Nat → Option (List CK)
  | [], _ => some []
  | f :: fs, off => if f.name ≠ "_" ∧ f.offset = off then match g f.type, P.info? f.type with
      | some k, some i => if i.size = k.length then match flatFs P g fs (off + k.length) with
        | some ks => some (k ++ ks)
        | none => none
        else none
      | _, _ => none
    else none
def flatN (k : List CK) : Nat → List CK
  | 0 => []
  | n + 1 => k ++ flatN k n
def flatB (P : Program) : Nat → TypeId → Option (List CK)
  | 0, _ => none
  | d + 1, t => match P.underlying t with
    | some (.int k) => some [.int k]
    | some .bool => some [.bool]
    | some .string => some [.str]
    | some (.array n e) => match flatB P d e, P.info? e with
      | some k, some i => if i.size = k.length then some (flatN k n) else none
      | _, _ => none
    | some (.struct fs) => if P.stoodInHeld t then none else flatFs P (flatB P d) fs.toList 0
    | _ => none
def aggT (P : Program) (t : TypeId) : Bool := match P.underlying t with
  | some (.struct _) | some (.array _ _) => true
  | _ => false
def mkV (P : Program) (t : TypeId) (us : List Value) : Value := if aggT P t then .agg us.toArray else us.headD undef
theorem flat_scalar {d : Nat} {t : TypeId} {ks : List CK} (h : flatB P d t = some ks) (ha : aggT P t = false) : ks.length = 1 := by
  cases d with
  | zero => simp [flatB] at h
  | succ d =>
    simp only [flatB] at h
    unfold aggT at ha
    split at h <;> simp_all
    · subst h; rfl
    · subst h; rfl
    · subst h; rfl
theorem flat_und {d : Nat} {t : TypeId} {ks : List CK} (h : flatB P d t = some ks) : ∃ u, P.underlying t = some u := by
  cases d with
  | zero => simp [flatB] at h
  | succ d =>
    simp only [flatB] at h
    cases hu : P.underlying t with
    | none => simp [hu] at h
    | some u => exact ⟨u, rfl⟩
theorem run_part {d : Nat} {t : TypeId} {ks : List CK} (h : flatB P d t = some ks) {i : TypeInfo} (hi : P.info? t = some i) (hs : i.size = ks.length) (xs : Array Value) (off : Nat) (w : World) (hl : off + ks.length ≤ xs.size) :
    (part t xs off).run P w = .ok (mkV P t ((xs.toList.drop off).take ks.length)) w := by
  obtain ⟨u, hu⟩ := flat_und h
  have hag : (isAgg t).run P w = .ok (aggT P t) w := by
    unfold isAgg aggT
    rw [Sem.run_bind, run_underlying hu w, hu]
    cases u <;> rfl
  cases ha : aggT P t with
  | true =>
    have : xs.extract off (off + ks.length) = ((xs.toList.drop off).take ks.length).toArray := by
      apply Array.toList_inj.1
      simp
    simp [part, hag, ha, sizeOf, typeInfo, hi, hs, this, mkV]
  | false =>
    have h1 := flat_scalar h ha
    have hlt : off < xs.size := by omega
    have : ((xs.toList.drop off).take ks.length).headD undef = xs[off] := by
      rw [h1]
      simp [List.headD_eq_head?_getD, List.head?_take, List.head?_drop, hlt]
    simp only [part, Sem.run_bind, hag, ha, Result.andThen_ok, Bool.false_eq_true, if_false, mkV, this]
    simp [hlt]
theorem eqT : ∀ (d : Nat) (t : TypeId) (ks : List CK), flatB P d t = some ks → ∀ (us vs : List Value), KV ks us → KV ks vs → ∀ (m : Nat) (w : World), (Op.equalIn (d + m) t (mkV P t us) (mkV P t vs)).run P w = .ok (listB us vs) w := by
  intro d
  induction d with
  | zero => intro t ks h; simp [flatB] at h
  | succ d ih =>
    intro t ks h us vs hu hv m w
    rw [show d + 1 + m = (d + m) + 1 by omega]
    have h0 := h
    simp only [flatB] at h
    -- one cell
    have single : ∀ c, ks = [c] → ∃ (a b : c.T), us = [c.val a] ∧ vs = [c.val b] := by
      intro c hc
      subst hc
      cases us with
      | nil => exact hu.elim
      | cons u us => cases us with
        | cons _ _ => exact hu.2.elim
        | nil => cases vs with
          | nil => exact hv.elim
          | cons v vs => cases vs with
            | cons _ _ => exact hv.2.elim
            | nil =>
              obtain ⟨⟨a, rfl⟩, _⟩ := hu
              obtain ⟨⟨b, rfl⟩, _⟩ := hv
              exact ⟨a, b, rfl, rfl⟩
    split at h
    · rename_i k hk
      obtain ⟨a, b, rfl, rfl⟩ := single _ (by simpa using h.symm)
      have : aggT P t = false := by simp [aggT, hk]
      simp [mkV, this, CK.val, run_equalIn_int w (d + m) t k k _ _ hk, listB, cellB]
    · rename_i hk
      obtain ⟨a, b, rfl, rfl⟩ := single _ (by simpa using h.symm)
      have : aggT P t = false := by simp [aggT, hk]
      simp [mkV, this, CK.val, run_equalIn_bools (w := w) hk (d + m), listB, cellB]
    · rename_i hk
      obtain ⟨a, b, rfl, rfl⟩ := single _ (by simpa using h.symm)
      have : aggT P t = false := by simp [aggT, hk]
      simp [mkV, this, CK.val, run_equalIn_string w (d + m) t _ _ hk, listB, cellB, strEq]
    · rename_i n e hk
      split at h
      · rename_i k i hke hie
        split at h
        · rename_i hsz
          obtain rfl := Option.some.inj h
          have hag : aggT P t = true := by simp [aggT, hk]
          simp only [mkV, hag, if_true]
          rw [run_equalIn_array w (d + m) us.toArray vs.toArray hk hie]
          have hce : P.cellsOf e = k.length := by simp [Program.cellsOf, hie, hsz]
          rw [hce, List.range_eq_range']
          have key : ∀ (q j : Nat) (us' vs' : List Value), us.drop (j * k.length) = us' → vs.drop (j * k.length) = vs' → j * k.length + us'.length = us.length → j * k.length + vs'.length = vs.length → KV (flatN k q) us' → KV (flatN k q) vs' →
              (Op.eqItems (d + m) e k.length us.toArray vs.toArray (List.range' j q)).run P w = .ok (listB us' vs') w := by
            intro q
            induction q with
            | zero =>
              intro j us' vs' _ _ _ _ h1 h2
              have e1 : us' = [] := List.eq_nil_of_length_eq_zero h1.length
              subst e1
              simp [Op.eqItems, listB]
            | succ q ihq =>
              intro j us' vs' e1 e2 c1 c2 h1 h2
              have l1 := h1.length
              have l2 := h2.length
              simp only [flatN, List.length_append] at l1 l2
              obtain ⟨p1, p2⟩ := KV.split h1
              obtain ⟨p3, p4⟩ := KV.split h2
              have b1 : j * k.length + k.length ≤ us.toArray.size := by simp; omega
              have b2 : j * k.length + k.length ≤ vs.toArray.size := by simp; omega
              have r1 := run_part hke hie hsz us.toArray (j * k.length) w b1
              have r2 := run_part hke hie hsz vs.toArray (j * k.length) w b2
              simp only [List.toList_toArray, e1, e2] at r1 r2
              have r3 := ih e k hke _ _ p1 p3 m w
              have r4 := ihq (j + 1) (us'.drop k.length) (vs'.drop k.length) (by rw [← e1, List.drop_drop, Nat.add_mul, Nat.one_mul]) (by rw [← e2, List.drop_drop, Nat.add_mul, Nat.one_mul]) (by simp [Nat.add_mul]; omega) (by simp [Nat.add_mul]; omega) p2 p4
              rw [listB_split k.length us' vs' (by omega)]
              simp only [List.range'_succ, Op.eqItems, Sem.run_bind, r1, r2, r3, Result.andThen_ok]
              cases listB (us'.take k.length) (vs'.take k.length) with
              | false => rfl
              | true => simpa using r4
          exact key n 0 us vs (by simp) (by simp) (by simp) (by simp) hu hv
        · cases h
      · cases h
    · rename_i fs hk
      split at h
      · cases h
      · rename_i hst
        have hag : aggT P t = true := by simp [aggT, hk]
        have hf : P.fieldsOf t = fs := by simp [Program.fieldsOf, hk]
        simp only [mkV, hag, if_true]
        rw [run_equalIn_struct w (d + m) t us.toArray vs.toArray (by rw [hf]; exact hk) (by simpa using hst), hf]
        have key : ∀ (gs : List Field) (off : Nat) (ks : List CK) (us' vs' : List Value), flatFs P (flatB P d) gs off = some ks → us.drop off = us' → vs.drop off = vs' → off + us'.length = us.length → off + vs'.length = vs.length → KV ks us' → KV ks vs' →
            (Op.eqFields (d + m) us.toArray vs.toArray gs).run P w = .ok (listB us' vs') w := by
          intro gs
          induction gs with
          | nil =>
            intro off ks us' vs' hfs _ _ _ _ h1 h2
            simp [flatFs] at hfs
            subst hfs
            have e1 : us' = [] := List.eq_nil_of_length_eq_zero h1.length
            subst e1
            simp [Op.eqFields, listB]
          | cons g gs ihg =>
            intro off ks us' vs' hfs e1 e2 c1 c2 h1 h2
            simp only [flatFs] at hfs
            split at hfs
            · rename_i hname
              obtain ⟨hn1, rfl⟩ := hname
              split at hfs
              · rename_i k i hke hie
                split at hfs
                · rename_i hsz
                  split at hfs
                  · rename_i ks' hks'
                    obtain rfl := Option.some.inj hfs
                    have l1 := h1.length
                    have l2 := h2.length
                    simp only [List.length_append] at l1 l2
                    obtain ⟨p1, p2⟩ := KV.split h1
                    obtain ⟨p3, p4⟩ := KV.split h2
                    have b1 : g.offset + k.length ≤ us.toArray.size := by simp; omega
                    have b2 : g.offset + k.length ≤ vs.toArray.size := by simp; omega
                    have r1 := run_part hke hie hsz us.toArray g.offset w b1
                    have r2 := run_part hke hie hsz vs.toArray g.offset w b2
                    simp only [List.toList_toArray, e1, e2] at r1 r2
                    have r3 := ih g.type k hke _ _ p1 p3 m w
                    have r4 := ihg (g.offset + k.length) ks' (us'.drop k.length) (vs'.drop k.length) hks' (by rw [← e1, List.drop_drop]) (by rw [← e2, List.drop_drop]) (by simp; omega) (by simp; omega) p2 p4
                    rw [listB_split k.length us' vs' (by omega)]
                    simp only [Op.eqFields, hn1, ne_eq, not_false_eq_true, if_true, Sem.run_bind, r1, r2, r3, Result.andThen_ok]
                    cases listB (us'.take k.length) (vs'.take k.length) with
                    | false => rfl
                    | true => simpa using r4
                  · cases hfs
                · cases hfs
              · cases hfs
            · cases hfs
        exact key fs.toList 0 ks us vs h (by simp) (by simp) (by simp) (by simp) hu hv
    · cases h
/-- All types that are held against each other have flat cells. -/
def eqsB (P : Program) (E : Env) : List Nat → Prop
  | [] => True
  | t :: ts => (∀ ti, lookN E.tt t = some ti → flatB P 8 t = some ti.cks ∧ aggT P t = true ∧ P.eqGuardType P.depth t = false) ∧ eqsB P E ts
theorem eqs_ok {E : Env} (h : eqsB P E E.eqs) : EqsOK P E := by
  have all : ∀ ts, eqsB P E ts → ∀ t ∈ ts, ∀ ti, lookN E.tt t = some ti → flatB P 8 t = some ti.cks ∧ aggT P t = true ∧ P.eqGuardType P.depth t = false := by
    intro ts
    induction ts with
    | nil => intro _ t ht; simp at ht
    | cons s ts ih =>
      intro h t ht
      rcases List.mem_cons.1 ht with rfl | ht
      · exact h.1
      · exact ih h.2 t ht
  intro t ht ti hti a b x y w
  obtain ⟨h1, h2, h3⟩ := all _ h t ht ti hti
  refine ⟨run_eqGuard_agg w .eql t x y _ _ h3, run_eqGuard_agg w .neq t x y _ _ h3, ?_⟩
  have := eqT 8 t ti.cks h1 (vals ti.cks a) (vals ti.cks b) (KV_vals _ _) (KV_vals _ _) 9992 w
  simp only [mkV, h2, if_true, listB_vals] at this
  exact this
theorem eqs_one {E : Env} {t : Nat} {ti : TI} {ts : List Nat} (hl : lookN E.tt t = some ti) (h : flatB P 8 t = some ti.cks ∧ aggT P t = true ∧ P.eqGuardType P.depth t = false) (hr : eqsB P E ts) : eqsB P E (t :: ts) :=
  ⟨fun ti' h' => by rw [hl] at h'; cases h'; exact h, hr⟩
end Go.Proofs.Ytkjnijddbiconaa.Ev
