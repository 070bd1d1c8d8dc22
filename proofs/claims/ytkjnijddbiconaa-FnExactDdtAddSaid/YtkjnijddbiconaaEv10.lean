/- Conversions, literals, make, and every operation but calls: the evaluator says what the model does. -/
import Derived.Test.YtkjnijddbiconaaEv9
import Derived.Laws.BytesString
import Derived.Laws.BytesArg
import Derived.Laws.Tables
import Derived.Great.BuildSlice
namespace Go.Proofs.Ytkjnijddbiconaa.Ev
open Go
set_option linter.unusedVariables false
set_option linter.unusedSimpArgs false
variable {P : Program} {E : Env} {S : Sb} {σ : Sg} {l : List AV} {a : Act} {ob : Ob} {w : World}

/-! ### Conversions -/
theorem flat_bytes : ∀ (xs : List (Elem [.int .u8])), flat [.int .u8] xs = (xs.map (·.1)).map (Value.int .u8)
  | [] => rfl
  | x :: xs => by rw [flat_cons, flat_bytes xs]; rfl
theorem bytesT_ok (tt : TTOK P E.tt) {t : Nat} (h : bytesT E.tt t = true) : ∃ e, P.underlying t = some (.slice e) ∧ P.underlying e = some (.int .u8) := by
  unfold bytesT at h
  split at h
  · rename_i e _ _ _ _ hl
    split at h
    · rename_i hl'
      exact ⟨e, (tt.row hl).slice rfl, (tt.row hl').int rfl⟩
    · cases h
  · cases h
theorem run_bytes {src dst e : Nat} (hs : P.underlying src = some (.slice e)) (he : P.underlying e = some (.int .u8)) (hd : P.underlying dst = some .string) (xs : List (Elem [.int .u8])) (A : Option Addr) (c : Nat)
    (h : ∀ j u, (flat [.int .u8] xs)[j]? = some u → ∃ ad, A = some ad ∧ w.cell? (ad.add j) = some u) :
    (convert src dst (.slice A xs.length c)).run P w = .ok (.string (strOf xs)) w := by
  rw [run_convert_bytes_string w src dst e A _ c hs he hd]
  cases A with
  | none =>
    have : xs = [] := by
      cases xs with
      | nil => rfl
      | cons x xs =>
        obtain ⟨ad, h, _⟩ := h 0 (.int .u8 x.1) (by rw [flat_bytes]; rfl)
        cases h
    subst this
    rfl
  | some ad =>
    have hl := run_loadCells_list (P := P) w ad (flat [.int .u8] xs) fun j u hu => by
      obtain ⟨ad', h1, h2⟩ := h j u hu
      obtain rfl := Option.some.inj h1
      exact h2
    rw [flat_bytes] at hl
    simp only [List.length_map] at hl
    rw [run_bytesToString w ad _ c (xs.map (·.1)) hl, foldl_push_bytes]
    simp [strOf, List.map_map, Function.comp_def]
theorem conv_ok (tt : TTOK P E.tt) (oi : OI S σ ob w) {src dst : Nat} {av r : AV} (h : convA E.tt ob src dst av = some (true, r)) {v : Value} (hv : R S σ av v) :
    ∃ u, (convert src dst v).run P w = .ok u w ∧ R S σ r u := by
  unfold convA at h
  split at h
  · rename_i k _ _ _ _ hl
    have hd := (tt.row hl).int rfl
    split at h
    · rename_i k' n _ hs
      obtain ⟨d, hs⟩ := (tt.row hs).desc
      simp [sure] at h; subst h
      cases hv
      exact ⟨_, by simp [convert, run_underlying hs, run_underlying hd, Conv.intToInt], .val _⟩
    · cases h
  · rename_i hl
    have hd := (tt.row hl).str rfl
    split at h
    · rename_i s
      split at h
      · rename_i hs
        obtain ⟨d, hs⟩ := (tt.row hs).desc
        simp [sure] at h; subst h
        cases hv
        exact ⟨_, by simp [convert, run_underlying hs, run_underlying hd], .val _⟩
      · cases h
    · split at h
      · rename_i hb
        obtain ⟨e, hs, he⟩ := bytesT_ok tt hb
        split at h
        · rename_i xs hxs
          simp [sure] at h; subst h
          obtain ⟨A, c, rfl, hc, hcell⟩ := elems_ok oi hxs hv
          exact ⟨_, run_bytes hs he hd xs A c hcell, .val _⟩
        · cases h
      · cases h
  · cases h

/-! ### Literals -/
theorem foldl_put : ∀ (vs : List Value) (k off : Nat) (cs : Array Value), off + k + vs.length ≤ cs.size →
    ((vs.zipIdx k).foldl (fun cs (c, j) => cs.setIfInBounds (off + j) c) cs).toList = cs.toList.take (off + k) ++ vs ++ cs.toList.drop (off + k + vs.length)
  | [], k, off, cs, h => by simp
  | v :: vs, k, off, cs, h => by
    simp at h
    rw [List.zipIdx_cons, List.foldl_cons, foldl_put vs (k + 1) off _ (by simp; omega)]
    have e1 : off + (k + 1) = off + k + 1 := by omega
    have hlt : off + k < cs.toList.length := by simp; omega
    simp only [Array.toList_setIfInBounds, e1]
    have h1 : (cs.toList.set (off + k) v).take (off + k + 1) = cs.toList.take (off + k) ++ [v] := by
      rw [List.take_add_one, List.take_set_of_le (by omega), List.getElem?_set_self hlt]
      rfl
    have h2 : (cs.toList.set (off + k) v).drop (off + k + 1 + vs.length) = cs.toList.drop (off + k + (v :: vs).length) := by
      rw [List.drop_set_of_lt (by omega)]
      congr 1
      simp
      omega
    rw [h1, h2]
    simp
theorem fill_ok (tt : TTOK P E.tt) (hs : Slots S σ l a) (pl : Nat → Option (Nat × Nat)) (place : Nat → Option (Nat × Nat)) (hp : ∀ i off t ti, pl i = some (off, t) → lookN E.tt t = some ti → place i = some (off, ti.size)) :
    ∀ (ps : List (Nat × Operand)) (us us' : List AV) (cs : Array Value), partsAV E (getT l) pl ps us = some us' → RL S σ us cs.toList →
      ∃ cs', Instr.fill place cs (ps.map fun (i, x) => (i, a.eval x)) = some cs' ∧ RL S σ us' cs'.toList
  | [], us, us', cs, h, hl => by simp [partsAV] at h; subst h; exact ⟨cs, rfl, hl⟩
  | (i, x) :: ps, us, us', cs, h, hl => by
    simp only [partsAV] at h
    split at h
    · rename_i off t hpl
      split at h
      · rename_i av hav
        split at h
        · rename_i ns ti hns hti
          split at h
          · rename_i hsz
            split at h
            · rename_i us2 hus
              obtain ⟨h1, h2⟩ := spliceX_eq _ _ _ _ hus
              have hx := opd_R hs _ _ _ hav
              obtain ⟨hc, _⟩ := cellsOf_ok hns hx
              have hlen := hc.1
              have hll := hl.1
              simp at hlen hll
              have hb : off + (a.eval x).cells.size ≤ cs.size := by omega
              have hf := foldl_put (a.eval x).cells.toList 0 off cs (by simpa using hb)
              obtain ⟨cs', hc', hR'⟩ := fill_ok tt hs pl place hp ps us2 us' ((a.eval x).cells.zipIdx.foldl (fun cs (c, j) => cs.setIfInBounds (off + j) c) cs) h (by
                have e : (a.eval x).cells.zipIdx.foldl (fun cs (c, j) => cs.setIfInBounds (off + j) c) cs = ((a.eval x).cells.toList.zipIdx 0).foldl (fun cs (c, j) => cs.setIfInBounds (off + j) c) cs := by
                  rw [← Array.foldl_toList, Array.toList_zipIdx]
                rw [e, hf, h2]
                simp only [Nat.add_zero]
                have := ((hl.take off).append hc).append (hl.drop (off + ns.length))
                simpa [hlen] using this)
              refine ⟨cs', ?_, hR'⟩
              simp only [List.map_cons, Instr.fill, hp i off t ti hpl hti]
              rw [if_neg (by simp; omega)]
              exact hc'
            · cases h
          · cases h
        · cases h
      · cases h
    · cases h
theorem zav_R (z : ZK) : R S σ (zav z) (zval z) := by cases z; exact .val _; exact .nsl _
theorem zav_RL : ∀ (zs : List ZK), RL S σ (zs.map zav) (zs.map zval)
  | [] => .nil
  | z :: zs => .cons (zav_R z) (zav_RL zs)
theorem places_ok {gs : List Field} (h : ∀ f ∈ gs, (P.info? f.type).isSome = true) :
    gs.mapM (fun f => (P.info? f.type).map fun i => (f.offset, i.size)) = some (gs.map fun f => (f.offset, ((P.info? f.type).map (·.size)).getD 0)) := by
  induction gs with
  | nil => rfl
  | cons g gs ih =>
    obtain ⟨i, hi⟩ := Option.isSome_iff_exists.1 (h g (by simp))
    simp [List.mapM_cons, hi, ih fun f hf => h f (List.mem_cons_of_mem _ hf)]
theorem built_ok (tt : TTOK P E.tt) (hs : Slots S σ l a) (oi : OI S σ ob w) {o : Oper} {t : Nat} {ps : Array (Nat × Operand)} {nb : Nat} {out : Out} (ho : o.op = .build t ps) (h : comp E nb o (getT l) ob = some out) :
    out.c = true ∧ out.u = [] ∧ ∃ v, (Instr.build t (ps.map fun (i, x) => (i, a.eval x))).run P w = .ok v w ∧ R S σ out.v v := by
  unfold comp at h
  simp only [ho] at h
  split at h
  · rename_i ti hti
    have row := tt.row hti
    obtain ⟨it, hit, hisz, _, hiz⟩ := row.info
    split at h
    · rename_i fs hd
      split at h
      · rename_i hall
        split at h
        · rename_i us hus
          simp at h; subst h
          obtain ⟨gs, hu, hfs⟩ := row.struct hd
          have hinfo : ∀ f ∈ gs.toList, (P.info? f.type).isSome = true := by
            intro f hf
            simp only [hfs, List.all_map, List.all_eq_true] at hall
            have := hall f hf
            simp only [Function.comp] at this
            obtain ⟨tf, htf⟩ := Option.isSome_iff_exists.1 this
            obtain ⟨i, hi, _⟩ := (tt.row htf).info
            simp [hi]
          have hpl := places_ok hinfo
          obtain ⟨cs', hf, hR⟩ := fill_ok tt hs _ (fun i => (gs.toList.map fun f => (f.offset, ((P.info? f.type).map (·.size)).getD 0))[i]?) (fun i off t' ti' h1 h2 => by
              rw [hfs, List.getElem?_map] at h1
              rw [List.getElem?_map]
              cases hg : gs.toList[i]? with
              | none => simp [hg] at h1
              | some f =>
                simp [hg] at h1 ⊢
                obtain ⟨rfl, rfl⟩ := h1
                obtain ⟨i', hi', hs', _⟩ := (tt.row h2).info
                simp [hi', hs']) ps.toList _ us ti.zero.cells hus (by rw [row.c]; exact zav_RL _)
          refine ⟨rfl, rfl, _, run_build w t _ cs' ?_, .agg _ cs'.toList hR.1 hR.2⟩
          unfold Program.built
          simp only [hit, hu, hiz, hpl, Array.toList_map]
          simpa using hf
        · cases h
      · cases h
    · rename_i n e hd
      have hu := row.array hd
      split at h
      · rename_i te hte
        obtain ⟨ie, hie, hies, _, _⟩ := (tt.row hte).info
        split at h
        · rename_i us hus
          simp at h; subst h
          obtain ⟨cs', hf, hR⟩ := fill_ok tt hs _ (fun i => some (i * ie.size, ie.size)) (fun i off t' ti' h1 h2 => by
              simp at h1
              obtain ⟨rfl, rfl⟩ := h1
              rw [hte] at h2
              obtain rfl := Option.some.inj h2
              simp [hies]) ps.toList _ us ti.zero.cells hus (by rw [row.c]; exact zav_RL _)
          refine ⟨rfl, rfl, _, run_build w t _ cs' ?_, .agg _ cs'.toList hR.1 hR.2⟩
          unfold Program.built
          simp only [hit, hu, hiz, hie, Array.toList_map]
          simpa using hf
        · cases h
      · cases h
    · cases h
  · cases h
theorem madeCells_list (z : List Value) : ∀ (n : Nat), 0 < z.length → (madeCells z.toArray (n * z.length)).toList = (List.replicate n z).flatten := by
  intro n hz
  apply List.ext_getElem?
  intro i
  have hrep : ∀ (n : Nat) (i : Nat), i < n * z.length → (List.replicate n z).flatten[i]? = z[i % z.length]? := by
    intro n
    induction n with
    | zero => intro i h; simp at h
    | succ n ih =>
      intro i h
      rw [List.replicate_succ, List.flatten_cons]
      by_cases hi : i < z.length
      · rw [List.getElem?_append_left hi, Nat.mod_eq_of_lt hi]
      · rw [Nat.add_mul] at h
        rw [List.getElem?_append_right (by omega), ih _ (by omega), ← Nat.mod_eq_sub_mod (by omega)]
  have hlen : ((List.replicate n z).flatten).length = n * z.length := by simp
  by_cases hi : i < n * z.length
  · rw [hrep n i hi]
    have hm : i % z.length < z.length := Nat.mod_lt _ hz
    simp [madeCells, hi, hm]
  · rw [List.getElem?_eq_none (by simp [madeCells]; omega), List.getElem?_eq_none (by rw [hlen]; omega)]
theorem flat_replicate (cs : List CK) (n : Nat) (e : Elem cs) : flat cs (List.replicate n e) = (List.replicate n (vals cs e)).flatten := by
  induction n with
  | zero => simp [flat]
  | succ n ih => rw [List.replicate_succ, flat_cons, ih, List.replicate_succ, List.flatten_cons]
theorem made_ok {e : Nat} {te : TI} (row : RowOK P e te) (n : Nat) (h : 0 < n * te.size) : (madeCells te.zero.cells (n * te.size)).toList = (List.replicate n (te.z.map zval)).flatten := by
  have hz : te.zero.cells = (te.z.map zval).toArray := by apply Array.toList_inj.1; simpa using row.c
  have hl : (te.z.map zval).length = te.size := by simp [row.z]
  have := madeCells_list (te.z.map zval) n (by rw [hl]; exact Nat.pos_of_mul_pos_left h)
  rw [hz, ← hl]
  exact this
end Go.Proofs.Ytkjnijddbiconaa.Ev
