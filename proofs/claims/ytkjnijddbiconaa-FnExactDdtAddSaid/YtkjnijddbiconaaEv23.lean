/- From what a statement says of arguments to abstract values. -/
import Derived.Test.YtkjnijddbiconaaEv22
import Derived.WalkKit
import Derived.ProofKit
import Derived.OpenShut
import Derived.ShutString
import Derived.ChangeOld
import Derived.Below
import Derived.Carry
import Derived.SizedLaws
namespace Go.Proofs.Ytkjnijddbiconaa.Ev
open Go
set_option linter.unusedVariables false
set_option linter.unusedSimpArgs false
variable {P : Program} {H : Type} {enc : TypeId × Value → H} {w : World} {base : Nat} {spare : Nat → Bool} {held : Bool}

/-- The form of an argument's cells: flat ones, and slices of flat elements. -/
inductive SK
  | cell (c : CK)
  | slc (cs : List CK)
@[reducible] def Sd : List SK → Type
  | [] => Unit
  | .cell c :: r => c.T × Sd r
  | .slc cs :: r => List (Elem cs) × Sd r
def toAVs : (sk : List SK) → Sd sk → List AV
  | [], _ => []
  | .cell c :: r, d => .val (c.val d.1) :: toAVs r d.2
  | .slc cs :: r, d => .rsl cs d.1 :: toAVs r d.2
def ckOk : (c : CK) → c.T → Prop
  | .int k, n => (Lit.int k n).wf = true
  | .str, s => s.size ≤ maxLen
  | .bool, _ => True
def elemOk : (cs : List CK) → Elem cs → Prop
  | [], _ => True
  | c :: cs, e => ckOk c e.1 ∧ elemOk cs e.2
def sdOk : (sk : List SK) → Sd sk → Prop
  | [], _ => True
  | .cell c :: r, d => ckOk c d.1 ∧ sdOk r d.2
  | .slc cs :: r, d => (d.1.length ≤ maxLen ∧ ∀ e ∈ d.1, elemOk cs e) ∧ sdOk r d.2
def joinSd : (sk sk' : List SK) → Sd sk → Sd sk' → Sd (sk ++ sk')
  | [], _, _, d => d
  | .cell _ :: r, sk', d, d' => (d.1, joinSd r sk' d.2 d')
  | .slc _ :: r, sk', d, d' => (d.1, joinSd r sk' d.2 d')
theorem toAVs_join : ∀ (sk sk' : List SK) (d : Sd sk) (d' : Sd sk'), toAVs (sk ++ sk') (joinSd sk sk' d d') = toAVs sk d ++ toAVs sk' d'
  | [], _, _, _ => rfl
  | .cell _ :: r, sk', d, d' => by simp [toAVs, joinSd, toAVs_join r sk' d.2 d']
  | .slc _ :: r, sk', d, d' => by simp [toAVs, joinSd, toAVs_join r sk' d.2 d']
theorem sdOk_join : ∀ (sk sk' : List SK) (d : Sd sk) (d' : Sd sk'), sdOk sk d → sdOk sk' d' → sdOk (sk ++ sk') (joinSd sk sk' d d')
  | [], _, _, _, _, h => h
  | .cell _ :: r, sk', d, d', h, h' => ⟨h.1, sdOk_join r sk' d.2 d' h.2 h'⟩
  | .slc _ :: r, sk', d, d', h, h' => ⟨h.1, sdOk_join r sk' d.2 d' h.2 h'⟩
/-- The forms of a struct's or an array's parts. -/
def shapeFs (P : Program) (g : TypeId → Option (List SK)) : List Field → Nat → Option (List SK)
  | [], _ => some []
  | f :: fs, off => if f.offset = off then match g f.type with
      | some k => if k.length = P.cellsOf f.type then match shapeFs P g fs (off + k.length) with
        | some ks => some (k ++ ks)
        | none => none
        else none
      | none => none
    else none
def shapeN (k : List SK) : Nat → List SK
  | 0 => []
  | n + 1 => k ++ shapeN k n
def cellsSK : List SK → Option (List CK)
  | [] => some []
  | .cell c :: r => match cellsSK r with
    | some cs => some (c :: cs)
    | none => none
  | .slc _ :: _ => none
def shapeB (P : Program) : Nat → TypeId → Option (List SK)
  | 0, _ => none
  | d + 1, t => match P.underlying t with
    | some (.int k) => some [.cell (.int k)]
    | some .bool => some [.cell .bool]
    | some .string => some [.cell .str]
    | some (.slice e) => match shapeB P d e with
      | some sk => match cellsSK sk with
        | some cs => if cs.length = P.cellsOf e then some [.slc cs] else none
        | none => none
      | none => none
    | some (.array n e) => match shapeB P d e with
      | some k => if k.length = P.cellsOf e ∧ (shapeN k n).length = P.cellsOf t then some (shapeN k n) else none
      | none => none
    | some (.struct fs) => match shapeFs P (shapeB P d) fs.toList 0 with
      | some ks => if ks.length = P.cellsOf t then some ks else none
      | none => none
    | _ => none
theorem mapM_at {α β : Type} {g : α → Option β} : ∀ (xs : List α) (ys : List β), xs.mapM g = some ys → ys.length = xs.length ∧ ∀ (i : Nat) (x : α), xs[i]? = some x → ∃ y, g x = some y ∧ ys[i]? = some y
  | [], ys, h => by simp at h; subst h; exact ⟨rfl, fun i x h => by simp at h⟩
  | x :: xs, ys, h => by
    rw [List.mapM_cons] at h
    cases hx : g x with
    | none => simp [hx] at h
    | some y =>
      cases hr : xs.mapM g with
      | none => simp [hx, hr] at h
      | some ys' =>
        simp [hx, hr] at h
        subst h
        obtain ⟨h1, h2⟩ := mapM_at xs ys' hr
        refine ⟨by simp [h1], fun i z hz => ?_⟩
        cases i with
        | zero => simp at hz; subst hz; exact ⟨y, hx, rfl⟩
        | succ i => simpa using h2 i z (by simpa using hz)
theorem cells_at {a : Addr} {n : Nat} {cs : List Value} (h : w.cells? base a n = some cs) : cs.length = n ∧ ∀ i u, cs[i]? = some u → w.cell? (a.add i) = some u := by
  unfold World.cells? at h
  split at h
  · obtain ⟨h1, h2⟩ := mapM_at _ _ h
    simp at h1
    refine ⟨h1, fun i u hu => ?_⟩
    have hi := (List.getElem?_eq_some_iff.1 hu).1
    obtain ⟨y, g1, g2⟩ := h2 i i (by rw [List.getElem?_range (by omega)])
    rw [hu] at g2
    rw [g1]; exact g2.symm
  · cases h
/-- Cells that are flat are values of their kinds. -/
theorem cellsSK_vals : ∀ (sk : List SK) (cs : List CK), cellsSK sk = some cs → ∀ (d : Sd sk), sdOk sk d → ∃ e : Elem cs, toAVs sk d = (vals cs e).map .val ∧ elemOk cs e
  | [], cs, h, d, _ => by simp [cellsSK] at h; subst h; exact ⟨(), rfl, trivial⟩
  | .slc _ :: r, cs, h, d, _ => by simp [cellsSK] at h
  | .cell c :: r, cs, h, d, hd => by
    simp only [cellsSK] at h
    split at h
    · rename_i cs' hcs
      obtain rfl := Option.some.inj h
      obtain ⟨e, h1, h2⟩ := cellsSK_vals r cs' hcs d.2 hd.2
      exact ⟨(d.1, e), by simp [toAVs, vals, h1], hd.1, h2⟩
    · cases h
theorem RL_vals_eq {S : Sb} {σ : Sg} : ∀ {vs ws : List Value}, RL S σ (vs.map .val) ws → ws = vs
  | [], ws, h => List.eq_nil_of_length_eq_zero (by have := h.1; simpa using this.symm)
  | v :: vs, ws, h => by
    obtain ⟨u, us, rfl, h1, h2⟩ := h.uncons
    cases h1
    rw [RL_vals_eq h2]
theorem toAVs_len : ∀ (sk : List SK) (d : Sd sk), (toAVs sk d).length = sk.length
  | [], _ => rfl
  | .cell _ :: r, d => by simp [toAVs, toAVs_len r d.2]
  | .slc _ :: r, d => by simp [toAVs, toAVs_len r d.2]
theorem build_list {α : Type} {Q : Nat → α → Prop} : ∀ (n : Nat), (∀ i, i < n → ∃ e, Q i e) → ∃ xs : List α, xs.length = n ∧ ∀ (i : Nat) (e : α), xs[i]? = some e → Q i e
  | 0, _ => ⟨[], rfl, fun i e h => by simp at h⟩
  | n + 1, h => by
    obtain ⟨xs, h1, h2⟩ := build_list n fun i hi => h i (by omega)
    obtain ⟨e, he⟩ := h n (by omega)
    refine ⟨xs ++ [e], by simp [h1], fun i y hy => ?_⟩
    by_cases hi : i < n
    · rw [List.getElem?_append_left (by omega)] at hy
      exact h2 i y hy
    · rw [List.getElem?_append_right (by omega)] at hy
      have hz : i - xs.length = 0 := by
        have := (List.getElem?_eq_some_iff.1 hy).1
        simp at this
        omega
      rw [hz] at hy
      simp at hy
      subst hy
      have : i = n := by omega
      rw [this]; exact he
theorem take_two {α : Type} (l : List α) (off a b : Nat) : (l.drop off).take (a + b) = (l.drop off).take a ++ (l.drop (off + a)).take b := by
  rw [List.take_add, List.drop_drop]
/-- What is read can be told as abstract values. -/
theorem trod_read (σ : Sg) : ∀ (fuel d : Nat) (t : TypeId) (cs : List Value) (x : DataW H × List MemPlace) (sk : List SK), shapeB P d t = some sk → DataW.trod enc P w base spare held fuel t cs = some x →
    ∃ v : Sd sk, RL (SH w) σ (toAVs sk v) cs ∧ sdOk sk v
  | 0, d, t, cs, x, sk, _, h => by simp [DataW.trod] at h
  | fuel + 1, 0, t, cs, x, sk, hs, h => by simp [shapeB] at hs
  | fuel + 1, d + 1, t, cs, x, sk, hs, h => by
    simp only [shapeB] at hs
    unfold DataW.trod at h
    split at hs
    · rename_i k hk
      obtain rfl := Option.some.inj hs
      simp only [hk] at h
      split at h <;> try (simp_all; done)
      rename_i k1 k2 n e2
      split at h
      · rename_i hw
        obtain ⟨rfl, hw⟩ := hw
        simp at e2
        subst e2
        exact ⟨(n, ()), .cons (.val _) .nil, hw, trivial⟩
      · cases h
    · rename_i hk
      obtain rfl := Option.some.inj hs
      simp only [hk] at h
      split at h <;> try (simp_all; done)
      rename_i b _
      exact ⟨(b, ()), .cons (.val _) .nil, trivial, trivial⟩
    · rename_i hk
      obtain rfl := Option.some.inj hs
      simp only [hk] at h
      split at h <;> try (simp_all; done)
      rename_i s _
      split at h
      · rename_i hs
        exact ⟨(s, ()), .cons (.val _) .nil, hs, trivial⟩
      · cases h
    · rename_i e hk
      split at hs
      · rename_i ske hske
        split at hs
        · rename_i cks hcks
          split at hs
          · rename_i hlen
            obtain rfl := Option.some.inj hs
            simp only [hk] at h
            split at h <;> try (simp_all; done)
            · refine ⟨([], ()), .cons (.rsl cks [] none 0 (by simp) fun j u hu => by simp [flat] at hu) .nil, ⟨by simp [maxLen], fun e he => by simp at he⟩, trivial⟩
            · rename_i e' ad len cap he'
              simp at he'
              subst he'
              split at h
              · rename_i hb
                cases hm : (List.range len).mapM (fun i => (w.cells? base (ad.add (i * P.cellsOf e)) (P.cellsOf e)).bind (DataW.trod enc P w base spare held fuel e)) with
                | none => rw [hm] at h; simp at h
                | some ys =>
                  obtain ⟨hl, hat⟩ := mapM_at _ _ hm
                  have each : ∀ i, i < len → ∃ el : Elem cks, elemOk cks el ∧ ∀ r u, (vals cks el)[r]? = some u → w.cell? ((ad.add (i * cks.length)).add r) = some u := by
                    intro i hi
                    obtain ⟨y, hy, _⟩ := hat i i (by rw [List.getElem?_range hi])
                    cases hc : w.cells? base (ad.add (i * P.cellsOf e)) (P.cellsOf e) with
                    | none => rw [hc] at hy; simp at hy
                    | some cs =>
                      rw [hc] at hy
                      obtain ⟨v, g1, g2⟩ := trod_read σ fuel d e cs y ske hske hy
                      obtain ⟨el, g3, g4⟩ := cellsSK_vals ske cks hcks v g2
                      rw [g3] at g1
                      have := RL_vals_eq g1
                      subst this
                      obtain ⟨_, g5⟩ := cells_at hc
                      rw [← hlen] at g5
                      exact ⟨el, g4, g5⟩
                  obtain ⟨xs, hxl, hxs⟩ := build_list len each
                  refine ⟨(xs, ()), .cons ?_ .nil, ⟨by rw [hxl]; omega, fun el he => ?_⟩, trivial⟩
                  · have := R.rsl (S := SH w) (σ := σ) cks xs (some ad) cap (by omega) fun j u hu => ⟨ad, rfl, by
                      have hj := (List.getElem?_eq_some_iff.1 hu).1
                      rw [flat_length] at hj
                      have hc : 0 < cks.length := Nat.pos_of_mul_pos_left (Nat.lt_of_le_of_lt (Nat.zero_le _) hj)
                      have hi : j / cks.length < xs.length := (Nat.div_lt_iff_lt_mul hc).2 hj
                      have hr : j % cks.length < cks.length := Nat.mod_lt _ hc
                      have hsplit : j / cks.length * cks.length + j % cks.length = j := by rw [Nat.mul_comm]; exact Nat.div_add_mod j cks.length
                      have hf := flat_get cks xs (j / cks.length) (j % cks.length) hi hr
                      rw [hsplit, hu] at hf
                      have hel : xs[j / cks.length]? = some (xs.getD (j / cks.length) (edflt cks)) := by
                        rw [List.getD_eq_getElem?_getD, List.getElem?_eq_getElem hi]; rfl
                      have := (hxs _ _ hel).2 _ u hf.symm
                      rw [Addr.add_add, hsplit] at this
                      exact cellS_of this⟩
                    rwa [hxl] at this
                  · obtain ⟨i, hi, rfl⟩ := List.getElem_of_mem he
                    exact (hxs i _ (List.getElem?_eq_getElem hi)).1
              · cases h
          · cases hs
        · cases hs
      · cases hs
    · rename_i n e hk
      split at hs
      · rename_i k hke
        split at hs
        · rename_i hlen
          obtain rfl := Option.some.inj hs
          simp only [hk] at h
          split at h
          · rename_i hcl
            cases hm : (List.range n).mapM (fun i => DataW.trod enc P w base spare held fuel e ((cs.drop (i * P.cellsOf e)).take (P.cellsOf e))) with
            | none => rw [hm] at h; simp at h
            | some ys =>
              obtain ⟨_, hat⟩ := mapM_at _ _ hm
              have key : ∀ (q j : Nat), j + q = n → ∃ v : Sd (shapeN k q), RL (SH w) σ (toAVs (shapeN k q) v) ((cs.drop (j * k.length)).take (shapeN k q).length) ∧ sdOk (shapeN k q) v := by
                intro q
                induction q with
                | zero => intro j _; exact ⟨(), by simpa [shapeN, toAVs] using RL.nil, trivial⟩
                | succ q ih =>
                  intro j hj
                  obtain ⟨y, hy, _⟩ := hat j j (by rw [List.getElem?_range (by omega)])
                  obtain ⟨v1, g1, g2⟩ := trod_read σ fuel d e _ y k hke hy
                  obtain ⟨v2, g3, g4⟩ := ih (j + 1) (by omega)
                  refine ⟨joinSd k (shapeN k q) v1 v2, ?_, sdOk_join _ _ _ _ g2 g4⟩
                  simp only [shapeN]
                  rw [toAVs_join, List.length_append, take_two]
                  rw [← hlen.1] at g1
                  have e1 : j * k.length + k.length = (j + 1) * k.length := by rw [Nat.add_mul]; omega
                  rw [e1]
                  exact g1.append g3
              obtain ⟨v, g1, g2⟩ := key n 0 (by omega)
              refine ⟨v, ?_, g2⟩
              rw [hlen.2, ← hcl] at g1
              simpa using g1
          · cases h
        · cases hs
      · cases hs
    · rename_i fs hk
      split at hs
      · rename_i ks hks
        split at hs
        · rename_i hlen
          obtain rfl := Option.some.inj hs
          simp only [hk] at h
          split at h
          · rename_i hcl
            cases hm : fs.toList.mapM (fun f => DataW.trod enc P w base spare held fuel f.type ((cs.drop f.offset).take (P.cellsOf f.type))) with
            | none => rw [hm] at h; simp at h
            | some ys =>
              obtain ⟨_, hat⟩ := mapM_at _ _ hm
              have key : ∀ (gs : List Field) (off : Nat) (ks : List SK), (∀ g ∈ gs, ∃ y, DataW.trod enc P w base spare held fuel g.type ((cs.drop g.offset).take (P.cellsOf g.type)) = some y) → shapeFs P (shapeB P d) gs off = some ks →
                  ∃ v : Sd ks, RL (SH w) σ (toAVs ks v) ((cs.drop off).take ks.length) ∧ sdOk ks v := by
                intro gs
                induction gs with
                | nil => intro off ks _ hsf; simp [shapeFs] at hsf; subst hsf; exact ⟨(), by simpa [toAVs] using RL.nil, trivial⟩
                | cons g gs ih =>
                  intro off ks hall hsf
                  simp only [shapeFs] at hsf
                  split at hsf
                  · rename_i hoff
                    subst hoff
                    split at hsf
                    · rename_i k hke
                      split at hsf
                      · rename_i hkl
                        split at hsf
                        · rename_i ks' hks'
                          obtain rfl := Option.some.inj hsf
                          obtain ⟨y, hy⟩ := hall g (by simp)
                          obtain ⟨v1, g1, g2⟩ := trod_read σ fuel d g.type _ y k hke hy
                          obtain ⟨v2, g3, g4⟩ := ih _ ks' (fun g' hg' => hall g' (by simp [hg'])) hks'
                          refine ⟨joinSd k ks' v1 v2, ?_, sdOk_join _ _ _ _ g2 g4⟩
                          rw [toAVs_join, List.length_append, take_two]
                          rw [← hkl] at g1
                          exact g1.append g3
                        · cases hsf
                      · cases hsf
                    · cases hsf
                  · cases hsf
              obtain ⟨v, g1, g2⟩ := key fs.toList 0 ks (fun g hg => by
                obtain ⟨i, hi, rfl⟩ := List.getElem_of_mem hg
                obtain ⟨y, hy, _⟩ := hat i _ (List.getElem?_eq_getElem hi)
                exact ⟨y, hy⟩) hks
              refine ⟨v, ?_, g2⟩
              rw [hlen, ← hcl] at g1
              simpa using g1
          · cases h
        · cases hs
      · cases hs
    · cases hs
end Go.Proofs.Ytkjnijddbiconaa.Ev
