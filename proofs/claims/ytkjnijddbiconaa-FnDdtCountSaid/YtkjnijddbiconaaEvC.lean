/- From what a statement says of arguments to abstract values. -/
import Derived.Test.YtkjnijddbiconaaEvB
import Derived.WalkKit
import Derived.ProofKit
import Derived.OpenShut
import Derived.ShutString
import Derived.ChangeOld
import Derived.Below
import Derived.Carry
import Derived.SizedLaws
import Derived.Laws.Externs
import Derived.LaidMore
import Derived.MakeChecks
import Derived.Deep.DeepHandedRow
import Derived.Lib.LaidTab
import Derived.Lib.Bytealg
import Derived.Sort.Grow
namespace Go.Proofs.Ytkjnijddbiconaa.Ev
open Go
set_option linter.unusedVariables false
set_option linter.unusedSimpArgs false
variable {P : Program} {H : Type} {enc : TypeId × Value → H} {w : World} {base : Nat} {spare : Nat → Bool} {held : Bool}

/-- The form of an argument's cells: flat ones, and slices of flat elements. -/
inductive SK
  | cell (c : CK)
  | slc (cs : List CK)
@[reducible] def Sd : List SK → Type
  | [] => Unit
  | .cell c :: r => c.T × Sd r
  | .slc cs :: r => List (Elem cs) × Sd r
def toAVs : (sk : List SK) → Sd sk → List AV
  | [], _ => []
  | .cell c :: r, d => .val (c.val d.1) :: toAVs r d.2
  | .slc cs :: r, d => .rsl cs d.1 :: toAVs r d.2
def ckOk : (c : CK) → c.T → Prop
  | .int k, n => (Lit.int k n).wf = true
  | .str, s => s.size ≤ maxLen
  | .bool, _ => True
def elemOk : (cs : List CK) → Elem cs → Prop
  | [], _ => True
  | c :: cs, e => ckOk c e.1 ∧ elemOk cs e.2
def sdOk : (sk : List SK) → Sd sk → Prop
  | [], _ => True
  | .cell c :: r, d => ckOk c d.1 ∧ sdOk r d.2
  | .slc cs :: r, d => (d.1.length ≤ maxLen ∧ ∀ e ∈ d.1, elemOk cs e) ∧ sdOk r d.2
def joinSd : (sk sk' : List SK) → Sd sk → Sd sk' → Sd (sk ++ sk')
  | [], _, _, d => d
  | .cell _ :: r, sk', d, d' => (d.1, joinSd r sk' d.2 d')
  | .slc _ :: r, sk', d, d' => (d.1, joinSd r sk' d.2 d')
theorem toAVs_join : ∀ (sk sk' : List SK) (d : Sd sk) (d' : Sd sk'), toAVs (sk ++ sk') (joinSd sk sk' d d') = toAVs sk d ++ toAVs sk' d'
  | [], _, _, _ => rfl
  | .cell _ :: r, sk', d, d' => by simp [toAVs, joinSd, toAVs_join r sk' d.2 d']
  | .slc _ :: r, sk', d, d' => by simp [toAVs, joinSd, toAVs_join r sk' d.2 d']
theorem sdOk_join : ∀ (sk sk' : List SK) (d : Sd sk) (d' : Sd sk'), sdOk sk d → sdOk sk' d' → sdOk (sk ++ sk') (joinSd sk sk' d d')
  | [], _, _, _, _, h => h
  | .cell _ :: r, sk', d, d', h, h' => ⟨h.1, sdOk_join r sk' d.2 d' h.2 h'⟩
  | .slc _ :: r, sk', d, d', h, h' => ⟨h.1, sdOk_join r sk' d.2 d' h.2 h'⟩
/-- The forms of a struct's or an array's parts. -/
def shapeFs (P : Program) (g : TypeId → Option (List SK)) : List Field → Nat → Option (List SK)
  | [], _ => some []
  | f :: fs, off => if f.offset = off then match g f.type with
      | some k => if k.length = P.cellsOf f.type then match shapeFs P g fs (off + k.length) with
        | some ks => some (k ++ ks)
        | none => none
        else none
      | none => none
    else none
def shapeN (k : List SK) : Nat → List SK
  | 0 => []
  | n + 1 => k ++ shapeN k n
def cellsSK : List SK → Option (List CK)
  | [] => some []
  | .cell c :: r => match cellsSK r with
    | some cs => some (c :: cs)
    | none => none
  | .slc _ :: _ => none
def shapeB (P : Program) : Nat → TypeId → Option (List SK)
  | 0, _ => none
  | d + 1, t => match P.underlying t with
    | some (.int k) => some [.cell (.int k)]
    | some .bool => some [.cell .bool]
    | some .string => some [.cell .str]
    | some (.slice e) => match shapeB P d e with
      | some sk => match cellsSK sk with
        | some cs => if cs.length = P.cellsOf e then some [.slc cs] else none
        | none => none
      | none => none
    | some (.array n e) => match shapeB P d e with
      | some k => if k.length = P.cellsOf e ∧ (shapeN k n).length = P.cellsOf t then some (shapeN k n) else none
      | none => none
    | some (.struct fs) => match shapeFs P (shapeB P d) fs.toList 0 with
      | some ks => if ks.length = P.cellsOf t then some ks else none
      | none => none
    | _ => none
theorem mapM_at {α β : Type} {g : α → Option β} : ∀ (xs : List α) (ys : List β), xs.mapM g = some ys → ys.length = xs.length ∧ ∀ (i : Nat) (x : α), xs[i]? = some x → ∃ y, g x = some y ∧ ys[i]? = some y
  | [], ys, h => by simp at h; subst h; exact ⟨rfl, fun i x h => by simp at h⟩
  | x :: xs, ys, h => by
    rw [List.mapM_cons] at h
    cases hx : g x with
    | none => simp [hx] at h
    | some y =>
      cases hr : xs.mapM g with
      | none => simp [hx, hr] at h
      | some ys' =>
        simp [hx, hr] at h
        subst h
        obtain ⟨h1, h2⟩ := mapM_at xs ys' hr
        refine ⟨by simp [h1], fun i z hz => ?_⟩
        cases i with
        | zero => simp at hz; subst hz; exact ⟨y, hx, rfl⟩
        | succ i => simpa using h2 i z (by simpa using hz)
theorem cells_at {a : Addr} {n : Nat} {cs : List Value} (h : w.cells? base a n = some cs) : cs.length = n ∧ ∀ i u, cs[i]? = some u → w.cell? (a.add i) = some u := by
  unfold World.cells? at h
  split at h
  · obtain ⟨h1, h2⟩ := mapM_at _ _ h
    simp at h1
    refine ⟨h1, fun i u hu => ?_⟩
    have hi := (List.getElem?_eq_some_iff.1 hu).1
    obtain ⟨y, g1, g2⟩ := h2 i i (by rw [List.getElem?_range (by omega)])
    rw [hu] at g2
    rw [g1]; exact g2.symm
  · cases h
/-- Cells that are flat are values of their kinds. -/
theorem cellsSK_vals : ∀ (sk : List SK) (cs : List CK), cellsSK sk = some cs → ∀ (d : Sd sk), sdOk sk d → ∃ e : Elem cs, toAVs sk d = (vals cs e).map .val ∧ elemOk cs e
  | [], cs, h, d, _ => by simp [cellsSK] at h; subst h; exact ⟨(), rfl, trivial⟩
  | .slc _ :: r, cs, h, d, _ => by simp [cellsSK] at h
  | .cell c :: r, cs, h, d, hd => by
    simp only [cellsSK] at h
    split at h
    · rename_i cs' hcs
      obtain rfl := Option.some.inj h
      obtain ⟨e, h1, h2⟩ := cellsSK_vals r cs' hcs d.2 hd.2
      exact ⟨(d.1, e), by simp [toAVs, vals, h1], hd.1, h2⟩
    · cases h
theorem RL_vals_eq {S : Sb} {σ : Sg} : ∀ {vs ws : List Value}, RL S σ (vs.map .val) ws → ws = vs
  | [], ws, h => List.eq_nil_of_length_eq_zero (by have := h.1; simpa using this.symm)
  | v :: vs, ws, h => by
    obtain ⟨u, us, rfl, h1, h2⟩ := h.uncons
    cases h1
    rw [RL_vals_eq h2]
theorem toAVs_len : ∀ (sk : List SK) (d : Sd sk), (toAVs sk d).length = sk.length
  | [], _ => rfl
  | .cell _ :: r, d => by simp [toAVs, toAVs_len r d.2]
  | .slc _ :: r, d => by simp [toAVs, toAVs_len r d.2]
theorem build_list {α : Type} {Q : Nat → α → Prop} : ∀ (n : Nat), (∀ i, i < n → ∃ e, Q i e) → ∃ xs : List α, xs.length = n ∧ ∀ (i : Nat) (e : α), xs[i]? = some e → Q i e
  | 0, _ => ⟨[], rfl, fun i e h => by simp at h⟩
  | n + 1, h => by
    obtain ⟨xs, h1, h2⟩ := build_list n fun i hi => h i (by omega)
    obtain ⟨e, he⟩ := h n (by omega)
    refine ⟨xs ++ [e], by simp [h1], fun i y hy => ?_⟩
    by_cases hi : i < n
    · rw [List.getElem?_append_left (by omega)] at hy
      exact h2 i y hy
    · rw [List.getElem?_append_right (by omega)] at hy
      have hz : i - xs.length = 0 := by
        have := (List.getElem?_eq_some_iff.1 hy).1
        simp at this
        omega
      rw [hz] at hy
      simp at hy
      subst hy
      have : i = n := by omega
      rw [this]; exact he
theorem take_two {α : Type} (l : List α) (off a b : Nat) : (l.drop off).take (a + b) = (l.drop off).take a ++ (l.drop (off + a)).take b := by
  rw [List.take_add, List.drop_drop]
/-- What is read can be told as abstract values. -/
theorem trod_read (σ : Sg) : ∀ (fuel d : Nat) (t : TypeId) (cs : List Value) (x : DataW H × List MemPlace) (sk : List SK), shapeB P d t = some sk → DataW.trod enc P w base spare held fuel t cs = some x →
    ∃ v : Sd sk, RL (SH w) σ (toAVs sk v) cs ∧ sdOk sk v
  | 0, d, t, cs, x, sk, _, h => by simp [DataW.trod] at h
  | fuel + 1, 0, t, cs, x, sk, hs, h => by simp [shapeB] at hs
  | fuel + 1, d + 1, t, cs, x, sk, hs, h => by
    simp only [shapeB] at hs
    unfold DataW.trod at h
    split at hs
    · rename_i k hk
      obtain rfl := Option.some.inj hs
      simp only [hk] at h
      split at h <;> try (simp_all; done)
      rename_i k1 k2 n e2
      split at h
      · rename_i hw
        obtain ⟨rfl, hw⟩ := hw
        simp at e2
        subst e2
        exact ⟨(n, ()), .cons (.val _) .nil, hw, trivial⟩
      · cases h
    · rename_i hk
      obtain rfl := Option.some.inj hs
      simp only [hk] at h
      split at h <;> try (simp_all; done)
      rename_i b _
      exact ⟨(b, ()), .cons (.val _) .nil, trivial, trivial⟩
    · rename_i hk
      obtain rfl := Option.some.inj hs
      simp only [hk] at h
      split at h <;> try (simp_all; done)
      rename_i s _
      split at h
      · rename_i hs
        exact ⟨(s, ()), .cons (.val _) .nil, hs, trivial⟩
      · cases h
    · rename_i e hk
      split at hs
      · rename_i ske hske
        split at hs
        · rename_i cks hcks
          split at hs
          · rename_i hlen
            obtain rfl := Option.some.inj hs
            simp only [hk] at h
            split at h <;> try (simp_all; done)
            · refine ⟨([], ()), .cons (.rsl cks [] none 0 (by simp) fun j u hu => by simp [flat] at hu) .nil, ⟨by simp [maxLen], fun e he => by simp at he⟩, trivial⟩
            · rename_i e' ad len cap he'
              simp at he'
              subst he'
              split at h
              · rename_i hb
                cases hm : (List.range len).mapM (fun i => (w.cells? base (ad.add (i * P.cellsOf e)) (P.cellsOf e)).bind (DataW.trod enc P w base spare held fuel e)) with
                | none => rw [hm] at h; simp at h
                | some ys =>
                  obtain ⟨hl, hat⟩ := mapM_at _ _ hm
                  have each : ∀ i, i < len → ∃ el : Elem cks, elemOk cks el ∧ ∀ r u, (vals cks el)[r]? = some u → w.cell? ((ad.add (i * cks.length)).add r) = some u := by
                    intro i hi
                    obtain ⟨y, hy, _⟩ := hat i i (by rw [List.getElem?_range hi])
                    cases hc : w.cells? base (ad.add (i * P.cellsOf e)) (P.cellsOf e) with
                    | none => rw [hc] at hy; simp at hy
                    | some cs =>
                      rw [hc] at hy
                      obtain ⟨v, g1, g2⟩ := trod_read σ fuel d e cs y ske hske hy
                      obtain ⟨el, g3, g4⟩ := cellsSK_vals ske cks hcks v g2
                      rw [g3] at g1
                      have := RL_vals_eq g1
                      subst this
                      obtain ⟨_, g5⟩ := cells_at hc
                      rw [← hlen] at g5
                      exact ⟨el, g4, g5⟩
                  obtain ⟨xs, hxl, hxs⟩ := build_list len each
                  refine ⟨(xs, ()), .cons ?_ .nil, ⟨by rw [hxl]; omega, fun el he => ?_⟩, trivial⟩
                  · have := R.rsl (S := SH w) (σ := σ) cks xs (some ad) cap (by omega) fun j u hu => ⟨ad, rfl, by
                      have hj := (List.getElem?_eq_some_iff.1 hu).1
                      rw [flat_length] at hj
                      have hc : 0 < cks.length := Nat.pos_of_mul_pos_left (Nat.lt_of_le_of_lt (Nat.zero_le _) hj)
                      have hi : j / cks.length < xs.length := (Nat.div_lt_iff_lt_mul hc).2 hj
                      have hr : j % cks.length < cks.length := Nat.mod_lt _ hc
                      have hsplit : j / cks.length * cks.length + j % cks.length = j := by rw [Nat.mul_comm]; exact Nat.div_add_mod j cks.length
                      have hf := flat_get cks xs (j / cks.length) (j % cks.length) hi hr
                      rw [hsplit, hu] at hf
                      have hel : xs[j / cks.length]? = some (xs.getD (j / cks.length) (edflt cks)) := by
                        rw [List.getD_eq_getElem?_getD, List.getElem?_eq_getElem hi]; rfl
                      have := (hxs _ _ hel).2 _ u hf.symm
                      rw [Addr.add_add, hsplit] at this
                      exact cellS_of this⟩
                    rwa [hxl] at this
                  · obtain ⟨i, hi, rfl⟩ := List.getElem_of_mem he
                    exact (hxs i _ (List.getElem?_eq_getElem hi)).1
              · cases h
          · cases hs
        · cases hs
      · cases hs
    · rename_i n e hk
      split at hs
      · rename_i k hke
        split at hs
        · rename_i hlen
          obtain rfl := Option.some.inj hs
          simp only [hk] at h
          split at h
          · rename_i hcl
            cases hm : (List.range n).mapM (fun i => DataW.trod enc P w base spare held fuel e ((cs.drop (i * P.cellsOf e)).take (P.cellsOf e))) with
            | none => rw [hm] at h; simp at h
            | some ys =>
              obtain ⟨_, hat⟩ := mapM_at _ _ hm
              have key : ∀ (q j : Nat), j + q = n → ∃ v : Sd (shapeN k q), RL (SH w) σ (toAVs (shapeN k q) v) ((cs.drop (j * k.length)).take (shapeN k q).length) ∧ sdOk (shapeN k q) v := by
                intro q
                induction q with
                | zero => intro j _; exact ⟨(), by simpa [shapeN, toAVs] using RL.nil, trivial⟩
                | succ q ih =>
                  intro j hj
                  obtain ⟨y, hy, _⟩ := hat j j (by rw [List.getElem?_range (by omega)])
                  obtain ⟨v1, g1, g2⟩ := trod_read σ fuel d e _ y k hke hy
                  obtain ⟨v2, g3, g4⟩ := ih (j + 1) (by omega)
                  refine ⟨joinSd k (shapeN k q) v1 v2, ?_, sdOk_join _ _ _ _ g2 g4⟩
                  simp only [shapeN]
                  rw [toAVs_join, List.length_append, take_two]
                  rw [← hlen.1] at g1
                  have e1 : j * k.length + k.length = (j + 1) * k.length := by rw [Nat.add_mul]; omega
                  rw [e1]
                  exact g1.append g3
              obtain ⟨v, g1, g2⟩ := key n 0 (by omega)
              refine ⟨v, ?_, g2⟩
              rw [hlen.2, ← hcl] at g1
              simpa using g1
          · cases h
        · cases hs
      · cases hs
    · rename_i fs hk
      split at hs
      · rename_i ks hks
        split at hs
        · rename_i hlen
          obtain rfl := Option.some.inj hs
          simp only [hk] at h
          split at h
          · rename_i hcl
            cases hm : fs.toList.mapM (fun f => DataW.trod enc P w base spare held fuel f.type ((cs.drop f.offset).take (P.cellsOf f.type))) with
            | none => rw [hm] at h; simp at h
            | some ys =>
              obtain ⟨_, hat⟩ := mapM_at _ _ hm
              have key : ∀ (gs : List Field) (off : Nat) (ks : List SK), (∀ g ∈ gs, ∃ y, DataW.trod enc P w base spare held fuel g.type ((cs.drop g.offset).take (P.cellsOf g.type)) = some y) → shapeFs P (shapeB P d) gs off = some ks →
                  ∃ v : Sd ks, RL (SH w) σ (toAVs ks v) ((cs.drop off).take ks.length) ∧ sdOk ks v := by
                intro gs
                induction gs with
                | nil => intro off ks _ hsf; simp [shapeFs] at hsf; subst hsf; exact ⟨(), by simpa [toAVs] using RL.nil, trivial⟩
                | cons g gs ih =>
                  intro off ks hall hsf
                  simp only [shapeFs] at hsf
                  split at hsf
                  · rename_i hoff
                    subst hoff
                    split at hsf
                    · rename_i k hke
                      split at hsf
                      · rename_i hkl
                        split at hsf
                        · rename_i ks' hks'
                          obtain rfl := Option.some.inj hsf
                          obtain ⟨y, hy⟩ := hall g (by simp)
                          obtain ⟨v1, g1, g2⟩ := trod_read σ fuel d g.type _ y k hke hy
                          obtain ⟨v2, g3, g4⟩ := ih _ ks' (fun g' hg' => hall g' (by simp [hg'])) hks'
                          refine ⟨joinSd k ks' v1 v2, ?_, sdOk_join _ _ _ _ g2 g4⟩
                          rw [toAVs_join, List.length_append, take_two]
                          rw [← hkl] at g1
                          exact g1.append g3
                        · cases hsf
                      · cases hsf
                    · cases hsf
                  · cases hsf
              obtain ⟨v, g1, g2⟩ := key fs.toList 0 ks (fun g hg => by
                obtain ⟨i, hi, rfl⟩ := List.getElem_of_mem hg
                obtain ⟨y, hy, _⟩ := hat i _ (List.getElem?_eq_getElem hi)
                exact ⟨y, hy⟩) hks
              refine ⟨v, ?_, g2⟩
              rw [hlen, ← hcl] at g1
              simpa using g1
          · cases h
        · cases hs
      · cases hs
    · cases hs
end Go.Proofs.Ytkjnijddbiconaa.Ev

namespace Go.Proofs.Ytkjnijddbiconaa.Ev
open Go Go.ChangeShapes Go.WideShapes Go.ChangeAt Go.RowKit
set_option linter.unusedVariables false
set_option linter.unusedSimpArgs false
variable {P : Program} {H : Type} {enc : TypeId × Value → H} {w : World} {base : Nat} {spare : Nat → Bool} {held : Bool}

def argAV (agg : Bool) (us : List AV) : AV :=
  match agg with
  | true => .agg us
  | false => us.headD .junk
theorem arg_read (σ : Sg) {r : Reach} {b0 d : Nat} {t : TypeId} {sk : List SK} (hs : shapeB P d t = some sk) {agg : Bool} (ha : aggT P t = agg) {v : Value} (hval : Value.okWide P w r b0 t v) {x : DataW H} {ps : List MemPlace} (h : DataW.Trod enc P w base spare held t v x ps) :
    ∃ y : Sd sk, R (SH w) σ (argAV agg (toAVs sk y)) v ∧ sdOk sk y := by
  subst ha
  obtain ⟨fuel, hf⟩ := h
  obtain ⟨y, h1, h2⟩ := trod_read σ fuel d t _ (x, ps) sk hs hf
  refine ⟨y, ?_, h2⟩
  have scalar : ∀ (hc : v.cells = #[v]) (hg : aggT P t = false), R (SH w) σ (argAV (aggT P t) (toAVs sk y)) v := by
    intro hc hg
    rw [hc] at h1
    rw [hg]
    generalize toAVs sk y = us at h1
    cases us with
    | nil => have := h1.1; simp at this
    | cons a us =>
      obtain ⟨u, us', e, g1, g2⟩ := h1.uncons
      simp at e
      obtain ⟨rfl, rfl⟩ := e
      exact g1
  cases d with
  | zero => simp [shapeB] at hs
  | succ d =>
    simp only [shapeB] at hs
    split at hs
    · rename_i k hk
      obtain ⟨n, rfl⟩ := okWide_int hk hval
      exact scalar rfl (by simp [aggT, hk])
    · rename_i hk
      obtain ⟨n, rfl⟩ := okWide_bool hk hval
      exact scalar rfl (by simp [aggT, hk])
    · rename_i hk
      obtain ⟨n, rfl⟩ := okWide_string hk hval
      exact scalar rfl (by simp [aggT, hk])
    · rename_i e hk
      obtain ⟨ad, len, cap, rfl⟩ := okWide_slice hk hval
      exact scalar rfl (by simp [aggT, hk])
    · rename_i n e hk
      simp only [Value.okWide, hk] at hval
      obtain ⟨cs, rfl, _, _⟩ := hval
      have : aggT P t = true := by simp [aggT, hk]
      rw [this]
      have := R.agg (S := SH w) (σ := σ) (toAVs sk y) cs.toList h1.1 h1.2
      simpa [argAV] using this
    · rename_i fs hk
      simp only [Value.okWide, hk] at hval
      obtain ⟨cs, rfl, _, _⟩ := hval
      have : aggT P t = true := by simp [aggT, hk]
      rw [this]
      have := R.agg (S := SH w) (σ := σ) (toAVs sk y) cs.toList h1.1 h1.2
      simpa [argAV] using this
    · cases hs
/-- A function that only reads and says true. -/
theorem ctr_calls {f : FuncId} {fn : Func} (hf : P.funcs[f]? = some fn) (hb : fn.body.isSome = true) (hn : (fn.name == "runtime.NumGoroutine") = false) {args : List AV} (h : Ctr P f args [] ⟨.val (.bool true), [], []⟩) {vs : List Value}
    (hR : RL (SH w) (fun _ => none) args vs) (ht : TabOK (SH w)) : Calls P f vs.toArray w fun e w' => e = .returned (.bool true) ∧ Below w.heap.size w w' := by
  obtain ⟨c, hc⟩ := Option.isSome_iff_exists.1 hb
  have hgo := h (SH w) (fun _ => none) w vs hR ⟨fun o x ho => by simp [number, lookN] at ho, fun o o' x x' k k' ho => by simp [number, lookN] at ho, fun b x hb => hb, fun o x k ho => by simp [number, lookN] at ho, ht⟩ (fun q hq => absurd rfl hq)
    ⟨some 0, .move (.const undef), 0, "", #[], none⟩ ⟨#[undef], []⟩ (fun a' w' => a'.tmps = #[.bool true] ∧ Below w.heap.size w w') (fun _ _ _ => False) fun v w' ⟨σ', h1, h2, h3, _, _⟩ => by
      cases h1
      refine ⟨rfl, h3.os, h3.tape, h3.output, h3.size, fun k hk => ?_⟩
      have : SH w k = some w.heap[k] := by simp [SH, hk]
      rw [h2.st k _ this]
      simp [hk]
  rw [run_callFunc hf hc hn] at hgo
  refine Calls.mono hgo fun e w' he => ?_
  cases e with
  | returned v =>
    obtain ⟨h1, h2⟩ := he
    simp [Act.put] at h1
    exact ⟨by rw [h1], h2⟩
  | panicked ch => exact he.elim
  | outgrown => obtain ⟨a, w', h⟩ := he; exact h.elim
end Go.Proofs.Ytkjnijddbiconaa.Ev

namespace Go.Proofs.Ytkjnijddbiconaa.Ev
open Go
set_option linter.unusedVariables false
variable {P : Program}
theorem ctr_ext {f : FuncId} {fn : Func} {e : Array Value → Sem Value} (hf : P.funcs[f]? = some fn) (hname : (fn.name == "runtime.NumGoroutine") = false) (hb : fn.body.isNone = true) (hn : Extern.findNext fn = none) (he : Extern.find fn = some e)
    {us : List Value} {v : Value} (h : ∀ w, (e us.toArray).run P w = .ok v w) : Ctr P f (us.map .val) [] ⟨.val v, [], []⟩ := by
  intro S π w vs hR oi hπ o a K Q hk
  obtain rfl := RL_vals_eq hR
  rw [run_callFunc_extern hf hname hb hn he, h]
  exact hk v w ⟨π, .val v, oi, .refl w, hπ, fun i q hq => by simp at hq⟩
/-- What a call leaves as it was. -/
structure Quiet (w w' : World) : Prop where
  tl : Tail w w'
  fr : ∀ (b : Nat) (x : Obj), w.heap[b]? = some x → w'.heap[b]? = some x
theorem ctr_lib {f : FuncId} {fn : Func} (hf : P.funcs[f]? = some fn) (hb : fn.body.isSome = true) (hn : (fn.name == "runtime.NumGoroutine") = false) {args : List AV} {v : AV}
    (h : ∀ (S : Sb) (π : Sg) (w : World) (vs : List Value), RL S π args vs → (∀ b x, S b = some x → w.heap[b]? = some x) → TabW w → Calls P f vs.toArray w fun e w' => ∃ x, e = .returned x ∧ R S π v x ∧ Quiet w w') : Ctr P f args [] ⟨v, [], []⟩ := by
  obtain ⟨c, hc⟩ := Option.isSome_iff_exists.1 hb
  intro S π w vs hR oi hπ o a K Q hk
  rw [run_callFunc hf hc hn]
  show Calls P f vs.toArray w _
  refine Calls.mono (h S π w vs hR oi.st (oi.tab w oi.st)) fun e w' ⟨x, he, hx, q⟩ => ?_
  subst he
  exact hk x w' ⟨π, hx, ⟨fun o x ho => by simp [number, lookN] at ho, fun o o' x x' k k' ho => by simp [number, lookN] at ho, fun b x hb => q.fr b x (oi.st b x hb), fun o x k ho => by simp [number, lookN] at ho, oi.tab⟩, q.tl, hπ, fun i q hq => by simp at hq⟩
/-- The same for plain arguments and a plain result. -/
theorem ctr_plain {f : FuncId} {fn : Func} (hf : P.funcs[f]? = some fn) (hb : fn.body.isSome = true) (hn : (fn.name == "runtime.NumGoroutine") = false) {us : List Value} {v : Value}
    (h : ∀ w, TabW w → Calls P f us.toArray w fun e w' => e = .returned v ∧ Quiet w w') : Ctr P f (us.map .val) [] ⟨.val v, [], []⟩ :=
  ctr_lib hf hb hn fun S π w vs hR hS ht => by
    obtain rfl := RL_vals_eq hR
    exact Calls.mono (h w ht) fun e w' ⟨he, q⟩ => ⟨v, he, .val v, q⟩
theorem Quiet.refl (w : World) : Quiet w w := ⟨.refl w, fun _ _ h => h⟩
theorem Quiet.of_eq {w w' : World} (h : w' = w) : Quiet w w' := h ▸ .refl w
end Go.Proofs.Ytkjnijddbiconaa.Ev

namespace Go.Proofs.Ytkjnijddbiconaa.Ev
open Go
set_option linter.unusedVariables false
theorem var_frame {P : Program} {W w : World} {n : String} {vs : Array Value} (hw : ∀ (b : Nat) (x : Obj), W.heap[b]? = some x → w.heap[b]? = some x) (h : W.var? P n = some vs) : w.var? P n = some vs := by
  unfold World.var? at h ⊢
  cases hg : P.globalNamed n with
  | none => simp [hg] at h
  | some g =>
    simp only [hg, Option.bind_some] at h ⊢
    cases hb : W.heap[g]? with
    | none => simp [hb] at h
    | some o =>
      rw [hw g o hb]
      rw [hb] at h
      exact h
theorem cell_frame {W w : World} {a : Addr} {v : Value} (hw : ∀ (b : Nat) (x : Obj), W.heap[b]? = some x → w.heap[b]? = some x) (h : W.cell? a = some v) : w.cell? a = some v := by
  unfold World.cell? at h ⊢
  cases hb : W.heap[a.block]? with
  | none => simp [hb] at h
  | some o =>
    rw [hw _ o hb]
    rw [hb] at h
    exact h
end Go.Proofs.Ytkjnijddbiconaa.Ev

namespace Go.Proofs.Ytkjnijddbiconaa.Ev
open Go
set_option linter.unusedVariables false
variable {P : Program}
theorem bl_irrefl : ∀ (a : List UInt8), Op.bytesLess a a = false
  | [] => rfl
  | x :: a => by simp [Op.bytesLess, bl_irrefl a]
theorem bl_trans : ∀ (a b c : List UInt8), Op.bytesLess a b = true → Op.bytesLess b c = true → Op.bytesLess a c = true
  | [], [], c, h, _ => by simp [Op.bytesLess] at h
  | [], _ :: _, [], _, h => by simp [Op.bytesLess] at h
  | [], _ :: _, _ :: _, _, _ => by simp [Op.bytesLess]
  | _ :: _, [], _, h, _ => by simp [Op.bytesLess] at h
  | _ :: _, _ :: _, [], _, h => by simp [Op.bytesLess] at h
  | x :: a, y :: b, z :: c, h1, h2 => by
    simp only [Op.bytesLess, Bool.or_eq_true, Bool.and_eq_true, decide_eq_true_eq, beq_iff_eq, UInt8.lt_iff_toNat_lt, ← UInt8.toNat_inj] at *
    rcases h1 with h1 | ⟨h1, h1'⟩ <;> rcases h2 with h2 | ⟨h2, h2'⟩
    · exact .inl (by omega)
    · exact .inl (by omega)
    · exact .inl (by omega)
    · exact .inr ⟨by omega, bl_trans a b c h1' h2'⟩
theorem bl_tri : ∀ (a b : List UInt8), Op.bytesLess a b = true ∨ a = b ∨ Op.bytesLess b a = true
  | [], [] => by simp
  | [], _ :: _ => by simp [Op.bytesLess]
  | _ :: _, [] => by simp [Op.bytesLess]
  | x :: a, y :: b => by
    simp only [Op.bytesLess, Bool.or_eq_true, Bool.and_eq_true, decide_eq_true_eq, beq_iff_eq, UInt8.lt_iff_toNat_lt, ← UInt8.toNat_inj, List.cons.injEq]
    rcases Nat.lt_trichotomy x.toNat y.toNat with h | h | h
    · exact .inl (.inl h)
    · rcases bl_tri a b with g | g | g
      · exact .inl (.inr ⟨h, g⟩)
      · exact .inr (.inl ⟨h, g⟩)
      · exact .inr (.inr (.inr ⟨h.symm, g⟩))
    · exact .inr (.inr (.inl h))
theorem bs_ext {a b : ByteArray} (h : a.toList = b.toList) : a = b := by
  rw [ByteArray.toList_eq, ByteArray.toList_eq] at h
  apply ByteArray.ext
  apply Array.ext'
  exact h
theorem strLt_irrefl (a : ByteArray) : strLt a a = false := bl_irrefl _
theorem strLt_trans {a b c : ByteArray} (h1 : strLt a b = true) (h2 : strLt b c = true) : strLt a c = true := bl_trans _ _ _ h1 h2
theorem strLt_tri (a b : ByteArray) : strLt a b = true ∨ a = b ∨ strLt b a = true := by
  rcases bl_tri a.toList b.toList with h | h | h
  · exact .inl h
  · exact .inr (.inl (bs_ext h))
  · exact .inr (.inr h)
theorem strLt_asymm {a b : ByteArray} (h1 : strLt a b = true) : strLt b a = false := by
  cases h : strLt b a with
  | false => rfl
  | true =>
    have := strLt_trans h1 h
    rw [strLt_irrefl] at this
    cases this
theorem strEq_iff {a b : ByteArray} : strEq a b = true ↔ a = b := by
  unfold strEq
  rw [beq_iff_eq]
  exact ⟨bs_ext, fun h => by rw [h]⟩
theorem strEq_dec (a b : ByteArray) : strEq a b = decide (a = b) := by
  rw [Bool.eq_iff_iff, strEq_iff, decide_eq_true_eq]
/-- How strings.Compare holds two strings against each other. -/
def cmpS (a b : ByteArray) : Int := Lib.compareBytes a.data.toList b.data.toList
theorem cmpB : ∀ (a b : List UInt8), (Lib.compareBytes a b = -1 ∧ Op.bytesLess a b = true) ∨ (Lib.compareBytes a b = 0 ∧ a = b) ∨ (Lib.compareBytes a b = 1 ∧ Op.bytesLess b a = true)
  | [], [] => by simp [Lib.compareBytes]
  | [], _ :: _ => by simp [Lib.compareBytes, Op.bytesLess]
  | _ :: _, [] => by simp [Lib.compareBytes, Op.bytesLess]
  | x :: a, y :: b => by
    unfold Lib.compareBytes
    by_cases h : x < y
    · simp [h, Op.bytesLess]
    by_cases h' : y < x
    · simp [h, h', Op.bytesLess]
    have e : x = y := by
      rw [UInt8.lt_iff_toNat_lt] at h h'
      rw [← UInt8.toNat_inj]
      omega
    subst e
    simpa [h, Op.bytesLess] using cmpB a b
theorem cmpS_all (a b : ByteArray) : (cmpS a b = -1 ∧ strLt a b = true) ∨ (cmpS a b = 0 ∧ a = b) ∨ (cmpS a b = 1 ∧ strLt b a = true) := by
  have h := cmpB a.data.toList b.data.toList
  unfold cmpS strLt
  rw [ByteArray.toList_eq, ByteArray.toList_eq]
  rcases h with h | ⟨h, g⟩ | h
  · exact .inl h
  · exact .inr (.inl ⟨h, bs_ext (by rw [ByteArray.toList_eq, ByteArray.toList_eq]; exact g)⟩)
  · exact .inr (.inr h)
theorem cmpS_lt (a b : ByteArray) : decide (cmpS a b < 0) = strLt a b := by
  rcases cmpS_all a b with ⟨h, g⟩ | ⟨h, g⟩ | ⟨h, g⟩
  · rw [h, g]; rfl
  · subst g; rw [h, strLt_irrefl]; rfl
  · rw [h, strLt_asymm g]; rfl
theorem cmpS_eq (a b : ByteArray) : (cmpS a b == 0) = strEq a b := by
  rcases cmpS_all a b with ⟨h, g⟩ | ⟨h, g⟩ | ⟨h, g⟩
  · rw [h, strEq_dec, decide_eq_false (fun e => by subst e; rw [strLt_irrefl] at g; cases g)]; rfl
  · rw [h, strEq_dec, decide_eq_true g]; rfl
  · rw [h, strEq_dec, decide_eq_false (fun e => by subst e; rw [strLt_irrefl] at g; cases g)]; rfl
/-- The first place that fails, or the end. -/
def ln (p : Nat → Bool) (n : Nat) : Nat := (List.range n).findIdx (fun i => !p i)
theorem ln_at {p : Nat → Bool} {n i : Nat} (h : ∀ j, j < i → p j = true) (hi : i < n) (hp : p i = false) : ln p n = i := by
  unfold ln
  rw [List.findIdx_eq (by simpa using hi)]
  simp only [List.getElem_range]
  exact ⟨by simp [hp], fun j hj => by simp [h j hj]⟩
theorem ln_end {p : Nat → Bool} {n : Nat} (h : ∀ j, j < n → p j = true) : ln p n = n := by
  unfold ln
  have : (List.range n).findIdx (fun i => !p i) = (List.range n).length := List.findIdx_eq_length.2 (by
    intro x hx
    simp [h x (by simpa using hx)])
  simpa using this
theorem ln_le (p : Nat → Bool) (n : Nat) : ln p n ≤ n := by
  have := List.findIdx_le_length (p := fun i => !p i) (xs := List.range n)
  simpa [ln] using this
theorem ln_below {p : Nat → Bool} {n j : Nat} (hj : j < ln p n) : p j = true := by
  have h := List.not_of_lt_findIdx (p := fun i => !p i) (xs := List.range n) hj
  simpa using h
theorem ln_fails {p : Nat → Bool} {n : Nat} (h : ln p n < n) : p (ln p n) = false := by
  have h2 := List.findIdx_getElem (p := fun i => !p i) (xs := List.range n) (w := by rw [List.length_range]; exact h)
  simpa [ln] using h2
theorem ln_uniq {p : Nat → Bool} {n i : Nat} (h : ∀ j, j < i → p j = true) (hi : i ≤ n) (hp : i < n → p i = false) : ln p n = i := by
  by_cases e : i < n
  · exact ln_at h e (hp e)
  · have : i = n := by omega
    subst this
    exact ln_end h
theorem ln_congr {p q : Nat → Bool} {n : Nat} (h : ∀ j, j < n → p j = q j) : ln p n = ln q n := by
  have l := ln_le q n
  exact ln_uniq (fun j hj => by rw [h j (by omega)]; exact ln_below hj) l (fun hi => by rw [h _ hi]; exact ln_fails hi)
/-- By halves. -/
def bsf (p : Nat → Bool) (i j : Nat) : Nat :=
  if h : i < j then if p ((i + j) / 2) then bsf p ((i + j) / 2 + 1) j else bsf p i ((i + j) / 2) else i
termination_by j - i
theorem bsf_le (p : Nat → Bool) (i j : Nat) (h : i ≤ j) : i ≤ bsf p i j ∧ bsf p i j ≤ j := by
  fun_induction bsf p i j with
  | case1 i j hlt hp ih => have := ih (by omega); omega
  | case2 i j hlt hp ih => have := ih (by omega); omega
  | case3 i j hlt => omega
theorem bsf_ok (p : Nat → Bool) (n : Nat) (hp : ∀ a b, a ≤ b → b < n → p b = true → p a = true) : ∀ (i j : Nat), i ≤ j → j ≤ n → (∀ k, k < i → p k = true) → (∀ k, j ≤ k → k < n → p k = false) →
    (∀ k, k < bsf p i j → p k = true) ∧ (∀ k, bsf p i j ≤ k → k < n → p k = false) := by
  intro i j
  fun_induction bsf p i j with
  | case1 i j hlt hm ih =>
    intro h1 h2 h3 h4
    refine ih (by omega) h2 (fun k hk => hp k ((i + j) / 2) (by omega) (by omega) hm) h4
  | case2 i j hlt hm ih =>
    intro h1 h2 h3 h4
    refine ih (by omega) (by omega) h3 (fun k hk hn => ?_)
    cases hk' : p k with
    | false => rfl
    | true => exact absurd (hp _ k hk hn hk') hm
  | case3 i j hlt =>
    intro h1 h2 h3 h4
    exact ⟨h3, fun k hk hn => h4 k (by omega) hn⟩
theorem bsf_ln {p : Nat → Bool} {n : Nat} (hp : ∀ a b, a ≤ b → b < n → p b = true → p a = true) : bsf p 0 n = ln p n := by
  obtain ⟨h1, h2⟩ := bsf_ok p n hp 0 n (Nat.zero_le _) (Nat.le_refl _) (fun k hk => by omega) (fun k h1 h2 => by omega)
  obtain ⟨_, h4⟩ := bsf_le p 0 n (Nat.zero_le _)
  exact (ln_uniq h1 h4 (fun h => h2 _ (Nat.le_refl _) h)).symm
theorem mid_eq {i j : Nat} (h1 : i ≤ j) (h2 : j ≤ 4611686018427387903) : IntKind.i64.wrap ((IntKind.u64.wrap (IntKind.i64.wrap ((i : Int) + j))).fdiv 2) = (((i + j) / 2 : Nat) : Int) := by
  rw [wrap_id (n := (i : Int) + j) (by omega) (by omega)]
  have hu : IntKind.u64.wrap ((i : Int) + j) = (i : Int) + j := by rw [IntKind.wrap_u64]; omega
  rw [hu, Int.fdiv_eq_ediv_of_nonneg _ (by omega)]
  rw [wrap_id (by omega) (by omega)]
  omega
/-- A loop that looks by halves. -/
theorem loopBs {E : Env} (ok : Ok P E) {G : Gk} (hG : HG P G) {C : Cx} (ST : Int → Int → St) (n : Nat) (p : Nat → Bool) {c : Code} {k : Kt} (hn : n ≤ 4611686018427387903)
    (body : ∀ (N : St → Prop) (i j : Nat), i ≤ j → j ≤ n → IntKind.i64.wrap ((IntKind.u64.wrap (IntKind.i64.wrap ((i : Int) + j))).fdiv 2) = (((i + j) / 2 : Nat) : Int) →
      (i < j → IntKind.i64.wrap ((((i + j) / 2 : Nat) : Int) + 1) = (((i + j) / 2 + 1 : Nat) : Int)) →
      (i < j → p ((i + j) / 2) = true → N (ST (((i + j) / 2 + 1 : Nat) : Int) j)) → (i < j → p ((i + j) / 2) = false → N (ST i (((i + j) / 2 : Nat) : Int))) → (¬ i < j → bsf p 0 n = i) →
      evP E G (LoopOk P C) c (ST i j) (rk (jof E c) N k)) (m : Int) (hm : m = n) : LoopOk P C c (ST 0 m) k := by
  subst hm
  exact loopR ok hG (ι := {q : Nat × Nat // q.1 ≤ q.2 ∧ q.2 ≤ n ∧ bsf p q.1 q.2 = bsf p 0 n}) (fun q => ST q.1.1 q.1.2) (fun q => q.1.2 - q.1.1) (fun ⟨(i, j), h0, h1, hb⟩ => by
    simp only at h0 h1 hb
    refine body _ i j h0 h1 (mid_eq h0 (by omega)) (fun h => ?_) (fun h2 h3 => ?_) (fun h2 h3 => ?_) (fun h2 => ?_)
    · rw [wrap_id (by omega) (by omega)]; omega
    · rw [bsf, dif_pos h2, if_pos h3] at hb
      exact ⟨⟨((i + j) / 2 + 1, j), by show (i + j) / 2 + 1 ≤ j; omega, h1, hb⟩, rfl, by show j - ((i + j) / 2 + 1) < j - i; omega⟩
    · rw [bsf, dif_pos h2, if_neg (by simp [h3])] at hb
      exact ⟨⟨(i, (i + j) / 2), by show i ≤ (i + j) / 2; omega, by show (i + j) / 2 ≤ n; omega, hb⟩, rfl, by show (i + j) / 2 - i < j - i; omega⟩
    · rw [bsf, dif_neg h2] at hb
      exact hb.symm) ⟨(0, n), Nat.zero_le _, Nat.le_refl _, rfl⟩
/-- A loop that goes on as long as something holds. -/
theorem loopLn {E : Env} (ok : Ok P E) {G : Gk} (hG : HG P G) {C : Cx} (ST : Int → St) (n : Nat) (p : Nat → Bool) {c : Code} {k : Kt}
    (hn : n < 9223372036854775807)
    (body : ∀ (N : St → Prop) (i : Nat), i ≤ n → IntKind.i64.wrap ((i : Int) + 1) = (i : Int) + 1 → (i < n → p i = true → N (ST ((i : Int) + 1))) → (i < n → p i = false → ln p n = i) → (¬ i < n → ln p n = i) →
      evP E G (LoopOk P C) c (ST i) (rk (jof E c) N k)) : LoopOk P C c (ST 0) k :=
  loopUp ok hG (α := Unit) (fun i _ => ST i) n (fun i _ => ∀ j, j < i → p j = true)
    (fun N i _ hi hall hN => body N i hi (wrap_id (by omega) (by omega)) (fun h1 h2 => hN h1 () (fun j hj => by
      by_cases e : j < i
      · exact hall j e
      · have : j = i := by omega
        rw [this]; exact h2)) (fun h1 h2 => ln_at hall h1 h2) (fun h1 => by
          have : i = n := by omega
          subst this
          exact ln_end hall)) () (fun j hj => by omega)
/-- In a row that ascends, what is found by order is what is found by looking. -/
theorem fd_ln {p e : Nat → Bool} {n : Nat} (h1 : ∀ i, i < n → p i = true → e i = false) (h2 : ∀ i j, i < j → j < n → e j = true → p i = true) :
    fd n e = match decide (ln p n < n) && e (ln p n) with | true => some (ln p n) | false => none := by
  have hle := ln_le p n
  cases he : decide (ln p n < n) && e (ln p n) with
  | true =>
    simp only [Bool.and_eq_true, decide_eq_true_eq] at he
    exact fd_at (fun j hj => h1 j (by omega) (ln_below hj)) he.1 he.2
  | false =>
    refine fd_none fun j hj => ?_
    rcases Nat.lt_trichotomy j (ln p n) with h | h | h
    · exact h1 j hj (ln_below h)
    · subst h
      rw [decide_eq_true hj, Bool.true_and] at he
      exact he
    · cases hej : e j with
      | false => rfl
      | true =>
        have := h2 _ j h hj hej
        rw [ln_fails (p := p) (n := n) (by omega)] at this
        cases this
/-- A chain: each place ends, with a word, or leads to another. -/
def chain (st : Nat → Bool ⊕ Nat) : Nat → Nat → Bool
  | 0, _ => false
  | m + 1, a => match st a with
    | .inl b => b
    | .inr k => chain st m k
theorem chain_mono (st : Nat → Bool ⊕ Nat) : ∀ (m a : Nat), chain st m a = true → chain st (m + 1) a = true
  | 0, a, h => by cases h
  | m + 1, a, h => by
    unfold chain at h ⊢
    split at h
    · exact h
    · exact chain_mono st m _ h
theorem chain_stable (st : Nat → Bool ⊕ Nat) (n : Nat) (hst : ∀ a k, a < n → st a = .inr k → k < n) (m : Nat) (h : ∀ a, a < n → chain st m a = chain st (m + 1) a) :
    ∀ a, a < n → chain st (m + 1) a = chain st (m + 2) a := by
  intro a ha
  conv => lhs; unfold chain
  conv => rhs; unfold chain
  split
  · rfl
  · rename_i k hk
    exact h k (hst a k ha hk)
theorem cnt_le {p q : Nat → Bool} : ∀ (l : List Nat), (∀ a ∈ l, p a = true → q a = true) → l.countP p ≤ l.countP q
  | l, h => List.countP_mono_left h
theorem cnt_eq {p q : Nat → Bool} : ∀ (l : List Nat), (∀ a ∈ l, p a = true → q a = true) → l.countP p = l.countP q → ∀ a ∈ l, p a = q a
  | [], _, _, a, ha => by cases ha
  | x :: l, h, e, a, ha => by
    have h1 := cnt_le (p := p) (q := q) l (fun a ha => h a (by simp [ha]))
    have hx := h x (by simp)
    rw [List.countP_cons, List.countP_cons] at e
    have e1 : p x = q x := by
      cases hp : p x with
      | true => rw [hx hp]
      | false =>
        cases hq : q x with
        | false => rfl
        | true => simp [hp, hq] at e; omega
    rw [e1] at e
    rcases List.mem_cons.1 ha with rfl | ha
    · exact e1
    · exact cnt_eq l (fun a ha => h a (by simp [ha])) (by omega) a ha
/-- A chain over n places ends within n steps, or not at all. -/
theorem chain_enough (st : Nat → Bool ⊕ Nat) (n : Nat) (hst : ∀ a k, a < n → st a = .inr k → k < n) : ∀ a, a < n → chain st n a = chain st (n + 1) a := by
  have key : ∀ m, m ≤ (List.range n).countP (chain st m) ∨ ∀ a, a < n → chain st m a = chain st (m + 1) a := by
    intro m
    induction m with
    | zero => exact .inl (Nat.zero_le _)
    | succ m ih =>
      rcases ih with ih | ih
      · by_cases e : (List.range n).countP (chain st m) = (List.range n).countP (chain st (m + 1))
        · have h2 := cnt_eq (List.range n) (fun a _ h => chain_mono st m a h) e
          exact .inr (chain_stable st n hst m fun a ha => h2 a (by simpa using ha))
        · have h2 := cnt_le (List.range n) (fun a _ h => chain_mono st m a h)
          exact .inl (by omega)
      · exact .inr (chain_stable st n hst m ih)
  rcases key n with h | h
  · by_cases e : (List.range n).countP (chain st n) = (List.range n).countP (chain st (n + 1))
    · intro a ha
      exact cnt_eq (List.range n) (fun a _ h => chain_mono st n a h) e a (by simpa using ha)
    · have h2 := cnt_le (List.range n) (fun a _ h => chain_mono st n a h)
      have h3 : (List.range n).countP (chain st (n + 1)) ≤ n := by
        have := List.countP_le_length (p := chain st (n + 1)) (l := List.range n)
        simpa using this
      omega
  · exact h
end Go.Proofs.Ytkjnijddbiconaa.Ev

namespace Go.Proofs.Ytkjnijddbiconaa.Ev
open Go
set_option linter.unusedVariables false
variable {P : Program}
theorem oi_none {S : Sb} {σ : Sg} {ob : Ob} {w : World} (h : OI S σ ob w) : OI S (fun _ => none) (lookN (number 0 [])) w :=
  ⟨fun o x ho => by simp [number, lookN] at ho, fun o o' x x' k k' ho => by simp [number, lookN] at ho, h.st, fun o x k ho => by simp [number, lookN] at ho, h.tab⟩
theorem ctr_drop {E : Env} (ok : Ok P E) {G : Gk} (hG : HG P G) {f : FuncId} {fn : Func} (hf : P.funcs[f]? = some fn) (hb : fn.body.isSome = true) (hn : (fn.name == "runtime.NumGoroutine") = false)
    {args : List AV} {obs : List AO} {v : Value} (ho : Nat.ble obs.length start = true) (h : ∀ C, bodyP E G (LoopOk P C) fn args obs (fun o => ∃ os us, o = some ⟨.val v, os, us⟩)) : Ctr P f args obs ⟨.val v, [], List.replicate obs.length none⟩ := by
  obtain ⟨c, hb⟩ := Option.isSome_iff_exists.1 hb
  have ho : obs.length ≤ start := by simpa using ho
  intro S π w vs hR oi hπ o a K Q hk
  rw [run_callFunc hf hb hn]
  show Calls P f vs.toArray w _
  have hbody := h ⟨S, π, w⟩
  unfold bodyP at hbody
  have hc : codeOf fn = c := by simp [codeOf, hb]
  rw [hc] at hbody
  refine calls_of_wp hf hb (evP_sound (ok.of fn).tt (ok.of fn).eqs (ok.of fn).mixed hG c _ _ π _ w _ hbody ?_ fun e st' σ' a' w' hst hi' => ?_)
  · have hlen := hR.1
    have hRL : RL S π (args ++ List.replicate (fn.ntmps - args.length) (.val undef)) (vs.toArray ++ Array.replicate (fn.ntmps - vs.toArray.size) undef).toList := by
      have hrep : ∀ n, RL S π (List.replicate n (.val undef)) (List.replicate n undef) := by
        intro n
        induction n with
        | zero => exact .nil
        | succ n ih => exact .cons (.val _) ih
      have := hR.append (hrep (fn.ntmps - args.length))
      simpa [hlen] using this
    have sl := slots_iff (a := ⟨vs.toArray ++ Array.replicate (fn.ntmps - vs.toArray.size) undef, []⟩).2 hRL
    refine ⟨sl.len, sl.tm, oi, fun p hp => Nat.lt_of_lt_of_le (hπ p hp) ho, fun i p hp => ?_, rfl, .refl w⟩
    obtain ⟨h1, h2⟩ := handed_at _ _ _ _ hp
    have : p = i := by omega
    subst this
    obtain ⟨k, hk, _⟩ := oi.ok p obs[p] (by rw [lookN_num]; simp [h2])
    exact ⟨k, hk, hk⟩
  · have fin : ∀ (hst : ∃ os us, finish E fn.results.toList st' = some ⟨.val v, os, us⟩), a'.defers = [] ∧ ∃ v, (results fn a'.tmps).run P w' = .ok v w' ∧ K (a.put o.dst v) w' := by
      intro hst
      obtain ⟨os, us, hst⟩ := hst
      obtain ⟨x, h1, σ2, h2, h3, h4, h5⟩ := finish_ok (P := P) (ok.of fn).tt hi' hst
      have h2 : R S σ2 (.val v) x := h2
      cases h2
      refine ⟨hi'.df, v, h1, hk v w' ⟨fun _ => none, .val v, oi_none h3, hi'.tl, fun q hq => absurd rfl hq, fun i q hq => ?_⟩⟩
      have hq : (List.replicate obs.length (none : Option Nat))[i]? = some (some q) := hq
      rw [List.getElem?_replicate] at hq
      split at hq
      · cases hq
      · cases hq
    cases e with
    | normal => exact fin hst
    | ret => exact fin hst
    | exit n => exact hst.elim
end Go.Proofs.Ytkjnijddbiconaa.Ev

namespace Go.Proofs.Ytkjnijddbiconaa.Ev
open Go
set_option linter.unusedVariables false
variable {P : Program}
/-- One block turned, all else as it was. -/
structure Alt (w w' : World) (b : Nat) (cur : Array Value) (e : TypeId) : Prop where
  tl : Tail w w'
  at_ : w'.heap[b]? = some (.cells cur e (0, 0))
  fr : ∀ (b' : Nat) (x : Obj), b' ≠ b → w.heap[b']? = some x → w'.heap[b']? = some x
def oneB (k : Bk) : Sg := fun q => if q = 0 then some k else none
theorem oneB_0 (k : Bk) : oneB k 0 = some k := rfl
theorem oneB_ne {k : Bk} {q : Nat} (h : oneB k q ≠ none) : q < 1 := by
  unfold oneB at h
  by_cases e : q = 0
  · omega
  · rw [if_neg e] at h; exact absurd rfl h
/-- A table of one row. -/
theorem oi_one {S : Sb} {w' : World} {cs : List CK} {ys : List (Elem cs)} {k : Bk} (h1 : ys.length = k.n) (h2 : k.real = false → ys = [])
    (h3 : k.real = true → cs.length = k.m ∧ ∃ cur e, w'.heap[k.b]? = some (.cells cur e (0, 0)) ∧ cur.size = k.sz ∧ cur.toList.take (flat cs ys).length = flat cs ys)
    (hst : ∀ b x, S b = some x → w'.heap[b]? = some x) (hsep : k.real = true → S k.b = none) (ht : TabOK S) : OI S (oneB k) (lookN (number 0 [.row cs ys])) w' := by
  refine ⟨?_, ?_, hst, ?_, ht⟩
  · intro o x ho
    rw [lookN_num] at ho
    have : o = 0 := by
      cases o with
      | zero => rfl
      | succ o => simp at ho
    subst this
    obtain rfl : AO.row cs ys = x := Option.some.inj ho
    exact ⟨k, rfl, And.intro h1 (And.intro h2 h3)⟩
  · intro o o' x x' q q' ho ho' _ _ _ _ _
    rw [lookN_num] at ho ho'
    cases o <;> cases o' <;> simp at ho ho' ⊢
  · intro o x q ho hq hr
    unfold oneB at hq
    split at hq
    · obtain rfl := Option.some.inj hq
      exact hsep hr
    · cases hq
theorem alt_st {S : Sb} {w w' : World} {b : Nat} {cur : Array Value} {e : TypeId} (alt : Alt w w' b cur e) (h : ∀ b x, S b = some x → w.heap[b]? = some x) (hs : S b = none) : ∀ b' x, S b' = some x → w'.heap[b']? = some x := by
  intro b' x hx
  refine alt.fr b' x (fun e => ?_) (h b' x hx)
  subst e
  rw [hs] at hx
  cases hx
/-- A function of the library that takes a row over and gives a row back. -/
theorem ctr_lrow {f : FuncId} {fn : Func} (hf : P.funcs[f]? = some fn) (hb : fn.body.isSome = true) (hn : (fn.name == "runtime.NumGoroutine") = false) {cs : List CK} {xs ys : List (Elem cs)}
    (hreal : ∀ (w : World) (b cap : Nat) (cur : Array Value) (e : TypeId), TabW w → w.heap[b]? = some (.cells cur e (0, 0)) → xs.length ≤ cap → cap * cs.length ≤ cur.size → cur.toList.take (flat cs xs).length = flat cs xs →
      Calls P f #[.slice (some ⟨b, 0, none⟩) xs.length cap] w fun e' w' => ∃ cap' cur', e' = .returned (.slice (some ⟨b, 0, none⟩) ys.length cap') ∧ ys.length ≤ cap' ∧ cap' * cs.length ≤ cur'.size ∧ Alt w w' b cur' e ∧ cur'.toList.take (flat cs ys).length = flat cs ys)
    (hnil : xs = [] → ys = [] ∧ ∀ (w : World) (x : Option Addr), Calls P f #[.slice x 0 0] w fun e' w' => e' = .returned (.slice x 0 0) ∧ Quiet w w') : Ctr P f [.ows 0] [.row cs xs] ⟨.ows 0, [.row cs ys], [none]⟩ := by
  obtain ⟨c, hc⟩ := Option.isSome_iff_exists.1 hb
  intro S π w vs hR oi hπ o a K Q hk
  obtain ⟨v, vs', rfl, hv, h2⟩ := hR.uncons
  have : vs' = [] := List.eq_nil_of_length_eq_zero (by have := h2.1; simpa using this.symm)
  subst this
  rw [run_callFunc hf hc hn]
  show Calls P f #[v] w _
  obtain ⟨k0, hk0, hx, hun, hre⟩ := oi.ok 0 (.row cs xs) rfl
  cases hv with
  | ows _ k cap hk' hr h1 h2 =>
    rw [hk'] at hk0
    obtain rfl := Option.some.inj hk0
    obtain ⟨hm, cur, e, hb', hsz, ht⟩ := hre hr
    have hsep := oi.sep 0 _ k rfl hk' hr
    rw [← hx]
    refine Calls.mono (hreal w k.b cap cur e (oi.tab w oi.st) hb' (by omega) (by rw [hm]; omega) ht) fun e' w' ⟨cap', cur', he, a1, a2, alt, a3⟩ => ?_
    subst he
    refine hk _ w' ⟨oneB ⟨k.b, ys.length, cs.length, cur'.size, true⟩, .ows 0 ⟨k.b, ys.length, cs.length, cur'.size, true⟩ cap' rfl rfl a1 a2, oi_one rfl (fun h => by cases h) (fun _ => ⟨rfl, cur', e, alt.at_, rfl, a3⟩) (alt_st alt oi.st hsep) (fun _ => hsep) oi.tab, alt.tl, fun q hq => oneB_ne hq, fun i q hq => ?_⟩
    cases i with
    | zero => simp at hq
    | succ i => simp at hq
  | ows0 _ k x hk' hr hn' =>
    rw [hk'] at hk0
    obtain rfl := Option.some.inj hk0
    obtain ⟨rfl, hc'⟩ := hnil (hun hr)
    refine Calls.mono (hc' w x) fun e' w' ⟨he, q⟩ => ?_
    subst he
    refine hk _ w' ⟨oneB ⟨0, 0, 0, 0, false⟩, .ows0 0 ⟨0, 0, 0, 0, false⟩ x rfl rfl rfl, oi_one rfl (fun _ => rfl) (fun h => by cases h) (fun b x hb => q.fr b x (oi.st b x hb)) (fun h => by cases h) oi.tab, q.tl, fun q hq => oneB_ne hq, fun i q hq => ?_⟩
    cases i with
    | zero => simp at hq
    | succ i => simp at hq
/-- A function of the library that turns a row in place. -/
theorem ctr_lturn {f : FuncId} {fn : Func} (hf : P.funcs[f]? = some fn) (hb : fn.body.isSome = true) (hn : (fn.name == "runtime.NumGoroutine") = false) {cs : List CK} {xs ys : List (Elem cs)} (hxy : ys.length = xs.length)
    (hreal : ∀ (w : World) (b cap : Nat) (cur : Array Value) (e : TypeId), TabW w → w.heap[b]? = some (.cells cur e (0, 0)) → xs.length ≤ cap → cap * cs.length ≤ cur.size → cur.toList.take (flat cs xs).length = flat cs xs →
      Calls P f #[.slice (some ⟨b, 0, none⟩) xs.length cap] w fun e' w' => ∃ cur', e' = .returned (.tuple #[]) ∧ cur'.size = cur.size ∧ Alt w w' b cur' e ∧ cur'.toList.take (flat cs ys).length = flat cs ys)
    (hnil : xs = [] → ∀ (w : World) (x : Option Addr), Calls P f #[.slice x 0 0] w fun e' w' => e' = .returned (.tuple #[]) ∧ Quiet w w') : Ctr P f [.ows 0] [.row cs xs] ⟨.val (.tuple #[]), [.row cs ys], [some 0]⟩ := by
  obtain ⟨c, hc⟩ := Option.isSome_iff_exists.1 hb
  intro S π w vs hR oi hπ o a K Q hk
  obtain ⟨v, vs', rfl, hv, h2⟩ := hR.uncons
  have : vs' = [] := List.eq_nil_of_length_eq_zero (by have := h2.1; simpa using this.symm)
  subst this
  rw [run_callFunc hf hc hn]
  show Calls P f #[v] w _
  obtain ⟨k0, hk0, hx, hun, hre⟩ := oi.ok 0 (.row cs xs) rfl
  have back : ∀ (k : Bk), π 0 = some k → ∀ (i q : Nat), ([some 0] : List (Option Nat))[i]? = some (some q) → oneB k q = π i := by
    intro k hk i q hq
    cases i with
    | zero => simp at hq; subst hq; exact hk.symm
    | succ i => simp at hq
  cases hv with
  | ows _ k cap hk' hr h1 h2 =>
    rw [hk'] at hk0
    obtain rfl := Option.some.inj hk0
    obtain ⟨hm, cur, e, hb', hsz, ht⟩ := hre hr
    have hsep := oi.sep 0 _ k rfl hk' hr
    rw [← hx]
    refine Calls.mono (hreal w k.b cap cur e (oi.tab w oi.st) hb' (by omega) (by rw [hm]; omega) ht) fun e' w' ⟨cur', he, a1, alt, a3⟩ => ?_
    subst he
    exact hk _ w' ⟨oneB k, .val _, oi_one (by omega) (fun h => by rw [hr] at h; cases h) (fun _ => ⟨hm, cur', e, alt.at_, by omega, a3⟩) (alt_st alt oi.st hsep) (fun _ => hsep) oi.tab, alt.tl, fun q hq => oneB_ne hq, back k hk'⟩
  | ows0 _ k x hk' hr hn' =>
    rw [hk'] at hk0
    obtain rfl := Option.some.inj hk0
    have hx0 := hun hr
    refine Calls.mono (hnil hx0 w x) fun e' w' ⟨he, q⟩ => ?_
    subst he
    have hy : ys = [] := List.eq_nil_of_length_eq_zero (by rw [hxy, hx0]; rfl)
    exact hk _ w' ⟨oneB k, .val _, oi_one (by omega) (fun _ => hy) (fun h => by rw [hr] at h; cases h) (fun b x hb => q.fr b x (oi.st b x hb)) (fun h => by rw [hr] at h; cases h) oi.tab, q.tl, fun q hq => oneB_ne hq, back k hk'⟩
/-- A function of the program that takes memory over and gives one row back, the first so many elements of what it ended with. -/
theorem ctr_take {E : Env} (ok : Ok P E) {G : Gk} (hG : HG P G) {f : FuncId} {fn : Func} (hf : P.funcs[f]? = some fn) (hb : fn.body.isSome = true) (hn : (fn.name == "runtime.NumGoroutine") = false)
    {args : List AV} {obs : List AO} {cs : List CK} {ys : List (Elem cs)} (ho : Nat.ble obs.length start = true)
    (h : ∀ C, bodyP E G (LoopOk P C) fn args obs (fun o => (∃ n zs us, o = some ⟨.osl 0 0 n, [.row cs zs], us⟩ ∧ zs.take n = ys) ∨ ∃ us, o = some ⟨.ows 0, [.row cs ys], us⟩)) : Ctr P f args obs ⟨.ows 0, [.row cs ys], List.replicate obs.length none⟩ := by
  obtain ⟨c, hb⟩ := Option.isSome_iff_exists.1 hb
  have ho : obs.length ≤ start := by simpa using ho
  intro S π w vs hR oi hπ o a K Q hk
  rw [run_callFunc hf hb hn]
  show Calls P f vs.toArray w _
  have hbody := h ⟨S, π, w⟩
  unfold bodyP at hbody
  have hc : codeOf fn = c := by simp [codeOf, hb]
  rw [hc] at hbody
  refine calls_of_wp hf hb (evP_sound (ok.of fn).tt (ok.of fn).eqs (ok.of fn).mixed hG c _ _ π _ w _ hbody ?_ fun e st' σ' a' w' hst hi' => ?_)
  · have hlen := hR.1
    have hRL : RL S π (args ++ List.replicate (fn.ntmps - args.length) (.val undef)) (vs.toArray ++ Array.replicate (fn.ntmps - vs.toArray.size) undef).toList := by
      have hrep : ∀ n, RL S π (List.replicate n (.val undef)) (List.replicate n undef) := by
        intro n
        induction n with
        | zero => exact .nil
        | succ n ih => exact .cons (.val _) ih
      have := hR.append (hrep (fn.ntmps - args.length))
      simpa [hlen] using this
    have sl := slots_iff (a := ⟨vs.toArray ++ Array.replicate (fn.ntmps - vs.toArray.size) undef, []⟩).2 hRL
    refine ⟨sl.len, sl.tm, oi, fun p hp => Nat.lt_of_lt_of_le (hπ p hp) ho, fun i p hp => ?_, rfl, .refl w⟩
    obtain ⟨h1, h2⟩ := handed_at _ _ _ _ hp
    have : p = i := by omega
    subst this
    obtain ⟨k, hk, _⟩ := oi.ok p obs[p] (by rw [lookN_num]; simp [h2])
    exact ⟨k, hk, hk⟩
  · have outs : ∀ (τ : Sg) (i q : Nat), (List.replicate obs.length (none : Option Nat))[i]? = some (some q) → τ q = π i := by
      intro τ i q hq
      rw [List.getElem?_replicate] at hq
      split at hq
      · cases hq
      · cases hq
    have fin : ∀ (hst : (∃ n zs us, finish (E.of fn) fn.results.toList st' = some ⟨.osl 0 0 n, [.row cs zs], us⟩ ∧ zs.take n = ys) ∨ ∃ us, finish (E.of fn) fn.results.toList st' = some ⟨.ows 0, [.row cs ys], us⟩), a'.defers = [] ∧ ∃ v, (results fn a'.tmps).run P w' = .ok v w' ∧ K (a.put o.dst v) w' := by
      intro hst
      rcases hst with ⟨n, zs, us, hst, hzs⟩ | ⟨us, hst⟩
      · obtain ⟨x, h1, σ2, h2, h3, h4, h5⟩ := finish_ok (P := P) (ok.of fn).tt hi' hst
        obtain ⟨k0, hk0, hx, hun, hre⟩ := h3.ok 0 (.row cs zs) rfl
        have h2 : R S σ2 (.osl 0 0 n) x := h2
        generalize hz : (0 : Nat) = z at h2
        cases h2 with
        | osl _ _ _ k cap hk' hr g0 g1 g2 =>
          subst hz
          rw [hk'] at hk0
          obtain rfl := Option.some.inj hk0
          obtain ⟨hm, cur, e, hb', hsz, ht⟩ := hre hr
          have hsep := h3.sep 0 _ k rfl hk' hr
          have hyl : ys.length = n := by rw [← hzs, List.length_take]; omega
          refine ⟨hi'.df, _, h1, hk _ w' ⟨oneB ⟨k.b, n, k.m, k.sz, true⟩, ?_, oi_one hyl (fun h => by cases h) (fun _ => ⟨hm, cur, e, hb', hsz, ?_⟩) h3.st (fun _ => hsep) h3.tab, hi'.tl, fun q hq => oneB_ne hq, outs _⟩⟩
          · have := R.ows (S := S) (σ := oneB ⟨k.b, n, k.m, k.sz, true⟩) 0 ⟨k.b, n, k.m, k.sz, true⟩ cap rfl rfl g1 (by simpa using g2)
            simpa using this
          · have e1 : flat cs ys = (flat cs zs).take (n * cs.length) := by rw [← hzs, flat_take]
            have e2 : (flat cs ys).length ≤ (flat cs zs).length := by rw [e1, List.length_take]; omega
            have e3 : cur.toList.take (flat cs ys).length = (cur.toList.take (flat cs zs).length).take (flat cs ys).length := by rw [List.take_take, Nat.min_eq_left e2]
            rw [e3, ht, flat_length, hyl, ← e1]
        | osl0 _ _ k y hk' g0 =>
          have hy : ys = [] := by rw [← hzs]; rfl
          subst hy
          exact ⟨hi'.df, _, h1, hk _ w' ⟨oneB ⟨0, 0, 0, 0, false⟩, .ows0 0 ⟨0, 0, 0, 0, false⟩ y rfl rfl rfl, oi_one rfl (fun _ => rfl) (fun h => by cases h) h3.st (fun h => by cases h) h3.tab, hi'.tl, fun q hq => oneB_ne hq, outs _⟩⟩
      · obtain ⟨x, h1, σ2, h2, h3, h4, h5⟩ := finish_ok (P := P) (ok.of fn).tt hi' hst
        exact ⟨hi'.df, x, h1, hk x w' ⟨σ2, h2, h3, hi'.tl, h4, outs _⟩⟩
    cases e with
    | normal => exact fin hst
    | ret => exact fin hst
    | exit n => exact hst.elim
end Go.Proofs.Ytkjnijddbiconaa.Ev

namespace Go.Proofs.Ytkjnijddbiconaa.Ev
open Go
set_option linter.unusedVariables false
theorem alt_put {α : Type} [Inhabited α] (enc : α → Value) {w : World} {b n : Nat} {cur : Array Value} {e : TypeId} (d : Array α) (os : Array Obj) (hb : w.heap[b]? = some (.cells cur e (0, 0))) :
    Alt w (Sort.grow (Sort.putRow enc (Sort.ahead w n) b 0 d) os) b (Sort.putCells enc 0 d cur) e := by
  have hlt := (Array.getElem?_eq_some_iff.1 hb).1
  refine ⟨⟨rfl, rfl, rfl, ?_⟩, ?_, fun b' x hne hx => ?_⟩
  · show w.heap.size ≤ (w.heap.modify b (Sort.onCells (Sort.putCells enc 0 d)) ++ os).size
    rw [Array.size_append, Array.size_modify]
    omega
  · show (w.heap.modify b (Sort.onCells (Sort.putCells enc 0 d)) ++ os)[b]? = _
    rw [Array.getElem?_append_left (by rw [Array.size_modify]; exact hlt), Array.getElem?_modify, if_pos rfl, hb]
    rfl
  · have hlt' := (Array.getElem?_eq_some_iff.1 hx).1
    show (w.heap.modify b (Sort.onCells (Sort.putCells enc 0 d)) ++ os)[b']? = _
    rw [Array.getElem?_append_left (by rw [Array.size_modify]; exact hlt'), Array.getElem?_modify, if_neg (fun h => hne h.symm), hx]
theorem put_cells {α : Type} [Inhabited α] (enc : α → Value) (d : Array α) (cur : Array Value) (h : d.size ≤ cur.size) : (Sort.putCells enc 0 d cur).size = cur.size ∧ (Sort.putCells enc 0 d cur).toList.take d.size = d.toList.map enc := by
  have hs : (Sort.putCells enc 0 d cur).size = cur.size := by simp [Sort.putCells]
  refine ⟨hs, ?_⟩
  apply List.ext_getElem
  · rw [List.length_take, Array.length_toList, hs, List.length_map, Array.length_toList]
    omega
  · intro i h1 h2
    have hi : i < d.size := by simpa using h2
    rw [List.getElem_take, Array.getElem_toList, List.getElem_map, Array.getElem_toList]
    simp only [Sort.putCells, Array.getElem_mapIdx]
    rw [if_pos ⟨Nat.zero_le _, by omega⟩, Nat.sub_zero, getElem!_pos d i hi]
theorem holds_of {α : Type} [Inhabited α] (enc : α → Value) {w : World} {b : Nat} {cur : Array Value} {e : TypeId} {d : Array α} (hb : w.heap[b]? = some (.cells cur e (0, 0))) (hc : cur.toList.take d.size = d.toList.map enc) : Sort.Holds enc w b 0 d := by
  intro j hj
  have h1 : cur[j]? = some (enc d[j]!) := by
    have := congrArg (fun l : List Value => l[j]?) hc
    simp only [List.getElem?_take, if_pos hj, List.getElem?_map, Array.getElem?_toList] at this
    rw [this, Array.getElem?_eq_getElem hj, getElem!_pos d j hj]
    rfl
  constructor
  · simp [World.cell?, hb, h1]
  · simp [World.frozen?, hb]
end Go.Proofs.Ytkjnijddbiconaa.Ev
