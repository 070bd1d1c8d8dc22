/- Words: a string cut at a byte; a function of the library that lays a new row. -/
import Derived.Test.YtljilcingbohkabDoorEv26
import Derived.Test.YtljilcingbohkabDoorEv28
import Derived.Lib.SplitLaws
namespace Go.Proofs.YtljilcingbohkabDoor.Ev
open Go
set_option linter.unusedVariables false
variable {P : Program}
theorem ctr_row {f : FuncId} {fn : Func} (hf : P.funcs[f]? = some fn) (hb : fn.body.isSome = true) (hn : (fn.name == "runtime.NumGoroutine") = false) {us : List Value} {cs : List CK} {xs : List (Elem cs)}
    (h : ∀ w, TabW w → Calls P f us.toArray w fun e w' => ∃ cap cur ty, e = .returned (.slice (some ⟨w.heap.size, 0, none⟩) xs.length cap) ∧ xs.length ≤ cap ∧ cap * cs.length ≤ cur.size ∧
      w'.heap[w.heap.size]? = some (.cells cur ty (0, 0)) ∧ cur.toList.take (flat cs xs).length = flat cs xs ∧ Quiet w w') : Ctr P f (us.map .val) [] ⟨.ows 0, [.row cs xs], []⟩ := by
  obtain ⟨c, hc⟩ := Option.isSome_iff_exists.1 hb
  intro S π w vs hR oi hπ o a K Q hk
  obtain rfl := RL_vals_eq hR
  rw [run_callFunc hf hc hn]
  show Calls P f vs.toArray w _
  refine Calls.mono (h w (oi.tab w oi.st)) fun e w' ⟨cap, cur, ty, he, h1, h2, h3, h4, q⟩ => ?_
  subst he
  refine hk _ w' ⟨fun q => if q = 0 then some ⟨w.heap.size, xs.length, cs.length, cur.size, true⟩ else none, .ows 0 ⟨w.heap.size, xs.length, cs.length, cur.size, true⟩ cap rfl rfl h1 h2, ⟨?_, ?_, fun b x hb => q.fr b x (oi.st b x hb), ?_, oi.tab⟩, q.tl, ?_, fun i q hq => by simp at hq⟩
  · intro o x ho
    rw [lookN_num] at ho
    have : o = 0 := by
      cases o with
      | zero => rfl
      | succ o => simp at ho
    subst this
    obtain rfl : AO.row cs xs = x := Option.some.inj ho
    exact ⟨⟨w.heap.size, xs.length, cs.length, cur.size, true⟩, rfl, And.intro rfl (And.intro (fun hh => Bool.noConfusion hh) (fun _ => ⟨rfl, cur, ty, h3, rfl, h4⟩))⟩
  · intro o o' x x' k k' ho ho' _ _ _ _ _
    rw [lookN_num] at ho ho'
    cases o <;> cases o' <;> simp at ho ho' ⊢
  · intro o x k ho hk' hr
    split at hk'
    · obtain rfl := Option.some.inj hk'
      cases hS : S w.heap.size with
      | none => rfl
      | some y =>
        have := oi.st _ y hS
        have := (Array.getElem?_eq_some_iff.1 this).1
        omega
    · cases hk'
  · intro q hq
    by_cases e : q = 0
    · subst e; exact Nat.zero_lt_one
    · exact absurd (if_neg e) hq
/-- A row of bytes, cut at each place that holds one. -/
def consW (a : List UInt8) : List (List UInt8) → List (List UInt8)
  | [] => [a]
  | w :: ws => (a ++ w) :: ws
def splitW (c : UInt8) : List UInt8 → List (List UInt8)
  | [] => [[]]
  | b :: l => if b = c then [] :: splitW c l else consW [b] (splitW c l)
theorem splitW_ne (c : UInt8) : ∀ l, splitW c l ≠ []
  | [] => by simp [splitW]
  | b :: l => by
    unfold splitW
    split
    · simp
    · unfold consW
      split <;> simp
theorem consW_consW (a b : List UInt8) (ws : List (List UInt8)) (h : ws ≠ []) : consW a (consW b ws) = consW (a ++ b) ws := by
  cases ws with
  | nil => exact absurd rfl h
  | cons w ws => simp [consW]
theorem consW_nil (ws : List (List UInt8)) (h : ws ≠ []) : consW [] ws = ws := by
  cases ws with
  | nil => exact absurd rfl h
  | cons w ws => simp [consW]
theorem splitW_free (c : UInt8) : ∀ (a : List UInt8), c ∉ a → splitW c a = [a]
  | [], _ => rfl
  | b :: l, h => by
    have h1 : b ≠ c := fun e => h (by simp [e])
    unfold splitW
    rw [if_neg h1, splitW_free c l (fun hm => h (by simp [hm]))]
    rfl
theorem splitW_cut (c : UInt8) : ∀ (a r : List UInt8), c ∉ a → splitW c (a ++ c :: r) = a :: splitW c r
  | [], r, _ => by
    rw [List.nil_append, splitW, if_pos rfl]
  | b :: l, r, h => by
    have h1 : b ≠ c := fun e => h (by simp [e])
    rw [List.cons_append, splitW, if_neg h1, splitW_cut c l r (fun hm => h (by simp [hm]))]
    rfl
/-- The words of a row have not the byte. -/
theorem splitW_not (c : UInt8) : ∀ (l : List UInt8), ∀ w ∈ splitW c l, c ∉ w
  | [], w, h => by simp [splitW] at h; simp [h]
  | b :: l, w, h => by
    have ih := splitW_not c l
    unfold splitW at h
    split at h
    · rcases List.mem_cons.1 h with rfl | h
      · simp
      · exact ih w h
    · rename_i hb
      cases hs : splitW c l with
      | nil => exact absurd hs (splitW_ne c l)
      | cons v vs =>
        rw [hs] at h ih
        rcases List.mem_cons.1 h with rfl | h
        · have := ih v (by simp)
          simp [this, Ne.symm hb]
        · exact ih w (by simp [h])
/-- Joined again, they are the row. -/
def joinW (c : UInt8) : List (List UInt8) → List UInt8
  | [] => []
  | [w] => w
  | w :: v :: ws => w ++ c :: joinW c (v :: ws)
theorem joinW_cons (c : UInt8) (a : List UInt8) (ws : List (List UInt8)) : joinW c (consW a ws) = a ++ joinW c ws := by
  match ws with
  | [] => simp [consW, joinW]
  | [w] => simp [consW, joinW]
  | w :: v :: ws => simp [consW, joinW]
theorem joinW_split (c : UInt8) : ∀ (l : List UInt8), joinW c (splitW c l) = l
  | [] => rfl
  | b :: l => by
    have ih := joinW_split c l
    unfold splitW
    split
    · rename_i hb
      cases hs : splitW c l with
      | nil => exact absurd hs (splitW_ne c l)
      | cons v vs =>
        rw [hs] at ih
        show [] ++ c :: joinW c (v :: vs) = _
        rw [ih, hb]
        rfl
    · rw [joinW_cons, ih]
      rfl
theorem splitW_join (c : UInt8) : ∀ (ws : List (List UInt8)), ws ≠ [] → (∀ w ∈ ws, c ∉ w) → splitW c (joinW c ws) = ws
  | [], h, _ => absurd rfl h
  | [w], _, h => splitW_free c w (h w (by simp))
  | w :: v :: ws, _, h => by
    show splitW c (w ++ c :: joinW c (v :: ws)) = _
    rw [splitW_cut c w _ (h w (by simp)), splitW_join c (v :: ws) (by simp) (fun u hu => h u (by simp [hu]))]
/-- It is what the library's strings.Split does. -/
theorem splitK_W (c : UInt8) : ∀ (l : List UInt8), Lib.splitK [c] 0 (Lib.count l [c]) l = splitW c l
  | [] => by
    rw [Lib.count_miss (by simp [Lib.index])]
    rfl
  | b :: l => by
    have ih := splitK_W c l
    by_cases h : b = c
    · subst h
      have hix : Lib.index (b :: l) [b] = ((0 : Nat) : Int) := by rw [Lib.index]; simp [List.isPrefixOf]
      rw [Lib.count_cons_eq, Nat.add_comm, Lib.splitK, hix, if_neg (by decide)]
      unfold splitW
      rw [if_pos rfl, ← ih]
      rfl
    · have hp : ([c] : List UInt8).isPrefixOf (b :: l) = false := by simp [List.isPrefixOf, Ne.symm h]
      have hix : Lib.index (b :: l) [c] = if Lib.index l [c] == -1 then -1 else Lib.index l [c] + 1 := by rw [Lib.index, hp]; simp
      rw [Lib.count_cons_ne b c l h]
      unfold splitW
      rw [if_neg h, ← ih]
      by_cases hm : Lib.index l [c] = -1
      · rw [Lib.count_miss hm]
        rfl
      · have hge : -1 ≤ Lib.index l [c] := by rw [Lib.index_one]; exact Lib.indexByte_ge l c
        obtain ⟨i, hi⟩ : ∃ i : Nat, Lib.index l [c] = i := ⟨(Lib.index l [c]).toNat, by omega⟩
        rw [Lib.count_hit (by simp) hi, Nat.add_comm, Lib.splitK, Lib.splitK, hix, hi]
        rw [if_neg (show ¬ ((i : Int) == -1) = true by rw [beq_iff_eq]; omega), if_neg (show ¬ ((i : Int) == -1) = true by rw [beq_iff_eq]; omega), if_neg (show ¬ ((i : Int) + 1 == -1) = true by rw [beq_iff_eq]; omega)]
        have e1 : ((i : Int) + 1).toNat = i + 1 := by omega
        rw [e1, Int.toNat_natCast]
        rfl
end Go.Proofs.YtljilcingbohkabDoor.Ev
