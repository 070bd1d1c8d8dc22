/- Slices: their elements, append, make, cuts, indices. -/
import Derived.Test.YtkjnijddbiconaaEv5
namespace Go.Proofs.Ytkjnijddbiconaa.Ev
open Go
set_option linter.unusedVariables false
set_option linter.unusedSimpArgs false
variable {P : Program} {E : Env} {S : Sb} {σ : Sg} {l : List AV} {a : Act} {ob : Ob} {w : World}

theorem castE_eq {cs cs' : List CK} {xs : List (Elem cs')} {ys : List (Elem cs)} (h : castE cs cs' xs = some ys) : ∃ e : cs' = cs, e ▸ xs = ys := by
  unfold castE at h
  split at h
  · rename_i e; exact ⟨e, by simpa using h⟩
  · cases h
theorem castE_same {cs : List CK} {xs ys : List (Elem cs)} (h : castE cs cs xs = some ys) : xs = ys := by
  simpa [castE] using h
theorem elemsX_ok (cs : List CK) : ∀ (n : Nat) (us : List AV) (xs : List (Elem cs)) (vs : List Value), elemsX cs n us = some xs → RL S σ us vs →
    xs.length = n ∧ flat cs xs = vs.take (n * cs.length)
  | 0, us, xs, vs, h, _ => by simp [elemsX] at h; subst h; simp [flat]
  | n + 1, us, xs, vs, h, hl => by
    simp only [elemsX] at h
    split at h
    · rename_i q hq
      split at h
      · rename_i e he
        split at h
        · rename_i r hr
          simp at h; subst h
          obtain ⟨rfl, hle⟩ := takeX_eq _ _ _ hq
          obtain ⟨h1, h2⟩ := elemsX_ok cs n _ _ _ hr (hl.drop cs.length)
          refine ⟨by simp [h1], ?_⟩
          unfold elemOf at he
          split at he
          · rename_i ws hws
            have := flatAVs_RL hws (hl.take cs.length)
            have hv := ofVals_vals cs ws e he
            rw [flat_cons, h2, ← hv, ← this, Nat.add_mul, Nat.one_mul, Nat.add_comm, List.take_add]
          · cases he
        · cases h
      · cases h
    · cases h
/-- The elements of a slice lie where the value says. -/
theorem elems_ok (oi : OI S σ ob w) {cs : List CK} {av : AV} {ys : List (Elem cs)} (h : elems ob cs av = some ys) {v : Value} (r : R S σ av v) :
    ∃ A c, v = .slice A ys.length c ∧ ys.length ≤ c ∧ ∀ j u, (flat cs ys)[j]? = some u → ∃ ad, A = some ad ∧ w.cell? (ad.add j) = some u := by
  unfold elems at h
  split at h
  · simp at h; subst h
    cases r
    exact ⟨none, 0, rfl, Nat.le_refl _, fun j u hu => by simp [flat] at hu⟩
  · rename_i cs' xs
    obtain ⟨hce, _⟩ := castE_eq h
    subst hce
    obtain rfl := castE_same h
    cases r with
    | rsl _ _ A c hc hh => exact ⟨A, c, rfl, hc, fun j u hu => let ⟨ad, e, h⟩ := hh j u hu; ⟨ad, e, cellS_world oi.st h⟩⟩
  · rename_i o
    split at h
    · rename_i cs' xs ho
      obtain ⟨hce, _⟩ := castE_eq h
      subst hce
      obtain rfl := castE_same h
      obtain ⟨k', hk', hx, hv, hreal⟩ := oi.ok o _ ho
      cases r with
      | ows _ k cap hk hr h1 h2 =>
        rw [hk] at hk'
        obtain rfl := Option.some.inj hk'
        obtain ⟨hm, cur, e, hb, hsz, ht⟩ := hreal hr
        refine ⟨_, cap, by rw [hx], by omega, fun j u hu => ⟨_, rfl, ?_⟩⟩
        rw [block_cell hb, Nat.zero_add]
        rw [← ht, List.getElem?_take] at hu
        split at hu
        · simpa using hu
        · cases hu
      | ows0 _ k x hk hr hn =>
        rw [hk] at hk'
        obtain rfl := Option.some.inj hk'
        have := hv hr
        subst this
        exact ⟨x, 0, rfl, Nat.le_refl _, fun j u hu => by simp [flat] at hu⟩
    · cases h
  · rename_i o lo n
    split at h
    · rename_i cs' xs ho
      obtain ⟨hce, _⟩ := castE_eq h
      subst hce
      obtain rfl := castE_same h
      obtain ⟨k', hk', hx, hv, hreal⟩ := oi.ok o _ ho
      cases r with
      | osl _ _ _ k cap hk hr h0 h1 h2 =>
        rw [hk] at hk'
        obtain rfl := Option.some.inj hk'
        obtain ⟨hm, cur, e, hb, hsz, ht⟩ := hreal hr
        have hl : ((xs.drop lo).take n).length = n := by simp; omega
        refine ⟨_, cap, by rw [hl], by rw [hl]; exact h1, fun j u hu => ⟨_, rfl, ?_⟩⟩
        rw [block_cell hb, ← hm]
        rw [flat_take, flat_drop, List.getElem?_take] at hu
        split at hu
        · rw [List.getElem?_drop, ← ht, List.getElem?_take] at hu
          split at hu
          · simpa using hu
          · cases hu
        · cases hu
      | osl0 _ _ k x hk h0 => exact ⟨x, 0, by simp, by simp, fun j u hu => by simp [flat] at hu⟩
    · cases h
  · rename_i o j cs' n
    split at h
    · rename_i us ho
      split at h
      · rename_i xs hxs
        obtain ⟨hce, _⟩ := castE_eq h
        subst hce
        obtain rfl := castE_same h
        obtain ⟨k', hk', hbox⟩ := oi.ok o _ ho
        cases r with
        | bsl _ _ _ _ k c hk hr hc =>
          rw [hk] at hk'
          obtain rfl := Option.some.inj hk'
          obtain ⟨_, cur, e, hb, hl⟩ := hbox
          obtain ⟨h1, h2⟩ := elemsX_ok _ _ _ _ _ hxs (hl.drop j)
          refine ⟨_, c, by rw [h1], by omega, fun q u hu => ⟨_, rfl, ?_⟩⟩
          rw [block_cell hb]
          rw [h2, List.getElem?_take] at hu
          split at hu
          · simpa using hu
          · cases hu
      · cases h
    · cases h
  · cases h
theorem lenAV_ok (oi : OI S σ ob w) {av : AV} {n : Nat} (h : lenAV ob av = some n) {v : Value} (r : R S σ av v) :
    (∃ A c, v = .slice A n c ∧ n ≤ c) ∨ (∃ s, av = .val (.string s) ∧ v = .string s ∧ n = s.size) := by
  unfold lenAV at h
  split at h
  · simp at h; subst h; cases r; exact .inl ⟨_, _, rfl, Nat.le_refl _⟩
  · simp at h; subst h; cases r with | rsl _ _ A c hc _ => exact .inl ⟨A, c, rfl, hc⟩
  · rename_i o
    split at h
    · rename_i cs xs ho
      simp at h; subst h
      obtain ⟨k', hk', hx, hv, _⟩ := oi.ok o _ ho
      cases r with
      | ows _ k cap hk hr h1 h2 =>
        rw [hk] at hk'
        obtain rfl := Option.some.inj hk'
        exact .inl ⟨_, cap, by rw [hx], by omega⟩
      | ows0 _ k x hk hr hn =>
        rw [hk] at hk'
        obtain rfl := Option.some.inj hk'
        rw [hv hr]
        exact .inl ⟨x, 0, rfl, Nat.le_refl _⟩
    · cases h
  · simp at h; subst h
    cases r with
    | osl _ _ _ k cap hk hr h0 h1 h2 => exact .inl ⟨_, cap, rfl, h1⟩
    | osl0 _ _ k x hk h0 => exact .inl ⟨x, 0, rfl, Nat.le_refl _⟩
  · simp at h; subst h
    cases r with | bsl _ _ _ _ k c hk hr hc => exact .inl ⟨_, c, rfl, hc⟩
  · simp at h; subst h
    cases r
    exact .inr ⟨_, rfl, rfl, rfl⟩
  · cases h

/-! ### append -/
theorem vals_one : ∀ (cs : List CK) (y : Elem cs) (u : Value), u ∈ vals cs y → u.oneCell' = true
  | [], y, u, hu => by simp [vals] at hu
  | c :: cs, y, u, hu => by
    simp [vals] at hu
    rcases hu with rfl | hu
    · cases c <;> rfl
    · exact vals_one cs _ u hu
theorem run_append_fit (t ty e : TypeId) (i : TypeInfo) (ht : P.underlying t = some (.slice e)) (hi : P.info? e = some i) (base A : Option Addr) (n cap m c : Nat) (news : List Value) {w' : World}
    (hnews : (Builtin.firstCells i.size m (.slice A m c)).run P w = .ok news.toArray w) (hroom : n + m ≤ cap)
    (hst : ∀ ad, base = some ad → (storeCells (ad.add (n * i.size)) news).run P w = .ok () w') (hno : base = none → w' = w) :
    (Builtin.append_ #[t, t] ty #[.slice base n cap, .slice A m c]).run P w = .ok (.slice base (n + m) cap) w' := by
  cases base with
  | none =>
    obtain rfl := hno rfl
    simp [Builtin.append_, run_underlying ht, sizeOf, typeInfo, hi, Builtin.lenOf, hroom, hnews]
  | some ad =>
    have := hst ad rfl
    simp [Builtin.append_, run_underlying ht, sizeOf, typeInfo, hi, Builtin.lenOf, hroom, hnews, this]
theorem run_append_new (t ty e : TypeId) (i : TypeInfo) (z : Value) (ht : P.underlying t = some (.slice e)) (hi : P.info? e = some i) (hz : i.zero = some z) (base A : Option Addr) (n cap m c : Nat) (olds news : List Value)
    (hnews : (Builtin.firstCells i.size m (.slice A m c)).run P w.drew = .ok news.toArray w.drew) (holds : (Builtin.firstCells i.size n (.slice base n cap)).run P w.drew = .ok olds.toArray w.drew)
    (hg : cap < n + m) (h63 : n + m ≤ 9223372036854775807) (hfit : Builtin.nextslicecap (n + m) cap * i.bytes ≤ 281474976710656) :
    (Builtin.append_ #[t, t] ty #[.slice base n cap, .slice A m c]).run P w =
      .ok (.slice (some ⟨w.heap.size, 0, none⟩) (n + m) (grownCap w (n + m) cap e))
        (w.drew.alloc (.cells (olds.toArray ++ news.toArray ++ Builtin.zeroCells z.cells (grownCap w (n + m) cap e - (n + m))) e)) := by
  have hn : ¬ (n + m ≤ cap) := by omega
  have h63' : ¬ (9223372036854775807 < ((n : Int) + (m : Int))) := by omega
  have h48' : ¬ (281474976710656 < Builtin.nextslicecap (n + m) cap * i.bytes) := by omega
  simp [Builtin.append_, run_underlying ht, sizeOf, typeInfo, zeroValue, hi, hz, Builtin.lenOf, hn, h63', h48', Question.forced, hnews, holds, newRow, grownCap]
  congr 2
  apply Array.ext'
  simp [List.append_assoc]
theorem firstCells_ok {A : Option Addr} {size n c : Nat} {cs : List Value} (hl : cs.length = n * size) (h : ∀ j u, cs[j]? = some u → ∃ ad, A = some ad ∧ w.cell? (ad.add j) = some u) :
    (Builtin.firstCells size n (.slice A n c)).run P w = .ok cs.toArray w := by
  cases A with
  | none =>
    have : cs = [] := by
      cases cs with
      | nil => rfl
      | cons x xs => obtain ⟨ad, e, _⟩ := h 0 x rfl; cases e
    subst this
    simp [Builtin.firstCells]
  | some ad =>
    exact run_firstCells_some (P := P) w size n ad n c cs hl fun j u hu => by
      obtain ⟨ad', e, hc⟩ := h j u hu
      obtain rfl := Option.some.inj e
      exact hc
/-- What is appended to: nothing yet, or the begin of an own row. -/
inductive Dest (S : Sb) (σ : Sg) (ob : Ob) (w : World) (cs : List CK) : List (Elem cs) → List (Nat × Option AO) → Value → Prop
  | empty (fr : List (Nat × Option AO)) (hf : ∀ p ∈ fr, p.2 = none) (x : Option Addr) : Dest S σ ob w cs [] fr (.slice x 0 0)
  | row (o : Nat) (k : Bk) (xs0 : List (Elem cs)) (n cap : Nat) (ho : ob o = some (.row cs xs0)) (hk : σ o = some k) (hr : k.real = true) (h0 : n ≤ k.n) (h1 : n ≤ cap) (h2 : cap * k.m ≤ k.sz) :
      Dest S σ ob w cs (xs0.take n) [(o, none)] (.slice (some ⟨k.b, 0, none⟩) n cap)
theorem updF_dead (fr : List (Nat × Option AO)) (hf : ∀ p ∈ fr, p.2 = none) : ∀ (ob : Ob) (o : Nat) (x : AO), updF ob fr o = some x → ob o = some x := by
  induction fr with
  | nil => intro ob o x h; exact h
  | cons p r ih =>
    obtain ⟨q, y⟩ := p
    have hy : y = none := hf (q, y) (by simp)
    subst hy
    intro ob o x h
    have := ih (fun p hp => hf p (by simp [hp])) _ o x h
    by_cases e : o = q <;> simp_all
theorem updF_append (u u' : List (Nat × Option AO)) (ob : Ob) : updF ob (u ++ u') = updF (updF ob u) u' := by
  induction u generalizing ob with
  | nil => rfl
  | cons p r ih => obtain ⟨o, x⟩ := p; simp [updF, ih]
theorem append_dest (oi : OI S σ ob w) {t ty e : TypeId} {ti : TI} (ht : P.underlying t = some (.slice e)) (row : RowOK P e ti) {cs : List CK} (hcs : cs.length = ti.size) (hsz : 0 < ti.size) (hby : 0 < ti.bytes)
    {xs : List (Elem cs)} {fr : List (Nat × Option AO)} {vs : Value} (hd : Dest S σ ob w cs xs fr vs) {ys : List (Elem cs)} {A : Option Addr} {c : Nat}
    (hy : ∀ j u, (flat cs ys)[j]? = some u → ∃ ad, A = some ad ∧ w.cell? (ad.add j) = some u) (hb : (xs.length + ys.length) * ti.bytes ≤ 140737488355328) {nb : Nat} (hnb : σ nb = none) :
    ∃ v' w' σ', (Builtin.append_ #[t, t] ty #[vs, .slice A ys.length c]).run P w = .ok v' w' ∧ Does S σ ob w nb (.ows nb) (fr ++ [(nb, some (.row cs (xs ++ ys)))]) v' w' σ' := by
  obtain ⟨i, hi, his, hib, hiz⟩ := row.info
  have hly : (flat cs ys).length = ys.length * i.size := by rw [flat_length, hcs, his]
  have hnews := firstCells_ok (P := P) (w := w) (size := i.size) (n := ys.length) (c := c) hly hy
  have hnews' := firstCells_ok (P := P) (w := w.drew) (size := i.size) (n := ys.length) (c := c) hly hy
  have hle : xs.length + ys.length ≤ 9223372036854775807 := by
    have : xs.length + ys.length ≤ (xs.length + ys.length) * ti.bytes := Nat.le_mul_of_pos_right _ hby
    omega
  have hzc : ti.zero.cells.size = ti.size := by
    have := congrArg List.length row.c
    simp at this
    rw [this, row.z]
  -- a new block
  have grow : ∀ (olds : List Value) (cap : Nat), olds = flat cs xs → cap < xs.length + ys.length → ∀ v' w',
      v' = .slice (some ⟨w.heap.size, 0, none⟩) (xs.length + ys.length) (grownCap w (xs.length + ys.length) cap e) →
      w' = w.drew.alloc (.cells (olds.toArray ++ (flat cs ys).toArray ++ Builtin.zeroCells ti.zero.cells (grownCap w (xs.length + ys.length) cap e - (xs.length + ys.length))) e) →
      ∀ (hfr : ∀ o x, updF ob fr o = some x → ob o = some x), ∃ σ', Does S σ ob w nb (.ows nb) (fr ++ [(nb, some (.row cs (xs ++ ys)))]) v' w' σ' := by
    intro olds cap ho hcap v' w' hv hw hfr
    have hge := grownCap_ge w (xs.length + ys.length) cap e
    let cur := olds.toArray ++ (flat cs ys).toArray ++ Builtin.zeroCells ti.zero.cells (grownCap w (xs.length + ys.length) cap e - (xs.length + ys.length))
    have hcur : cur.size = grownCap w (xs.length + ys.length) cap e * ti.size := by
      show (olds.toArray ++ (flat cs ys).toArray ++ Builtin.zeroCells ti.zero.cells (grownCap w (xs.length + ys.length) cap e - (xs.length + ys.length))).size = _
      rw [ho]
      simp only [Array.size_append, List.size_toArray, size_zeroCells, hzc, flat_length, hcs, ← Nat.add_mul]
      congr 1
      omega
    let k : Bk := ⟨w.heap.size, xs.length + ys.length, ti.size, cur.size, true⟩
    refine ⟨fun p => if p = nb then some k else σ p, ?_, ?_, ext_put (.inl hnb), new_put, ?_, ?_, ?_⟩
    · rw [hv]
      exact .ows nb k _ (by simp) rfl hge (by show _ * ti.size ≤ cur.size; omega)
    · rw [updF_append, hw]
      have oi' : OI S σ (updF ob fr) w.drew := ⟨(oi.sub hfr).ok, (oi.sub hfr).inj, oi.st, (oi.sub hfr).sep, oi.tab⟩
      refine oi'.fresh (k := k) hnb rfl ⟨by simp [k], fun h => by simp [k] at h, fun _ => ⟨hcs, cur, e, ?_, rfl, ?_⟩⟩
      · exact heap_alloc_new w.drew _
      · show (cur.toList).take _ = _
        have : cur.toList = flat cs (xs ++ ys) ++ (Builtin.zeroCells ti.zero.cells (grownCap w (xs.length + ys.length) cap e - (xs.length + ys.length))).toList := by
          simp [cur, ho, flat_append]
        rw [this]
        exact List.take_left
    · rw [hw]; exact (Tail.drew w).trans (.alloc _ _)
    · intro b hb _; rw [hw]; exact heap_alloc_old w.drew _ hb
    · intro b hb
      rw [updF_append] at hb
      exact (own_put b hb).imp (own_sub hfr) fun h => by rw [← h.2]; exact Nat.le_refl _
  cases hd with
  | empty _ hf x =>
    by_cases hm : ys.length = 0
    · have hys : ys = [] := List.eq_nil_of_length_eq_zero hm
      subst hys
      have hr := run_append_fit (P := P) (w := w) t ty e i ht hi x A 0 0 0 c [] (w' := w) (by simpa [flat] using hnews) (by omega) (fun ad _ => by simp [storeCells]) (fun _ => rfl)
      let k : Bk := ⟨0, 0, 0, 0, false⟩
      refine ⟨_, _, fun p => if p = nb then some k else σ p, hr, .ows0 nb k x (by simp) rfl rfl, ?_, ext_put (.inl hnb), new_put, .refl w, fun _ _ _ => rfl, fun b hb => by
        rw [updF_append] at hb
        exact (own_put b hb).imp (own_sub (updF_dead fr hf ob)) fun h => by simp [k] at h⟩
      rw [updF_append]
      exact (oi.sub (updF_dead fr hf ob)).put (nb := nb) (k := k) (.inl hnb) (fun _ _ _ => rfl) (fun h => by simp [k] at h) (fun h => by simp [k] at h) ⟨by simp [k], fun _ => by simp, fun h => by simp [k] at h⟩
    · have hr := run_append_new (P := P) (w := w) t ty e i ti.zero ht hi hiz x A 0 0 ys.length c [] (flat cs ys) hnews' (firstCells_ok (by simp) (fun j u hu => by simp at hu)) (by omega) (by simpa using hle)
        (growslice_fits (by omega) (by rw [hib]; simpa using hb))
      simp only [List.length_nil, Nat.zero_add] at grow
      simp only [Nat.zero_add] at hr
      obtain ⟨σ', hdoes⟩ := grow [] 0 (by simp [flat]) (by omega) _ _ rfl rfl (updF_dead fr hf ob)
      exact ⟨_, _, σ', hr, by simpa using hdoes⟩
  | row o k xs0 n cap ho hk hr h0 h1 h2 =>
    obtain ⟨k', hk', hx, _, hreal⟩ := oi.ok o _ ho
    rw [hk] at hk'
    obtain rfl := Option.some.inj hk'
    obtain ⟨hm, cur, et, hbk, hcs', ht'⟩ := hreal hr
    have hxl : (xs0.take n).length = n := by simp; omega
    have hkm : k.m = ti.size := by rw [← hm, hcs]
    have hcurflat : cur.toList.take (n * cs.length) = flat cs (xs0.take n) := by
      rw [flat_take, ← ht', List.take_take, Nat.min_eq_left]
      rw [flat_length]
      exact Nat.mul_le_mul_right _ (by omega)
    have hfr : ∀ p x, updF ob [(o, none)] p = some x → ob p = some x := updF_dead _ (by simp) ob
    by_cases hroom : n + ys.length ≤ cap
    · have hfit : n * i.size + (flat cs ys).length ≤ cur.size := by
        rw [hly, his, ← hkm, ← Nat.add_mul, hcs']
        exact Nat.le_trans (Nat.mul_le_mul_right _ hroom) h2
      have hone : ∀ u ∈ flat cs ys, u.oneCell' = true := by
        intro u hu
        simp only [flat, List.mem_flatMap] at hu
        obtain ⟨y, _, hu⟩ := hu
        exact vals_one cs y u hu
      have hst := run_storeCells_at (P := P) k.b (n * i.size) et (flat cs ys) 0 cur w hbk (by simpa using hfit) hone
      simp only [Nat.add_zero] at hst
      have hrun := run_append_fit (P := P) (w := w) t ty e i ht hi (some ⟨k.b, 0, none⟩) A n cap ys.length c (flat cs ys) hnews hroom (fun ad e => by
        obtain rfl := Option.some.inj e
        rw [Addr.add_mid, Nat.zero_add]; exact hst) (fun e => by cases e)
      let k2 : Bk := ⟨k.b, n + ys.length, k.m, k.sz, true⟩
      rw [show ys.length = ys.length from rfl] at hrun
      refine ⟨_, _, fun p => if p = nb then some k2 else σ p, hrun, .ows nb k2 cap (by simp) rfl hroom h2, ?_, ext_put (.inl hnb), new_put, .setRow _ _ _, fun b _ hno => setRow_other w k.b b _ fun e => hno ⟨o, _, k, ho, hk, hr, e.symm⟩, fun b hb => by
        rw [updF_append] at hb
        exact (own_put b hb).elim (fun h => .inl (own_sub hfr h)) fun h => .inl ⟨o, _, k, ho, hk, hr, h.2⟩⟩
      rw [updF_append]
      refine (oi.sub hfr).put (nb := nb) (k := k2) (.inl hnb) (fun b _ hne => setRow_other w k.b b _ (hne rfl)) (fun _ p y k' hp _ hk' hr' hb' => ?_) (fun _ => oi.sep o _ k ho hk hr) ⟨by simp only [List.length_append, hxl, k2], fun h => by simp [k2] at h, fun _ => ⟨hm, _, et, setRow_heap w k.b cur _ et _ hbk, ?_, ?_⟩⟩
      · have hpo : p ≠ o := by
          intro e
          subst e
          simp [updF] at hp
        exact hpo (oi.inj p o y _ k' k (hfr p y hp) ho hk' hk hr' hr hb')
      · show _ = k.sz
        simp
        omega
      · simp only [List.toList_toArray]
        have e1 : n * i.size = n * cs.length := by rw [his, hcs]
        rw [e1, hcurflat, ← flat_append]
        exact List.take_left
    · have hle' : n + ys.length ≤ 9223372036854775807 := by rw [hxl] at hle; exact hle
      have hb' : (n + ys.length) * ti.bytes ≤ 140737488355328 := by rw [hxl] at hb; exact hb
      have grow' := grow
      rw [hxl] at grow'
      have holds : (Builtin.firstCells i.size n (.slice (some ⟨k.b, 0, none⟩) n cap)).run P w.drew = .ok (flat cs (xs0.take n)).toArray w.drew := by
        refine firstCells_ok (by rw [flat_length, hxl, hcs, his]) fun j u hu => ⟨_, rfl, ?_⟩
        show w.cell? _ = _
        rw [block_cell hbk, Nat.zero_add]
        rw [← hcurflat, List.getElem?_take] at hu
        split at hu
        · simpa using hu
        · cases hu
      have hrun := run_append_new (P := P) (w := w) t ty e i ti.zero ht hi hiz (some ⟨k.b, 0, none⟩) A n cap ys.length c _ (flat cs ys) hnews' holds (by omega) hle' (growslice_fits (by omega) (by rw [hib]; exact hb'))
      obtain ⟨σ', hdoes⟩ := grow' _ cap rfl (by omega) _ _ rfl rfl hfr
      exact ⟨_, _, σ', hrun, hdoes⟩
end Go.Proofs.Ytkjnijddbiconaa.Ev
