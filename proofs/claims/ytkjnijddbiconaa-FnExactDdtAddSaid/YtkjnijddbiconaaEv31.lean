/- Functions that take a row over and hand it back, turned or cut. -/
import Derived.Test.YtkjnijddbiconaaEv30
import Derived.Test.YtkjnijddbiconaaEv26
import Derived.Sort.Grow
namespace Go.Proofs.Ytkjnijddbiconaa.Ev
open Go
set_option linter.unusedVariables false
variable {P : Program}
/-- One block turned, all else as it was. -/
structure Alt (w w' : World) (b : Nat) (cur : Array Value) (e : TypeId) : Prop where
  tl : Tail w w'
  at_ : w'.heap[b]? = some (.cells cur e (0, 0))
  fr : ∀ (b' : Nat) (x : Obj), b' ≠ b → w.heap[b']? = some x → w'.heap[b']? = some x
def oneB (k : Bk) : Sg := fun q => if q = 0 then some k else none
theorem oneB_0 (k : Bk) : oneB k 0 = some k := rfl
theorem oneB_ne {k : Bk} {q : Nat} (h : oneB k q ≠ none) : q < 1 := by
  unfold oneB at h
  by_cases e : q = 0
  · omega
  · rw [if_neg e] at h; exact absurd rfl h
/-- A table of one row. -/
theorem oi_one {S : Sb} {w' : World} {cs : List CK} {ys : List (Elem cs)} {k : Bk} (h1 : ys.length = k.n) (h2 : k.real = false → ys = [])
    (h3 : k.real = true → cs.length = k.m ∧ ∃ cur e, w'.heap[k.b]? = some (.cells cur e (0, 0)) ∧ cur.size = k.sz ∧ cur.toList.take (flat cs ys).length = flat cs ys)
    (hst : ∀ b x, S b = some x → w'.heap[b]? = some x) (hsep : k.real = true → S k.b = none) (ht : TabOK S) : OI S (oneB k) (lookN (number 0 [.row cs ys])) w' := by
  refine ⟨?_, ?_, hst, ?_, ht⟩
  · intro o x ho
    rw [lookN_num] at ho
    have : o = 0 := by
      cases o with
      | zero => rfl
      | succ o => simp at ho
    subst this
    obtain rfl : AO.row cs ys = x := Option.some.inj ho
    exact ⟨k, rfl, And.intro h1 (And.intro h2 h3)⟩
  · intro o o' x x' q q' ho ho' _ _ _ _ _
    rw [lookN_num] at ho ho'
    cases o <;> cases o' <;> simp at ho ho' ⊢
  · intro o x q ho hq hr
    unfold oneB at hq
    split at hq
    · obtain rfl := Option.some.inj hq
      exact hsep hr
    · cases hq
theorem alt_st {S : Sb} {w w' : World} {b : Nat} {cur : Array Value} {e : TypeId} (alt : Alt w w' b cur e) (h : ∀ b x, S b = some x → w.heap[b]? = some x) (hs : S b = none) : ∀ b' x, S b' = some x → w'.heap[b']? = some x := by
  intro b' x hx
  refine alt.fr b' x (fun e => ?_) (h b' x hx)
  subst e
  rw [hs] at hx
  cases hx
/-- A function of the library that takes a row over and gives a row back. -/
theorem ctr_lrow {f : FuncId} {fn : Func} (hf : P.funcs[f]? = some fn) (hb : fn.body.isSome = true) (hn : (fn.name == "runtime.NumGoroutine") = false) {cs : List CK} {xs ys : List (Elem cs)}
    (hreal : ∀ (w : World) (b cap : Nat) (cur : Array Value) (e : TypeId), TabW w → w.heap[b]? = some (.cells cur e (0, 0)) → xs.length ≤ cap → cap * cs.length ≤ cur.size → cur.toList.take (flat cs xs).length = flat cs xs →
      Calls P f #[.slice (some ⟨b, 0, none⟩) xs.length cap] w fun e' w' => ∃ cap' cur', e' = .returned (.slice (some ⟨b, 0, none⟩) ys.length cap') ∧ ys.length ≤ cap' ∧ cap' * cs.length ≤ cur'.size ∧ Alt w w' b cur' e ∧ cur'.toList.take (flat cs ys).length = flat cs ys)
    (hnil : xs = [] → ys = [] ∧ ∀ (w : World) (x : Option Addr), Calls P f #[.slice x 0 0] w fun e' w' => e' = .returned (.slice x 0 0) ∧ Quiet w w') : Ctr P f [.ows 0] [.row cs xs] ⟨.ows 0, [.row cs ys], [none]⟩ := by
  obtain ⟨c, hc⟩ := Option.isSome_iff_exists.1 hb
  intro S π w vs hR oi hπ o a K Q hk
  obtain ⟨v, vs', rfl, hv, h2⟩ := hR.uncons
  have : vs' = [] := List.eq_nil_of_length_eq_zero (by have := h2.1; simpa using this.symm)
  subst this
  rw [run_callFunc hf hc hn]
  show Calls P f #[v] w _
  obtain ⟨k0, hk0, hx, hun, hre⟩ := oi.ok 0 (.row cs xs) rfl
  cases hv with
  | ows _ k cap hk' hr h1 h2 =>
    rw [hk'] at hk0
    obtain rfl := Option.some.inj hk0
    obtain ⟨hm, cur, e, hb', hsz, ht⟩ := hre hr
    have hsep := oi.sep 0 _ k rfl hk' hr
    rw [← hx]
    refine Calls.mono (hreal w k.b cap cur e (oi.tab w oi.st) hb' (by omega) (by rw [hm]; omega) ht) fun e' w' ⟨cap', cur', he, a1, a2, alt, a3⟩ => ?_
    subst he
    refine hk _ w' ⟨oneB ⟨k.b, ys.length, cs.length, cur'.size, true⟩, .ows 0 ⟨k.b, ys.length, cs.length, cur'.size, true⟩ cap' rfl rfl a1 a2, oi_one rfl (fun h => by cases h) (fun _ => ⟨rfl, cur', e, alt.at_, rfl, a3⟩) (alt_st alt oi.st hsep) (fun _ => hsep) oi.tab, alt.tl, fun q hq => oneB_ne hq, fun i q hq => ?_⟩
    cases i with
    | zero => simp at hq
    | succ i => simp at hq
  | ows0 _ k x hk' hr hn' =>
    rw [hk'] at hk0
    obtain rfl := Option.some.inj hk0
    obtain ⟨rfl, hc'⟩ := hnil (hun hr)
    refine Calls.mono (hc' w x) fun e' w' ⟨he, q⟩ => ?_
    subst he
    refine hk _ w' ⟨oneB ⟨0, 0, 0, 0, false⟩, .ows0 0 ⟨0, 0, 0, 0, false⟩ x rfl rfl rfl, oi_one rfl (fun _ => rfl) (fun h => by cases h) (fun b x hb => q.fr b x (oi.st b x hb)) (fun h => by cases h) oi.tab, q.tl, fun q hq => oneB_ne hq, fun i q hq => ?_⟩
    cases i with
    | zero => simp at hq
    | succ i => simp at hq
/-- A function of the library that turns a row in place. -/
theorem ctr_lturn {f : FuncId} {fn : Func} (hf : P.funcs[f]? = some fn) (hb : fn.body.isSome = true) (hn : (fn.name == "runtime.NumGoroutine") = false) {cs : List CK} {xs ys : List (Elem cs)} (hxy : ys.length = xs.length)
    (hreal : ∀ (w : World) (b cap : Nat) (cur : Array Value) (e : TypeId), TabW w → w.heap[b]? = some (.cells cur e (0, 0)) → xs.length ≤ cap → cap * cs.length ≤ cur.size → cur.toList.take (flat cs xs).length = flat cs xs →
      Calls P f #[.slice (some ⟨b, 0, none⟩) xs.length cap] w fun e' w' => ∃ cur', e' = .returned (.tuple #[]) ∧ cur'.size = cur.size ∧ Alt w w' b cur' e ∧ cur'.toList.take (flat cs ys).length = flat cs ys)
    (hnil : xs = [] → ∀ (w : World) (x : Option Addr), Calls P f #[.slice x 0 0] w fun e' w' => e' = .returned (.tuple #[]) ∧ Quiet w w') : Ctr P f [.ows 0] [.row cs xs] ⟨.val (.tuple #[]), [.row cs ys], [some 0]⟩ := by
  obtain ⟨c, hc⟩ := Option.isSome_iff_exists.1 hb
  intro S π w vs hR oi hπ o a K Q hk
  obtain ⟨v, vs', rfl, hv, h2⟩ := hR.uncons
  have : vs' = [] := List.eq_nil_of_length_eq_zero (by have := h2.1; simpa using this.symm)
  subst this
  rw [run_callFunc hf hc hn]
  show Calls P f #[v] w _
  obtain ⟨k0, hk0, hx, hun, hre⟩ := oi.ok 0 (.row cs xs) rfl
  have back : ∀ (k : Bk), π 0 = some k → ∀ (i q : Nat), ([some 0] : List (Option Nat))[i]? = some (some q) → oneB k q = π i := by
    intro k hk i q hq
    cases i with
    | zero => simp at hq; subst hq; exact hk.symm
    | succ i => simp at hq
  cases hv with
  | ows _ k cap hk' hr h1 h2 =>
    rw [hk'] at hk0
    obtain rfl := Option.some.inj hk0
    obtain ⟨hm, cur, e, hb', hsz, ht⟩ := hre hr
    have hsep := oi.sep 0 _ k rfl hk' hr
    rw [← hx]
    refine Calls.mono (hreal w k.b cap cur e (oi.tab w oi.st) hb' (by omega) (by rw [hm]; omega) ht) fun e' w' ⟨cur', he, a1, alt, a3⟩ => ?_
    subst he
    exact hk _ w' ⟨oneB k, .val _, oi_one (by omega) (fun h => by rw [hr] at h; cases h) (fun _ => ⟨hm, cur', e, alt.at_, by omega, a3⟩) (alt_st alt oi.st hsep) (fun _ => hsep) oi.tab, alt.tl, fun q hq => oneB_ne hq, back k hk'⟩
  | ows0 _ k x hk' hr hn' =>
    rw [hk'] at hk0
    obtain rfl := Option.some.inj hk0
    have hx0 := hun hr
    refine Calls.mono (hnil hx0 w x) fun e' w' ⟨he, q⟩ => ?_
    subst he
    have hy : ys = [] := List.eq_nil_of_length_eq_zero (by rw [hxy, hx0]; rfl)
    exact hk _ w' ⟨oneB k, .val _, oi_one (by omega) (fun _ => hy) (fun h => by rw [hr] at h; cases h) (fun b x hb => q.fr b x (oi.st b x hb)) (fun h => by rw [hr] at h; cases h) oi.tab, q.tl, fun q hq => oneB_ne hq, back k hk'⟩
/-- A function of the program that takes memory over and gives one row back, the first so many elements of what it ended with. -/
theorem ctr_take {E : Env} (ok : Ok P E) {G : Gk} (hG : HG P G) {f : FuncId} {fn : Func} (hf : P.funcs[f]? = some fn) (hb : fn.body.isSome = true) (hn : (fn.name == "runtime.NumGoroutine") = false)
    {args : List AV} {obs : List AO} {cs : List CK} {ys : List (Elem cs)} (ho : Nat.ble obs.length start = true)
    (h : ∀ C, bodyP E G (LoopOk P C) fn args obs (fun o => (∃ n zs us, o = some ⟨.osl 0 0 n, [.row cs zs], us⟩ ∧ zs.take n = ys) ∨ ∃ us, o = some ⟨.ows 0, [.row cs ys], us⟩)) : Ctr P f args obs ⟨.ows 0, [.row cs ys], List.replicate obs.length none⟩ := by
  obtain ⟨c, hb⟩ := Option.isSome_iff_exists.1 hb
  have ho : obs.length ≤ start := by simpa using ho
  intro S π w vs hR oi hπ o a K Q hk
  rw [run_callFunc hf hb hn]
  show Calls P f vs.toArray w _
  have hbody := h ⟨S, π, w⟩
  unfold bodyP at hbody
  have hc : codeOf fn = c := by simp [codeOf, hb]
  rw [hc] at hbody
  refine calls_of_wp hf hb (evP_sound (ok.of fn).tt (ok.of fn).eqs (ok.of fn).mixed hG c _ _ π _ w _ hbody ?_ fun e st' σ' a' w' hst hi' => ?_)
  · have hlen := hR.1
    have hRL : RL S π (args ++ List.replicate (fn.ntmps - args.length) (.val undef)) (vs.toArray ++ Array.replicate (fn.ntmps - vs.toArray.size) undef).toList := by
      have hrep : ∀ n, RL S π (List.replicate n (.val undef)) (List.replicate n undef) := by
        intro n
        induction n with
        | zero => exact .nil
        | succ n ih => exact .cons (.val _) ih
      have := hR.append (hrep (fn.ntmps - args.length))
      simpa [hlen] using this
    have sl := slots_iff (a := ⟨vs.toArray ++ Array.replicate (fn.ntmps - vs.toArray.size) undef, []⟩).2 hRL
    refine ⟨sl.len, sl.tm, oi, fun p hp => Nat.lt_of_lt_of_le (hπ p hp) ho, fun i p hp => ?_, rfl, .refl w⟩
    obtain ⟨h1, h2⟩ := handed_at _ _ _ _ hp
    have : p = i := by omega
    subst this
    obtain ⟨k, hk, _⟩ := oi.ok p obs[p] (by rw [lookN_num]; simp [h2])
    exact ⟨k, hk, hk⟩
  · have outs : ∀ (τ : Sg) (i q : Nat), (List.replicate obs.length (none : Option Nat))[i]? = some (some q) → τ q = π i := by
      intro τ i q hq
      rw [List.getElem?_replicate] at hq
      split at hq
      · cases hq
      · cases hq
    have fin : ∀ (hst : (∃ n zs us, finish (E.of fn) fn.results.toList st' = some ⟨.osl 0 0 n, [.row cs zs], us⟩ ∧ zs.take n = ys) ∨ ∃ us, finish (E.of fn) fn.results.toList st' = some ⟨.ows 0, [.row cs ys], us⟩), a'.defers = [] ∧ ∃ v, (results fn a'.tmps).run P w' = .ok v w' ∧ K (a.put o.dst v) w' := by
      intro hst
      rcases hst with ⟨n, zs, us, hst, hzs⟩ | ⟨us, hst⟩
      · obtain ⟨x, h1, σ2, h2, h3, h4, h5⟩ := finish_ok (P := P) (ok.of fn).tt hi' hst
        obtain ⟨k0, hk0, hx, hun, hre⟩ := h3.ok 0 (.row cs zs) rfl
        have h2 : R S σ2 (.osl 0 0 n) x := h2
        generalize hz : (0 : Nat) = z at h2
        cases h2 with
        | osl _ _ _ k cap hk' hr g0 g1 g2 =>
          subst hz
          rw [hk'] at hk0
          obtain rfl := Option.some.inj hk0
          obtain ⟨hm, cur, e, hb', hsz, ht⟩ := hre hr
          have hsep := h3.sep 0 _ k rfl hk' hr
          have hyl : ys.length = n := by rw [← hzs, List.length_take]; omega
          refine ⟨hi'.df, _, h1, hk _ w' ⟨oneB ⟨k.b, n, k.m, k.sz, true⟩, ?_, oi_one hyl (fun h => by cases h) (fun _ => ⟨hm, cur, e, hb', hsz, ?_⟩) h3.st (fun _ => hsep) h3.tab, hi'.tl, fun q hq => oneB_ne hq, outs _⟩⟩
          · have := R.ows (S := S) (σ := oneB ⟨k.b, n, k.m, k.sz, true⟩) 0 ⟨k.b, n, k.m, k.sz, true⟩ cap rfl rfl g1 (by simpa using g2)
            simpa using this
          · have e1 : flat cs ys = (flat cs zs).take (n * cs.length) := by rw [← hzs, flat_take]
            have e2 : (flat cs ys).length ≤ (flat cs zs).length := by rw [e1, List.length_take]; omega
            have e3 : cur.toList.take (flat cs ys).length = (cur.toList.take (flat cs zs).length).take (flat cs ys).length := by rw [List.take_take, Nat.min_eq_left e2]
            rw [e3, ht, flat_length, hyl, ← e1]
        | osl0 _ _ k y hk' g0 =>
          have hy : ys = [] := by rw [← hzs]; rfl
          subst hy
          exact ⟨hi'.df, _, h1, hk _ w' ⟨oneB ⟨0, 0, 0, 0, false⟩, .ows0 0 ⟨0, 0, 0, 0, false⟩ y rfl rfl rfl, oi_one rfl (fun _ => rfl) (fun h => by cases h) h3.st (fun h => by cases h) h3.tab, hi'.tl, fun q hq => oneB_ne hq, outs _⟩⟩
      · obtain ⟨x, h1, σ2, h2, h3, h4, h5⟩ := finish_ok (P := P) (ok.of fn).tt hi' hst
        exact ⟨hi'.df, x, h1, hk x w' ⟨σ2, h2, h3, hi'.tl, h4, outs _⟩⟩
    cases e with
    | normal => exact fin hst
    | ret => exact fin hst
    | exit n => exact hst.elim
end Go.Proofs.Ytkjnijddbiconaa.Ev
