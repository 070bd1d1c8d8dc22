/- A region and a loop's head: the evaluator's states stay true. -/
import Derived.Test.YtkjnijddbiconaaEv17
namespace Go.Proofs.Ytkjnijddbiconaa.Ev
open Go
set_option linter.unusedVariables false
set_option linter.unusedSimpArgs false
variable {P : Program} {E : Env} {C : Cx} {σ : Sg} {a : Act} {w : World}

theorem Inv.sl {st : St} (h : Inv C σ st a w) : Slots C.S σ st.tm a := ⟨h.len, h.tm⟩
theorem region_ok (tt : TTOK P E.tt) (he : EqsOK P E) (hm : P.follows .mixedOrders = true) {G : Gk} (hG : HG P G) {id : Nat} {ops : Array Oper} {draw : Bool} {st : St} {k : St → Prop} (h : regionP E G ops.toList draw st k)
    (hi : Inv C σ st a w) {Q : Exit → Act → World → Prop} (hk : ∀ st' σ' a' w', k st' → Inv C σ' ⟨st'.tm, st'.ob, st.nx + 1000000, st.ps⟩ a' w' → Q .normal a' w') : (Code.region id ops draw).wp P Q a w := by
  unfold regionP at h
  split at h
  · rename_i hn
    have hn' : ops.size < 1000 := by
      have := Nat.blt_eq ▸ hn
      simpa using this
    have fin : ∀ (st' : St), k st' → ∀ (X : Nat → Prop) σ' a' w', (∀ i, X i → i < ops.size) → RI C.S σ st.nx C.w0 X (ms st') σ' a' w' → Q .normal a' w' := by
      intro st' hst X σ' a' w' hX hr
      refine hk st' σ' a' w' hst ⟨hr.sl.len, hr.sl.tm, hr.oi, fun o ho => ?_, fun i o hio => ?_, hr.df, hr.tl⟩
      · show o < st.nx + 1000000
        rcases hr.fr o ho with h | ⟨i, h1, h2, h3⟩
        · omega
        · have := hX i h1
          omega
      · obtain ⟨q, h1, h2⟩ := hi.ps i o hio
        exact ⟨q, hr.ext o q h1, h2⟩
    split at h
    · split at h
      · rename_i hpb
        simp only [Bool.and_eq_true] at hpb
        obtain ⟨rs, st', t, hst, hlog, _⟩ := opsP_tr hG _ _ _ _ h
        refine wp_region_any hm (any_ok tt he hpb.1 hpb.2 t (hlog rfl) (fin st' hst) ops.size _ σ a _ (by simp) ?_ (fun q _ hq => ?_) ?_)
        · unfold left
          refine Nat.le_trans (List.countP_le_length) (by simp)
        · simp [Array.getD] at hq
        · have e : (fun i => (Array.replicate ops.size false).getD i false) = fun _ => false := by
            funext i
            simp [Array.getD]
          rw [e, mrg_none]
          refine ⟨hi.sl, ⟨hi.oi.ok, hi.oi.inj, hi.oi.st, hi.oi.sep, hi.oi.tab⟩, hi.df, ⟨hi.tl.os, hi.tl.tape, hi.tl.output, hi.tl.size⟩, fun _ _ h => h, fun o ho => .inl (hi.nx o ho)⟩
      · exact h.elim
    · obtain ⟨rs, st', t, hst, _, _⟩ := opsP_tr hG _ _ _ _ h
      refine wp_region ?_
      rw [List.range_eq_range']
      have := text_ok tt he (fin st' hst) ops.toList 0 [] _ rs σ a w (Nat.zero_le _) rfl t ⟨hi.sl, hi.oi, hi.df, hi.tl, fun _ _ h => h, fun o ho => .inl (hi.nx o ho)⟩
      simpa using this
  · exact h.elim
end Go.Proofs.Ytkjnijddbiconaa.Ev
