/- A function that takes memory over and gives none of it back. -/
import Derived.Test.YtkjnijddbiconaaGreatDoorEvB
import Derived.Test.YtkjnijddbiconaaGreatDoorEvC
import Derived.Sort.Grow
import Derived.Lib.SlicesCompact
import Derived.LoopN
namespace Go.Proofs.YtkjnijddbiconaaGreatDoor.Ev
open Go
set_option linter.unusedVariables false
variable {P:Program}
end Go.Proofs.YtkjnijddbiconaaGreatDoor.Ev

namespace Go.Proofs.YtkjnijddbiconaaGreatDoor.Ev
open Go
set_option linter.unusedVariables false
variable {P:Program}
structure Alt (w w':World) (b:Nat) (cur:Array Value) (e:TypeId):Prop where
  tl:Tail w w'
  at_:w'.heap[b]? = some (.cells cur e (0,0))
  fr : ∀ (b':Nat) (x:Obj),b'≠b→w.heap[b']? = some x→w'.heap[b']? = some x
end Go.Proofs.YtkjnijddbiconaaGreatDoor.Ev

namespace Go.Proofs.YtkjnijddbiconaaGreatDoor.Ev
open Go
set_option linter.unusedVariables false
section
variable {α:Type} (lt:α→α→Bool)
end
end Go.Proofs.YtkjnijddbiconaaGreatDoor.Ev

namespace Go.Proofs.YtkjnijddbiconaaGreatDoor.Ev
open Go
set_option linter.unusedVariables false
end Go.Proofs.YtkjnijddbiconaaGreatDoor.Ev

namespace Go.Proofs.YtkjnijddbiconaaGreatDoor.Ev
open Go
set_option linter.unusedVariables false
variable {P:Program}
def RunOk(P:Program)(C:Cx)(c:Code)(st:St)(k:Kt):Prop :=
  ∀ (σ:Sg) (a:Act) (w:World) (Q:Exit→Act→World→Prop),Inv C σ st a w→(∀ (e:Ex) st' σ' a' w',k e st'→Inv C σ' st' a' w'→Q e.to a' w')→c.wp P Q a w
theorem run_of{E:Env}(ok:Ok P E){G:Gk}(hG:HG P G){C:Cx}{c:Code}{st:St}{k:Kt}(h:evP E G (LoopOk P C) c st k):RunOk P C c st k :=
  fun σ a w Q hi hk=>evP_sound ok.tt ok.eqs ok.mixed hG c st k σ a w Q h hi hk
theorem run_cut{E:Env}(ok:Ok P E){G:Gk}(hG:HG P G){C:Cx}{x y:Code}(ts:List Tmp){st:St}{k:Kt}(h:evP E G (LoopOk P C) x st (rk ts (fun st'=>RunOk P C y st' k) k)):RunOk P C (x.seq y) st k:=by
  intro σ a w Q hi hk
  refine wp_seq (evP_sound ok.tt ok.eqs ok.mixed hG x st _ σ a w _ h hi fun e st' σ' a' w' hst hi' => ?_)
  cases e with
  | normal =>
    have hst:atHead (fun st'=>RunOk P C y st' k) (head ts st'):=hst
    unfold atHead at hst
    split at hst
    · rename_i st2 h2
      obtain ⟨σ2,hi2⟩:=head_ok h2 hi'
      exact hst σ2 a' w' Q hi2 hk
    · exact hst.elim
  | exit n=>exact hk (.exit n) st' σ' a' w' hst hi'
  | ret=>exact hk .ret st' σ' a' w' hst hi'
theorem ctr_run{E : Env}(ok : Ok P E){f : FuncId}{fn : Func}(hf : P.funcs[f]? = some fn)(hb : fn.body.isSome = true)(hn : (fn.name == "runtime.NumGoroutine") = false)
    {args:List AV} {obs:List AO} {r:Res} (ho:Nat.ble obs.length start=true) (h : ∀ C,RunOk P C (codeOf fn) (initSt fn.ntmps args obs) (endK (E.of fn) fn.results.toList (fun o=>o=some r))):Ctr P f args obs r:=by
  obtain ⟨c,hb⟩:=Option.isSome_iff_exists.1 hb
  have ho:obs.length≤start:=by simpa using ho
  intro S π w vs hR oi hπ o a K Q hk
  rw [run_callFunc hf hb hn]
  show Calls P f vs.toArray w _
  have hbody:=h ⟨S,π,w⟩
  have hc:codeOf fn=c:=by simp [codeOf,hb]
  rw [hc] at hbody
  refine calls_of_wp hf hb (hbody π _ w _ ?_ fun e st' σ' a' w' hst hi' => ?_)
  · have hlen:=hR.1
    have hRL:RL S π (args++List.replicate (fn.ntmps - args.length) (.val undef)) (vs.toArray++Array.replicate (fn.ntmps - vs.toArray.size) undef).toList:=by
      have hrep : ∀ n,RL S π (List.replicate n (.val undef)) (List.replicate n undef):=by
        intro n
        induction n with
        | zero=>exact .nil
        | succ n ih=>exact .cons (.val _) ih
      have:=hR.append (hrep (fn.ntmps - args.length))
      simpa [hlen] using this
    have sl:=slots_iff (a:=⟨vs.toArray++Array.replicate (fn.ntmps - vs.toArray.size) undef,[]⟩).2 hRL
    refine ⟨sl.len,sl.tm,oi,fun p hp=>Nat.lt_of_lt_of_le (hπ p hp) ho,fun i p hp => ?_,rfl,.refl w⟩
    obtain ⟨h1,h2⟩:=handed_at _ _ _ _ hp
    have:p=i:=by omega
    subst this
    obtain ⟨k,hk,_⟩:=oi.ok p obs[p] (by rw [lookN_num]; simp [h2])
    exact ⟨k,hk,hk⟩
  · have fin : ∀ (hst:finish (E.of fn) fn.results.toList st'=some r),a'.defers = [] ∧ ∃ v,(results fn a'.tmps).run P w' = .ok v w'∧K (a.put o.dst v) w':=by
      intro hst
      obtain ⟨x,h1,σ2,h2,h3,h4,h5⟩:=finish_ok (P:=P) (ok.of fn).tt hi' hst
      exact ⟨hi'.df,x,h1,hk x w' ⟨σ2,h2,h3,hi'.tl,h4,h5⟩⟩
    cases e with
    | normal=>exact fin hst
    | ret=>exact fin hst
    | exit n=>exact hst.elim
end Go.Proofs.YtkjnijddbiconaaGreatDoor.Ev

namespace Go.Proofs.YtkjnijddbiconaaGreatDoor.Ev
open Go
set_option linter.unusedVariables false
variable {P:Program}
def Wk(o:Option Res)(r:Res):Prop := ∃ r0,o=some r0∧r0.obs=r.obs∧r0.outs=r.outs ∧ ∀ (S:Sb) (σ:Sg) (v:Value),R S σ r0.av v→R S σ r.av v
theorem wk_rfl(r:Res):Wk (some r) r:=⟨r,rfl,rfl,rfl,fun _ _ _ h=>h⟩
theorem ctr_wk{E : Env}(ok : Ok P E){G : Gk}(hG : HG P G){f : FuncId}{fn : Func}(hf : P.funcs[f]? = some fn)(hb : fn.body.isSome = true)(hn : (fn.name == "runtime.NumGoroutine") = false)
    {args:List AV} {obs:List AO} {r:Res} (ho:Nat.ble obs.length start=true) (h : ∀ C,bodyP E G (LoopOk P C) fn args obs (fun o=>Wk o r)):Ctr P f args obs r:=by
  obtain ⟨c,hb⟩:=Option.isSome_iff_exists.1 hb
  have ho:obs.length≤start:=by simpa using ho
  intro S π w vs hR oi hπ o a K Q hk
  rw [run_callFunc hf hb hn]
  show Calls P f vs.toArray w _
  have hbody:=h ⟨S,π,w⟩
  unfold bodyP at hbody
  have hc:codeOf fn=c:=by simp [codeOf,hb]
  rw [hc] at hbody
  refine calls_of_wp hf hb (evP_sound (ok.of fn).tt (ok.of fn).eqs (ok.of fn).mixed hG c _ _ π _ w _ hbody ?_ fun e st' σ' a' w' hst hi' => ?_)
  · have hlen:=hR.1
    have hRL:RL S π (args++List.replicate (fn.ntmps - args.length) (.val undef)) (vs.toArray++Array.replicate (fn.ntmps - vs.toArray.size) undef).toList:=by
      have hrep : ∀ n,RL S π (List.replicate n (.val undef)) (List.replicate n undef):=by
        intro n
        induction n with
        | zero=>exact .nil
        | succ n ih=>exact .cons (.val _) ih
      have:=hR.append (hrep (fn.ntmps - args.length))
      simpa [hlen] using this
    have sl:=slots_iff (a:=⟨vs.toArray++Array.replicate (fn.ntmps - vs.toArray.size) undef,[]⟩).2 hRL
    refine ⟨sl.len,sl.tm,oi,fun p hp=>Nat.lt_of_lt_of_le (hπ p hp) ho,fun i p hp => ?_,rfl,.refl w⟩
    obtain ⟨h1,h2⟩:=handed_at _ _ _ _ hp
    have:p=i:=by omega
    subst this
    obtain ⟨k,hk,_⟩:=oi.ok p obs[p] (by rw [lookN_num]; simp [h2])
    exact ⟨k,hk,hk⟩
  · have fin : ∀ (hst:Wk (finish (E.of fn) fn.results.toList st') r),a'.defers = [] ∧ ∃ v,(results fn a'.tmps).run P w' = .ok v w'∧K (a.put o.dst v) w':=by
      rintro ⟨r0,hst,e1,e2,e3⟩
      obtain ⟨x,h1,σ2,h2,h3,h4,h5⟩:=finish_ok (P:=P) (ok.of fn).tt hi' hst
      exact ⟨hi'.df,x,h1,hk x w' ⟨σ2,e3 _ _ _ h2,by rw [← e1]; exact h3,hi'.tl,by rw [← e1]; exact h4,by rw [← e2]; exact h5⟩⟩
    cases e with
    | normal=>exact fin hst
    | ret=>exact fin hst
    | exit n=>exact hst.elim
def Rn(P:Program)(C:Cx)(c:Code)(ts:List Tmp)(k:Kt):Nat→St→Prop
  | 0,_=>False
  | n+1,st=>RunOk P C c st (rk ts (Rn P C c ts k n) k)
theorem loop_of_rn{C:Cx}{c:Code}{ts:List Tmp}{k:Kt}{n:Nat}{st:St}(h:Rn P C c ts k n st):LoopOk P C c st k:=by
  intro σ a w Q hi hk
  refine wp_loop_rounds n ?_
  induction n generalizing st σ a w with
  | zero=>exact h.elim
  | succ n ih =>
    refine h σ a w (Exit.then (Code.rounds P c Q n) Q) hi fun e st' σ' a' w' hst hi' => ?_
    cases e with
    | normal =>
      have hst:atHead (Rn P C c ts k n) (head ts st'):=hst
      unfold atHead at hst
      split at hst
      · rename_i st2 h2
        obtain ⟨σ2,hi2⟩:=head_ok h2 hi'
        exact ih hst σ2 a' w' hi2
      · exact hst.elim
    | exit m=>exact hk (.exit m) st' σ' a' w' hst hi'
    | ret=>exact hk .ret st' σ' a' w' hst hi'
def Got{α:Type}(Q:α→Prop)(T:Cx→α→Prop):Prop := ∃ x,Q x ∧ ∀ C,T C x
section
variable {α:Type} {Q:α→Prop} {T T':Cx→α→Prop} {b:Bool} {p:Prop} [Decidable p]
theorem ex_intro(h1:b=true→Got Q T)(h2:b=false→Got Q T'):Got Q (fun C x=>br b (T C x) (T' C x)):=by
  cases b
  · obtain ⟨x,hx,h⟩:=h2 rfl
    exact ⟨x,hx,h⟩
  · obtain ⟨x,hx,h⟩:=h1 rfl
    exact ⟨x,hx,h⟩
theorem ex_t(h:b=true)(h1:Got Q T):Got Q (fun C x=>br b (T C x) (T' C x)):=ex_intro (fun _=>h1) (fun h2=>by rw [h] at h2; cases h2)
theorem ex_f(h:b=false)(h1:Got Q T'):Got Q (fun C x=>br b (T C x) (T' C x)):=ex_intro (fun h2=>by rw [h] at h2; cases h2) (fun _=>h1)
theorem ex_dec(h1:p→Got Q T)(h2 : ¬ p→Got Q T'):Got Q (fun C x=>br (decide p) (T C x) (T' C x)):=ex_intro (fun h=>h1 (of_decide_eq_true h)) (fun h=>h2 (of_decide_eq_false h))
theorem ex_yes(h:p)(h1:Got Q T):Got Q (fun C x=>br (decide p) (T C x) (T' C x)):=ex_t (decide_eq_true h) h1
theorem ex_no(h : ¬ p)(h1:Got Q T'):Got Q (fun C x=>br (decide p) (T C x) (T' C x)):=ex_f (decide_eq_false h) h1
theorem ex_not(h1:b=false→Got Q T)(h2:b=true→Got Q T'):Got Q (fun C x=>br (!b) (T C x) (T' C x)):=ex_intro (fun h=>h1 (by cases b<;>simp_all)) (fun h=>h2 (by cases b<;>simp_all))
theorem ex_end{x:α}(hx:Q x)(h : ∀ C,T C x):Got Q T:=⟨x,hx,h⟩
end
theorem ex_loop{α ι:Type}{Q:α→Prop}{E:Env}(ok:Ok P E){G:Gk}(hG:HG P G)(ST:ι→St)(μ:ι→Nat)(I:ι→Prop){c:Code}{k:Cx→α→Kt}
    (body : ∀ y,I y→(∀ y',I y'→μ y' < μ y→Got (fun p:α × Nat=>Q p.1) (fun C p=>Rn P C c (jof E c) (k C p.1) p.2 (ST y'))) →
      Got (fun p:α × Nat=>Q p.1) (fun C p=>evP E G (LoopOk P C) c (ST y) (rk (jof E c) (Rn P C c (jof E c) (k C p.1) p.2) (k C p.1)))) (y:ι) (hy:I y):Got Q (fun C x=>LoopOk P C c (ST y) (k C x)):=by
  have key : ∀ (n:Nat) (y:ι),μ y≤n→I y→Got (fun p:α × Nat=>Q p.1) (fun C p=>Rn P C c (jof E c) (k C p.1) p.2 (ST y)):=by
    intro n
    induction n with
    | zero =>
      intro y hn hy
      obtain ⟨⟨x,m⟩,hx,h⟩:=body y hy (fun y' _ hlt=>by omega)
      exact ⟨(x,m+1),hx,fun C=>run_of ok hG (h C)⟩
    | succ n ih =>
      intro y hn hy
      obtain ⟨⟨x,m⟩,hx,h⟩:=body y hy (fun y' hy' hlt=>ih y' (by omega) hy')
      exact ⟨(x,m+1),hx,fun C=>run_of ok hG (h C)⟩
  obtain ⟨⟨x,m⟩,hx,h⟩:=key (μ y) y (Nat.le_refl _) hy
  exact ⟨x,hx,fun C=>loop_of_rn (h C)⟩
theorem ex_ctr{α : Type}{Q : α → Prop}{form : α → Res}{E : Env}(ok : Ok P E){G : Gk}(hG : HG P G){f : FuncId}{fn : Func}(hf : P.funcs[f]? = some fn)(hb : fn.body.isSome = true)(hn : (fn.name == "runtime.NumGoroutine") = false)
    {args:List AV} {obs:List AO} (ho:Nat.ble obs.length start=true) (h:Got Q (fun C x=>bodyP E G (LoopOk P C) fn args obs (fun o=>Wk o (form x)))) : ∃ x,Q x∧Ctr P f args obs (form x):=by
  obtain ⟨x,hx,h⟩:=h
  exact ⟨x,hx,ctr_wk ok hG hf hb hn ho h⟩
open Classical in
noncomputable def pick{α:Type}[Inhabited α](Q:α→Prop):α:=if h : ∃ x,Q x then Classical.choose h else default
theorem pick_ok{α:Type}[Inhabited α]{Q:α→Prop}(h : ∃ x,Q x):Q (pick Q):=by
  unfold pick
  rw [dif_pos h]
  exact Classical.choose_spec h
end Go.Proofs.YtkjnijddbiconaaGreatDoor.Ev

namespace Go.Proofs.YtkjnijddbiconaaGreatDoor.Ev
open Go
set_option linter.unusedVariables false
variable {P:Program}
def junkS(J:List Nat)(rs:List ResultVar):List Tmp:=J.filterMap fun j=>match (rs[j]? : Option ResultVar) with
  | some (.tmp t)=>some t
  | _=>none
def junkC(tm:List AV)(J:List Nat)(rs:List ResultVar):List Nat:=J.filterMap fun j=>match (rs[j]? : Option ResultVar) with
  | some (.cell a _)=>(match getT tm a with | .ptr o _=>some o | _=>none)
  | _=>none
def unk(u:AV):AV:=match one u with
  | true => .cel
  | false => .junk
theorem unk_R{S:Sb}{σ σ':Sg}{u:AV}{v:Value}(h:R S σ u v):R S σ' (unk u) v:=by
  unfold unk
  split
  · rename_i ho; exact .cel v (one_cell ho h)
  · exact .junk v
def junkA:AO→AO
  | .box us => .box (us.map unk)
  | x=>x
def junkOb(os:List Nat):List (Nat × AO)→List (Nat × AO)
  | [] => []
  | (k,x) :: r=>(k,if os.any (Nat.beq k) then junkA x else x) :: junkOb os r
def finF(E:Env)(rs:List ResultVar)(J:List Nat)(st:St):Option Res:=match finish E rs st with
  | some r=>some r
  | none=>finish E rs ⟨junkT st.tm (junkS J rs),junkOb (junkC st.tm J rs) st.ob,st.nx,st.ps⟩
def endF(E:Env)(rs:List ResultVar)(J:List Nat)(R:Option Res→Prop):Kt:=fun e st =>
  match e with
  | .normal=>R (finF E rs J st)
  | .ret=>R (finF E rs J st)
  | .exit _=>False
def bodyF(E:Env)(G:Gk)(L:Lp)(fn:Func)(J:List Nat)(args:List AV)(obs:List AO)(R:Option Res→Prop):Prop :=
  evP (E.of fn) G L (codeOf fn) (initSt fn.ntmps args obs) (endF (E.of fn) fn.results.toList J R)
theorem lookN_junkOb(os:List Nat) : ∀ (ob:List (Nat × AO)) (o:Nat),lookN (junkOb os ob) o=(lookN ob o).map fun x=>if os.any (Nat.beq o) then junkA x else x
  | [],_=>rfl
  | (k,x) :: r,o=>by
    simp only [junkOb,lookN]
    cases h:Nat.beq k o
    · simpa using lookN_junkOb os r o
    · obtain rfl:=Nat.eq_of_beq_eq_true h
      simp
theorem OI_junkOb{S:Sb}{σ:Sg}{ob:List (Nat × AO)}{w:World}(os:List Nat)(oi:OI S σ (lookN ob) w):OI S σ (lookN (junkOb os ob)) w:=by
  have up : ∀ o x,lookN (junkOb os ob) o=some x → ∃ y,lookN ob o=some y∧(x=y∨x=junkA y):=by
    intro o x h
    rw [lookN_junkOb] at h
    obtain ⟨y,hy,h2⟩:=Option.map_eq_some_iff.1 h
    refine ⟨y,hy,?_⟩
    split at h2
    · exact .inr h2.symm
    · exact .inl h2.symm
  refine ⟨fun o x h => ?_,fun o o' x x' k k' h h' => ?_,oi.st,fun o x k h => ?_,oi.tab⟩
  · obtain ⟨y,hy,e⟩:=up o x h
    obtain ⟨k,hk,hok⟩:=oi.ok o y hy
    refine ⟨k,hk,?_⟩
    rcases e with rfl | rfl
    · exact hok
    · cases y with
      | row cs xs=>exact hok
      | box us =>
        obtain ⟨h1,cur,e,h2,h3⟩:=hok
        exact ⟨h1,cur,e,h2,by simpa using h3.1,fun j u v hu hv=>by
          rw [List.getElem?_map] at hu
          obtain ⟨y,hy,rfl⟩:=Option.map_eq_some_iff.1 hu
          exact unk_R (h3.2 j y v hy hv)⟩
  · obtain ⟨y,hy,_⟩:=up o x h
    obtain ⟨y',hy',_⟩:=up o' x' h'
    exact oi.inj o o' y y' k k' hy hy'
  · obtain ⟨y,hy,_⟩:=up o x h
    exact oi.sep o y k hy
def Wd(o:Option Res)(r:Res):Prop:=Wk o r ∨ ∃ r0,o=some r0∧r.obs = []∧r.outs = [] ∧ ∀ (S:Sb) (σ:Sg) (v:Value),R S σ r0.av v→R S (fun _=>none) r.av v
theorem wd_rfl(r:Res):Wd (some r) r := .inl (wk_rfl r)
theorem wd_drop{a a':AV}{obs:List AO}{outs:List (Option Nat)}(h : ∀ (S:Sb) (σ:Sg) (v:Value),R S σ a v→R S (fun _=>none) a' v):Wd (some ⟨a,obs,outs⟩) ⟨a',[],[]⟩ := .inr ⟨_,rfl,rfl,rfl,h⟩
theorem agg_cel{S:Sb}{σ σ':Sg}{us:List AV}{n:Nat}(hn:us.length=n)(ho:allOne us=true)(v:Value)(h:R S σ (.agg us) v):R S σ' (.agg (List.replicate n .cel)) v:=by
  cases h with
  | agg _ vs hl hh =>
    refine .agg _ vs (by simp [← hn,hl]) fun j u v hu hv => ?_
    rw [List.getElem?_replicate] at hu
    split at hu
    · obtain rfl:=Option.some.inj hu
      exact .cel v (allOne_cells ho ⟨hl,hh⟩ v (List.mem_of_getElem? hv))
    · cases hu
theorem tup3_drop{S:Sb}{σ σ':Sg}{a b c a' b' c':AV}(ha : ∀ v,R S σ a v→R S σ' a' v)(hb : ∀ v,R S σ b v→R S σ' b' v)(hc : ∀ v,R S σ c v→R S σ' c' v)(v:Value)(h:R S σ (.tup [a,b,c]) v):R S σ' (.tup [a',b',c']) v:=by
  cases h with
  | tup us vs hl hh =>
    refine .tup _ vs (by simpa using hl) fun j u v hu hv => ?_
    match j with
    | 0=>simp at hu; subst hu; exact ha v (hh 0 a v (by simp) hv)
    | 1=>simp at hu; subst hu; exact hb v (hh 1 b v (by simp) hv)
    | 2=>simp at hu; subst hu; exact hc v (hh 2 c v (by simp) hv)
    | j+3=>simp at hu
theorem val_drop{S:Sb}{σ σ':Sg}{x:Value}(v:Value)(h:R S σ (.val x) v):R S σ' (.val x) v:=by
  cases h; exact .val _
theorem ctr_wkF{E : Env}(ok : Ok P E){G : Gk}(hG : HG P G){f : FuncId}{fn : Func}(hf : P.funcs[f]? = some fn)(hb : fn.body.isSome = true)(hn : (fn.name == "runtime.NumGoroutine") = false)
    {args:List AV} {obs:List AO} {r:Res} (ho:Nat.ble obs.length start=true) (J:List Nat) (h : ∀ C,bodyF E G (LoopOk P C) fn J args obs (fun o=>Wd o r)):Ctr P f args obs r:=by
  obtain ⟨c,hb⟩:=Option.isSome_iff_exists.1 hb
  have ho:obs.length≤start:=by simpa using ho
  intro S π w vs hR oi hπ o a K Q hk
  rw [run_callFunc hf hb hn]
  show Calls P f vs.toArray w _
  have hbody:=h ⟨S,π,w⟩
  unfold bodyF at hbody
  have hc:codeOf fn=c:=by simp [codeOf,hb]
  rw [hc] at hbody
  refine calls_of_wp hf hb (evP_sound (ok.of fn).tt (ok.of fn).eqs (ok.of fn).mixed hG c _ _ π _ w _ hbody ?_ fun e st' σ' a' w' hst hi' => ?_)
  · have hlen:=hR.1
    have hRL:RL S π (args++List.replicate (fn.ntmps - args.length) (.val undef)) (vs.toArray++Array.replicate (fn.ntmps - vs.toArray.size) undef).toList:=by
      have hrep : ∀ n,RL S π (List.replicate n (.val undef)) (List.replicate n undef):=by
        intro n
        induction n with
        | zero=>exact .nil
        | succ n ih=>exact .cons (.val _) ih
      have:=hR.append (hrep (fn.ntmps - args.length))
      simpa [hlen] using this
    have sl:=slots_iff (a:=⟨vs.toArray++Array.replicate (fn.ntmps - vs.toArray.size) undef,[]⟩).2 hRL
    refine ⟨sl.len,sl.tm,oi,fun p hp=>Nat.lt_of_lt_of_le (hπ p hp) ho,fun i p hp => ?_,rfl,.refl w⟩
    obtain ⟨h1,h2⟩:=handed_at _ _ _ _ hp
    have:p=i:=by omega
    subst this
    obtain ⟨k,hk,_⟩:=oi.ok p obs[p] (by rw [lookN_num]; simp [h2])
    exact ⟨k,hk,hk⟩
  · have fin : ∀ (hst:Wd (finF (E.of fn) fn.results.toList J st') r),a'.defers = [] ∧ ∃ v,(results fn a'.tmps).run P w' = .ok v w'∧K (a.put o.dst v) w':=by
      have go : ∀ st2,Inv ⟨S,π,w⟩ σ' st2 a' w'→Wd (finish (E.of fn) fn.results.toList st2) r→a'.defers = [] ∧ ∃ v,(results fn a'.tmps).run P w' = .ok v w'∧K (a.put o.dst v) w':=by
        intro st2 hi2 hst
        rcases hst with ⟨r0,hst,e1,e2,e3⟩ | ⟨r0,hst,e1,e2,e3⟩
        · obtain ⟨x,h1,σ2,h2,h3,h4,h5⟩:=finish_ok (P:=P) (ok.of fn).tt hi2 hst
          exact ⟨hi2.df,x,h1,hk x w' ⟨σ2,e3 _ _ _ h2,by rw [← e1]; exact h3,hi2.tl,by rw [← e1]; exact h4,by rw [← e2]; exact h5⟩⟩
        · obtain ⟨x,h1,σ2,h2,h3,h4,h5⟩:=finish_ok (P:=P) (ok.of fn).tt hi2 hst
          refine ⟨hi2.df,x,h1,hk x w' ⟨fun _=>none,e3 _ _ _ h2,?_,hi2.tl,fun q hq=>absurd rfl hq,fun i q hq => ?_⟩⟩
          · rw [e1]
            exact ⟨fun o x h=>by simp [number,lookN] at h,fun o o' x x' k k' h=>by simp [number,lookN] at h,h3.st,fun o x k h=>by simp [number,lookN] at h,h3.tab⟩
          · rw [e2] at hq; simp at hq
      intro hst
      unfold finF at hst
      split at hst
      · rename_i r1 h1
        exact go st' hi' (by rw [h1]; exact hst)
      · refine go _ ?_ hst
        have sl:=slots_iff.2 (junkT_RL (junkS J fn.results.toList) _ _ (slots_iff.1 hi'.sl))
        exact ⟨sl.len,sl.tm,OI_junkOb _ hi'.oi,hi'.nx,hi'.ps,hi'.df,hi'.tl⟩
    cases e with
    | normal=>exact fin hst
    | ret=>exact fin hst
    | exit n=>exact hst.elim
theorem ex_ctrF{α : Type}{Q : α → Prop}{form : α → Res}{E : Env}(ok : Ok P E){G : Gk}(hG : HG P G){f : FuncId}{fn : Func}(hf : P.funcs[f]? = some fn)(hb : fn.body.isSome = true)(hn : (fn.name == "runtime.NumGoroutine") = false)
    {args:List AV} {obs:List AO} (ho:Nat.ble obs.length start=true) (J:List Nat) (h:Got Q (fun C x=>bodyF E G (LoopOk P C) fn J args obs (fun o=>Wd o (form x)))) : ∃ x,Q x∧Ctr P f args obs (form x):=by
  obtain ⟨x,hx,h⟩:=h
  exact ⟨x,hx,ctr_wkF ok hG hf hb hn ho J h⟩
end Go.Proofs.YtkjnijddbiconaaGreatDoor.Ev

namespace Go.Proofs.YtkjnijddbiconaaGreatDoor.Ev
open Go
set_option linter.unusedVariables false
variable {P:Program}
def Fin0(P:Program)(C:Cx)(fn:Func)(r:Res)(a:Act)(w:World):Prop :=
  a.defers = [] ∧ ∃ v,(results fn a.tmps).run P w = .ok v w ∧ ∃ σ',R C.S σ' r.av v∧OI C.S σ' (lookN (number 0 r.obs)) w∧Tail C.w0 w∧(∀ q,σ' q≠none→q < r.obs.length) ∧ ∀ (i q:Nat),r.outs[i]? = some (some q)→σ' q=C.π i
def FinQ(P:Program)(C:Cx)(fn:Func)(r:Res):Exit→Act→World→Prop:=fun e a w=>match e with
  | .normal=>Fin0 P C fn r a w
  | .ret=>Fin0 P C fn r a w
  | _=>False
def RunTo(P:Program)(C:Cx)(c:Code)(fn:Func)(r:Res)(st:St):Prop :=
  ∀ (σ:Sg) (a:Act) (w:World),Inv C σ st a w→c.wp P (FinQ P C fn r) a w
theorem fin_of{E:Env}(tt:TTOK P E.tt){C:Cx}{fn:Func}{J:List Nat}{r:Res}{st:St}{σ:Sg}{a:Act}{w:World}(hi:Inv C σ st a w)(hst:Wd (finF E fn.results.toList J st) r):Fin0 P C fn r a w:=by
  have go : ∀ st2,Inv C σ st2 a w→Wd (finish E fn.results.toList st2) r→Fin0 P C fn r a w:=by
    intro st2 hi2 hst
    rcases hst with ⟨r0,hst,e1,e2,e3⟩ | ⟨r0,hst,e1,e2,e3⟩
    · obtain ⟨x,h1,σ2,h2,h3,h4,h5⟩:=finish_ok (P:=P) tt hi2 hst
      exact ⟨hi2.df,x,h1,σ2,e3 _ _ _ h2,by rw [← e1]; exact h3,hi2.tl,by rw [← e1]; exact h4,by rw [← e2]; exact h5⟩
    · obtain ⟨x,h1,σ2,h2,h3,h4,h5⟩:=finish_ok (P:=P) tt hi2 hst
      refine ⟨hi2.df,x,h1,fun _=>none,e3 _ _ _ h2,?_,hi2.tl,fun q hq=>absurd rfl hq,fun i q hq => ?_⟩
      · rw [e1]
        exact ⟨fun o x h=>by simp [number,lookN] at h,fun o o' x x' k k' h=>by simp [number,lookN] at h,h3.st,fun o x k h=>by simp [number,lookN] at h,h3.tab⟩
      · rw [e2] at hq; simp at hq
  unfold finF at hst
  split at hst
  · rename_i r1 h1
    exact go st hi (by rw [h1]; exact hst)
  · refine go _ ?_ hst
    have sl:=slots_iff.2 (junkT_RL (junkS J fn.results.toList) _ _ (slots_iff.1 hi.sl))
    exact ⟨sl.len,sl.tm,OI_junkOb _ hi.oi,hi.nx,hi.ps,hi.df,hi.tl⟩
theorem runTo_end{E:Env}(ok:Ok P E){G:Gk}(hG:HG P G){C:Cx}{c:Code}{st:St}{fn:Func}{J:List Nat}{r:Res}(h:evP E G (LoopOk P C) c st (endF E fn.results.toList J (fun o=>Wd o r))):RunTo P C c fn r st:=by
  intro σ a w hi
  refine evP_sound ok.tt ok.eqs ok.mixed hG c st _ σ a w _ h hi fun e st' σ' a' w' hst hi' => ?_
  cases e with
  | normal=>exact fin_of ok.tt hi' hst
  | ret=>exact fin_of ok.tt hi' hst
  | exit n=>exact hst.elim
def preC:Nat→Code→Code
  | 0,c=>c
  | 1,c=>(match c with | .seq a _=>a | c=>c)
  | n+2,c=>(match c with | .seq a b => .seq a (preC (n+1) b) | c=>c)
def sndC:Code→Code
  | .seq _ b=>b
  | c=>c
def afterC:Nat→Code→Code
  | 0,c=>c
  | n+1,c=>afterC n (sndC c)
def seqs:Nat→Code→Bool
  | 0,_=>true
  | n+1,.seq _ b=>seqs n b
  | _,_=>false
theorem run_pre{E:Env}(ok:Ok P E){G:Gk}(hG:HG P G){C:Cx} : ∀ (n:Nat) (c:Code) (st:St) (k:Kt) (σ:Sg) (a:Act) (w:World) (Q:Exit→Act→World→Prop),seqs (n+1) c=true →
    evP E G (LoopOk P C) (preC (n+1) c) st k→Inv C σ st a w→(∀ (e:Ex) st' σ' a' w',k e st'→Inv C σ' st' a' w'→Exit.then ((afterC (n+1) c).wp P Q) Q e.to a' w')→c.wp P Q a w
  | 0,.seq x y,st,k,σ,a,w,Q,_,h,hi,hk=>wp_seq (evP_sound ok.tt ok.eqs ok.mixed hG x st k σ a w _ h hi fun e st' σ' a' w' hst hi'=>hk e st' σ' a' w' hst hi')
  | n+1,.seq x y,st,k,σ,a,w,Q,hs,h,hi,hk=>by
    refine wp_seq (evP_sound ok.tt ok.eqs ok.mixed hG x st _ σ a w _ h hi fun e st' σ' a' w' hst hi' => ?_)
    cases e with
    | normal=>exact run_pre ok hG n y st' k σ' a' w' Q hs hst hi' hk
    | exit m=>exact hk (.exit m) st' σ' a' w' hst hi'
    | ret=>exact hk .ret st' σ' a' w' hst hi'
theorem runTo_cut{E:Env}(ok:Ok P E){G:Gk}(hG:HG P G){C:Cx}{c:Code}(n:Nat)(hs:seqs (n+1) c=true)(ts:List Tmp){st:St}{fn:Func}{J:List Nat}{r:Res}
    (h:evP E G (LoopOk P C) (preC (n+1) c) st (rk ts (RunTo P C (afterC (n+1) c) fn r) (endF E fn.results.toList J (fun o=>Wd o r)))):RunTo P C c fn r st:=by
  intro σ a w hi
  refine run_pre ok hG n c st _ σ a w _ hs h hi fun e st' σ' a' w' hst hi' => ?_
  cases e with
  | normal =>
    have hst:atHead (RunTo P C (afterC (n+1) c) fn r) (head ts st'):=hst
    unfold atHead at hst
    split at hst
    · rename_i st2 h2
      obtain ⟨σ2,hi2⟩:=head_ok h2 hi'
      exact hst σ2 a' w' hi2
    · exact hst.elim
  | ret=>exact fin_of ok.tt hi' hst
  | exit m=>exact hst.elim
def frzA(ob:List (Nat × AO)):AV→AV
  | .ows o=>(match lookN ob o with
    | some (.row cs xs) => .rsl cs xs
    | _ => .junk)
  | .val v => .val v
  | .nsl cs => .nsl cs
  | .rsl cs xs => .rsl cs xs
  | .ptr o j => .ptr o j
  | _ => .junk
def frzB(ob:List (Nat × AO)):List (Nat × AO)→List (Nat × AO)
  | [] => []
  | (k,_) :: r=>match lookN ob k with
    | some (.box us)=>(k,.box (us.map (frzA ob))) :: frzB ob r
    | _=>frzB ob r
def frz(st:St):St:=⟨st.tm.map (frzA st.ob),frzB st.ob st.ob,st.nx,st.ps⟩
theorem lookN_frzB{ob:List (Nat × AO)} : ∀ {l:List (Nat × AO)} {o:Nat} {x:AO},lookN (frzB ob l) o=some x → ∃ us,lookN ob o=some (.box us)∧x = .box (us.map (frzA ob))
  | [],o,x,h=>by simp [frzB,lookN] at h
  | (k,_) :: r,o,x,h=>by
    unfold frzB at h
    split at h
    · rename_i us hus
      unfold lookN at h
      split at h
      · rename_i hb
        obtain rfl:=Nat.eq_of_beq_eq_true hb
        exact ⟨us,hus,(Option.some.inj h).symm⟩
      · exact lookN_frzB h
    · exact lookN_frzB h
noncomputable def frzS(σ:Sg)(ob:List (Nat × AO))(w:World):Sb:=⟨rest σ (lookN (frzB ob ob)) w,rest σ (lookN (frzB ob ob)) w,fun _ _ h=>h⟩
theorem frzS_at{S:Sb}{σ:Sg}{ob:List (Nat × AO)}{w:World}(oi:OI S σ (lookN ob) w){b:Nat}{x:Obj}(h:S b=some x):rest σ (lookN (frzB ob ob)) w b=some x:=by
  have hno : ¬ own σ (lookN (frzB ob ob)) b:=by
    rintro ⟨o,y,k,ho,hk,hr,rfl⟩
    obtain ⟨us,h1,_⟩:=lookN_frzB ho
    rw [oi.sep o _ k h1 hk hr] at h
    cases h
  simp only [rest,if_neg hno]
  exact oi.st b x h
theorem frzA_R{S:Sb}{σ:Sg}{ob:List (Nat × AO)}{w:World}(oi:OI S σ (lookN ob) w){a:AV}{v:Value}(h:R S σ a v):R (frzS σ ob w) σ (frzA ob a) v:=by
  have up : ∀ b x,S.g b=some x→(frzS σ ob w).g b=some x:=fun b x hb=>frzS_at oi (S.sub b x hb)
  cases h with
  | val v=>exact .val v
  | nsl cs=>exact .nsl cs
  | rsl cs xs A c hc h=>exact .rsl cs xs A c hc fun j u hu=>let ⟨ad,h1,h2⟩:=h j u hu; ⟨ad,h1,cellS_mono up h2⟩
  | ptr o j k hk hr=>exact .ptr o j k hk hr
  | ows o k cap hk hr h1 h2 =>
    show R _ σ (match lookN ob o with | some (.row cs xs) => .rsl cs xs | _ => .junk) _
    split
    · · rename_i cs xs hrow
        obtain ⟨k',hk',hok⟩:=oi.ok o _ hrow
        rw [hk] at hk'
        obtain rfl:=Option.some.inj hk'
        obtain ⟨g1,_,g3⟩:=hok
        obtain ⟨_,cur,e,hb,_,ht⟩:=g3 hr
        rw [← g1]
        refine .rsl cs xs _ cap (by omega) fun j u hu=>⟨_,rfl,?_⟩
        have hno : ¬ own σ (lookN (frzB ob ob)) k.b:=by
          rintro ⟨o',y,k2,ho,hk2,hr2,hb2⟩
          obtain ⟨us,h3,_⟩:=lookN_frzB ho
          have:=oi.inj o' o _ _ k2 k h3 hrow hk2 hk hr2 hr hb2
          subst this
          rw [hrow] at h3
          cases h3
        have hg:(frzS σ ob w).g k.b=some (.cells cur e (0,0)):=by
          show rest σ (lookN (frzB ob ob)) w k.b=_
          simp only [rest,if_neg hno]
          exact hb
        unfold cellS
        have e1:(Addr.add ⟨k.b,0,none⟩ j).block=k.b:=by unfold Addr.add; split<;>rfl
        have e2:(Addr.add ⟨k.b,0,none⟩ j).off=j:=by
          unfold Addr.add
          split
          · rename_i h0; exact h0.symm
          · exact Nat.zero_add j
        have e3:(Addr.add ⟨k.b,0,none⟩ j).spot=none:=by unfold Addr.add; split<;>rfl
        simp only [e1,e2,e3,hg]
        have hlt:=(List.getElem?_eq_some_iff.1 hu).1
        have hu2:(cur.toList.take (flat cs xs).length)[j]? = some u:=by rw [ht]; exact hu
        rw [List.getElem?_take_of_lt hlt] at hu2
        simpa using hu2
    · exact .junk _
  | ows0 o k x hk hr hn =>
    show R _ σ (match lookN ob o with | some (.row cs xs) => .rsl cs xs | _ => .junk) _
    split
    · · rename_i cs xs hrow
        obtain ⟨k',hk',hok⟩:=oi.ok o _ hrow
        rw [hk] at hk'
        obtain rfl:=Option.some.inj hk'
        obtain ⟨g1,g2,_⟩:=hok
        obtain rfl:=g2 hr
        exact .rsl cs [] x 0 (Nat.le_refl 0) fun j u hu=>by simp [flat] at hu
    · exact .junk _
  | _=>exact .junk _
theorem frz_RL{S:Sb}{σ:Sg}{ob:List (Nat × AO)}{w:World}(oi:OI S σ (lookN ob) w){us:List AV}{vs:List Value}(h:RL S σ us vs):RL (frzS σ ob w) σ (us.map (frzA ob)) vs:=by
  refine ⟨by simpa using h.1,fun j u v hu hv => ?_⟩
  rw [List.getElem?_map] at hu
  obtain ⟨y,hy,rfl⟩:=Option.map_eq_some_iff.1 hu
  exact frzA_R oi (h.2 j y v hy hv)
theorem frz_Inv{C:Cx}{σ:Sg}{st:St}{a:Act}{w:World}(hi:Inv C σ st a w):Inv ⟨frzS σ st.ob w,C.π,C.w0⟩ σ (frz st) a w:=by
  have oi:=hi.oi
  have sl:=slots_iff.2 (frz_RL oi (slots_iff.1 hi.sl))
  refine ⟨sl.len,sl.tm,⟨fun o x h => ?_,fun o o' x x' k k' h h' => ?_,fun b x h => ?_,fun o x k h hk hr => ?_,oi.tab.mono fun b x hb=>frzS_at oi hb⟩,hi.nx,hi.ps,hi.df,hi.tl⟩
  · obtain ⟨us,h1,rfl⟩:=lookN_frzB h
    obtain ⟨k,hk,g1,cur,e,g2,g3⟩:=oi.ok o _ h1
    exact ⟨k,hk,g1,cur,e,g2,frz_RL oi g3⟩
  · obtain ⟨us,h1,_⟩:=lookN_frzB h
    obtain ⟨us',h1',_⟩:=lookN_frzB h'
    exact oi.inj o o' _ _ k k' h1 h1'
  · have h:rest σ (lookN (frzB st.ob st.ob)) w b=some x:=h
    simp only [rest] at h
    split at h
    · cases h
    · exact h
  · have:own σ (lookN (frzB st.ob st.ob)) k.b:=⟨o,x,k,h,hk,hr,rfl⟩
    show rest σ (lookN (frzB st.ob st.ob)) w k.b=none
    simp [rest,this]
def rowsB:List AO→Bool
  | []=>true
  | .row _ _ :: r=>rowsB r
  | .box _ :: _=>false
theorem rowsB_at : ∀ {os:List AO} {o:Nat} {y:AO},rowsB os=true→os[o]? = some y → ∃ cs xs,y = .row cs xs
  | .row cs xs :: r,0,y,_,h=>⟨cs,xs,(Option.some.inj h).symm⟩
  | .row cs xs :: r,o+1,y,h1,h=>rowsB_at (os:=r) h1 (by simpa using h)
theorem runTo_frz{C:Cx}{c:Code}{fn:Func}{r:Res}{st st2:St}(e:frz st=st2)(hav:noMem depth r.av=true)(hr:rowsB r.obs=true)(h : ∀ S,RunTo P ⟨S,C.π,C.w0⟩ c fn r st2):RunTo P C c fn r st:=by
  intro σ a w hi
  have oi:=hi.oi
  have back : ∀ a' w',Fin0 P ⟨frzS σ st.ob w,C.π,C.w0⟩ fn r a' w'→Fin0 P C fn r a' w':=by
    rintro a' w' ⟨h1,v,h2,σ',h3,h4,h5,h6,h7⟩
    refine ⟨h1,v,h2,σ',noMem_R depth _ _ hav h3,⟨fun o x ho => ?_,h4.inj,fun b x hb=>h4.st b x (frzS_at oi hb),fun o x k ho hk hr => ?_,oi.tab⟩,h5,h6,h7⟩
    · obtain ⟨k,hk,ok⟩:=h4.ok o x ho
      rw [lookN_num] at ho
      obtain ⟨cs,xs,rfl⟩:=rowsB_at hr ho
      exact ⟨k,hk,ok⟩
    · have:=h4.sep o x k ho hk hr
      cases hS:C.S k.b with
      | none=>rfl
      | some y =>
        have h8:(frzS σ st.ob w) k.b=some y:=frzS_at oi hS
        rw [this] at h8
        cases h8
  have:=h (frzS σ st.ob w) σ a w (e ▸ frz_Inv hi)
  exact wp_mono this fun e a' w' hq=>by
    cases e with
    | normal=>exact back a' w' hq
    | ret=>exact back a' w' hq
    | _=>exact hq
theorem runTo_fh{C:Cx}{c:Code}{fn:Func}{r:Res}{st st2:St}(e:head [] (frz st)=some st2)(hav:noMem depth r.av=true)(hr:rowsB r.obs=true)(h : ∀ C,RunTo P C c fn r st2):RunTo P C c fn r st:=by
  refine runTo_frz rfl hav hr fun S σ a w hi => ?_
  obtain ⟨σ2,hi2⟩:=head_ok e hi
  exact h _ σ2 a w hi2
theorem got_map{α:Type}{Q:α→Prop}{T T':Cx→α→Prop}(h:Got Q T)(f : ∀ C y,T C y→T' C y):Got Q T':=by
  obtain ⟨y,hy,h⟩:=h
  exact ⟨y,hy,fun C=>f C y (h C)⟩
theorem ex_runTo{α : Type}{Q : α → Prop}{form : α → Res}{f : FuncId}{fn : Func}(hf : P.funcs[f]? = some fn)(hb : fn.body.isSome = true)(hn : (fn.name == "runtime.NumGoroutine") = false)
    {args:List AV} {obs:List AO} (ho:Nat.ble obs.length start=true) (h:Got Q (fun C y=>RunTo P C (codeOf fn) fn (form y) (initSt fn.ntmps args obs))) : ∃ y,Q y∧Ctr P f args obs (form y):=by
  obtain ⟨y,hy,h⟩:=h
  refine ⟨y,hy,?_⟩
  obtain ⟨c,hb⟩:=Option.isSome_iff_exists.1 hb
  have ho:obs.length≤start:=by simpa using ho
  intro S π w vs hR oi hπ o a K Q hk
  rw [run_callFunc hf hb hn]
  show Calls P f vs.toArray w _
  have hbody:=h ⟨S,π,w⟩
  have hc:codeOf fn=c:=by simp [codeOf,hb]
  rw [hc] at hbody
  refine calls_of_wp hf hb (wp_mono (hbody π _ w ?_) fun e a' w' hq => ?_)
  · have hlen:=hR.1
    have hRL:RL S π (args++List.replicate (fn.ntmps - args.length) (.val undef)) (vs.toArray++Array.replicate (fn.ntmps - vs.toArray.size) undef).toList:=by
      have hrep : ∀ n,RL S π (List.replicate n (.val undef)) (List.replicate n undef):=by
        intro n
        induction n with
        | zero=>exact .nil
        | succ n ih=>exact .cons (.val _) ih
      have:=hR.append (hrep (fn.ntmps - args.length))
      simpa [hlen] using this
    have sl:=slots_iff (a:=⟨vs.toArray++Array.replicate (fn.ntmps - vs.toArray.size) undef,[]⟩).2 hRL
    refine ⟨sl.len,sl.tm,oi,fun p hp=>Nat.lt_of_lt_of_le (hπ p hp) ho,fun i p hp => ?_,rfl,.refl w⟩
    obtain ⟨h1,h2⟩:=handed_at _ _ _ _ hp
    have:p=i:=by omega
    subst this
    obtain ⟨k,hk,_⟩:=oi.ok p obs[p] (by rw [lookN_num]; simp [h2])
    exact ⟨k,hk,hk⟩
  · have fin:Fin0 P ⟨S,π,w⟩ fn (form y) a' w'→a'.defers = [] ∧ ∃ v,(results fn a'.tmps).run P w' = .ok v w'∧K (a.put o.dst v) w':=by
      rintro ⟨h1,v,h2,σ',h3,h4,h5,h6,h7⟩
      exact ⟨h1,v,h2,hk v w' ⟨σ',h3,h4,h5,h6,h7⟩⟩
    cases e with
    | normal=>exact fin hq
    | ret=>exact fin hq
    | _=>exact hq.elim
end Go.Proofs.YtkjnijddbiconaaGreatDoor.Ev
