/- A store that is played: blocks of a disk that is only read. -/
import Derived.Test.YtkjnijddbiconaaGreatDoorWK
namespace Go.Proofs.YtkjnijddbiconaaGreatDoor.Ev
open Go
set_option linter.unusedVariables false
set_option linter.unusedSimpArgs false
set_option maxRecDepth 100000
noncomputable def G274v:Gk:=gk [(43,g43),(69,g69),(74,g74),(189,g189w)]
theorem hg274v:HG Tryz.prog G274v:=(hg_cons h43 (hg_cons h69 (hg_cons h74 (hg_cons h189w hg_nil))))
theorem e274v(L:Lp)(R:Rp)(a b0:List (Elem ks))(c0:List (Elem kl))(x:Int)(s:List (Elem kc))(d p:List (Elem k3))(b:Bool)(f:List (Elem ki))(n:Int)(t:ByteArray):(bodyP Er G274v L Tryz.f274 [.agg [.rsl ks a,.rsl ks b0,.rsl kl c0],coreOwn x b n 0 1 2 3,.val (.string t)] [.row kc s,.row k3 d,.row k3 p,.row ki f] R)=(
    br (smD a b0 c0&&(decide (d.length≤1048576)&&decide (t.size≤4611686018427387904))) (br (decide (fndR a b0 c0 d t > 0)) (R (some ⟨.tup [.agg [.rsl ks a,.rsl ks b0,.rsl kl c0],vI (fndR a b0 c0 d t),vI 0],[.row kc s,.row k3 d,.row k3 p,.row ki f],[some 0,some 1,some 2,some 3]⟩)) (br (smCo (x,s,d,p,b,f,n)&&decide ((↑a.length:Int)≤120)) (br (!mayB (x,s,d,p,b,f,n).2.2.1 (x,s,d,p,b,f,n).2.2.2.2.2.1 (↑a.length:Int)) (R (some ⟨.tup [.agg [.rsl ks a,.rsl ks b0,.rsl kl c0],vI 0,vI 7],[.row kc s,.row k3 d,.row k3 p,.row ki f],[some 0,some 1,some 2,some 3]⟩)) (br (smCo (x,s,d,p,b,f,n)&&decide ((↑a.length:Int)≤120)) (br (decide ((0:Int)≤0∧0 < (↑(frL (x,s,d,p,b,f,n).2.2.1 (x,s,d,p,b,f,n).2.2.2.2.2.1 (↑a.length:Int)).length:Int))) (br (smD a b0 c0) (br (!(bwX a b0 c0 ((frL (x,s,d,p,b,f,n).2.2.1 (x,s,d,p,b,f,n).2.2.2.2.2.1 (↑a.length:Int)).getD 0 (edflt ki)).1 t).2) (R (some ⟨.tup [.agg [.rsl ks a,.rsl ks b0,.rsl kl c0],vI 0,vI 7],[.row kc s,.row k3 d,.row k3 p,.row ki f],[some 0,some 1,some 2,some 3]⟩)) (R (some ⟨.tup [.agg [.ows 0,.ows 1,.ows 2],vI ((frL (x,s,d,p,b,f,n).2.2.1 (x,s,d,p,b,f,n).2.2.2.2.2.1 (↑a.length:Int)).getD 0 (edflt ki)).1,vI 0],[.row ks (bwX a b0 c0 ((frL (x,s,d,p,b,f,n).2.2.1 (x,s,d,p,b,f,n).2.2.2.2.2.1 (↑a.length:Int)).getD 0 (edflt ki)).1 t).1.1,.row ks (bwX a b0 c0 ((frL (x,s,d,p,b,f,n).2.2.1 (x,s,d,p,b,f,n).2.2.2.2.2.1 (↑a.length:Int)).getD 0 (edflt ki)).1 t).1.2.1,.row kl (bwX a b0 c0 ((frL (x,s,d,p,b,f,n).2.2.1 (x,s,d,p,b,f,n).2.2.2.2.2.1 (↑a.length:Int)).getD 0 (edflt ki)).1 t).1.2.2,.row kc s,.row k3 d,.row k3 p,.row ki f],[some 3,some 4,some 5,some 6]⟩))) False) False) False)) False)) False):=by kernel_rfl
abbrev fmV0(a b0:List (Elem ks))(c0:List (Elem kl))(s:List (Elem kc))(d p:List (Elem k3))(f:List (Elem ki))(y:Bk1):Res:=⟨.tup [.agg [.rsl ks a,.rsl ks b0,.rsl kl c0],.val (.int .i64 y.t),.val (.int .i64 y.code)],[.row kc s,.row k3 d,.row k3 p,.row ki f],[some 0,some 1,some 2,some 3]⟩
abbrev fmV1(a b0:List (Elem ks))(c0:List (Elem kl))(s:List (Elem kc))(d p:List (Elem k3))(f:List (Elem ki))(y:Bk1):Res:=⟨.tup [.agg [.ows 0,.ows 1,.ows 2],.val (.int .i64 y.t),.val (.int .i64 0)],[.row ks y.u,.row ks y.v,.row kl y.w,.row kc s,.row k3 d,.row k3 p,.row ki f],[some 3,some 4,some 5,some 6]⟩
def fmV(a b0:List (Elem ks))(c0:List (Elem kl))(s:List (Elem kc))(d p:List (Elem k3))(f:List (Elem ki))(y:Bk1):Res:=match y.wr with
  | false=>fmV0 a b0 c0 s d p f y
  | true=>fmV1 a b0 c0 s d p f y
theorem bvE{a b0:List (Elem ks)}{c0:List (Elem kl)}{x:Int}{s:List (Elem kc)}{d p:List (Elem k3)}{b:Bool}{f:List (Elem ki)}{n:Int}{t:ByteArray}(hF:fitD a b0 c0)(hC:smCo (x,s,d,p,b,f,n)=true)(hd:d.length≤1048576)(ht:t.size≤4611686018427387904) :
    ∃ y:Bk1,fitD y.u y.v y.w∧Ctr Tryz.prog 274 [.agg [.rsl ks a,.rsl ks b0,.rsl kl c0],coreOwn x b n 0 1 2 3,.val (.string t)] [.row kc s,.row k3 d,.row k3 p,.row ki f] (fmV a b0 c0 s d p f y):=by
  refine ex_ctr (form:=fun y:Bk1=>fmV a b0 c0 s d p f y) okr hg274v Tryz.func274 (by kernel_rfl) (by kernel_rfl) (by kernel_rfl) ?_
  simp only [e274v]
  have hD:=fitD_sm hF
  have hpre:(smCo (x,s,d,p,b,f,n)&&decide ((a.length:Int)≤120))=true:=by rw [hC]; exact decide_eq_true (by have:=hF.1; omega)
  have keep : ∀ (q r:Int),Got (fun y:Bk1=>fitD y.u y.v y.w) (fun C y=>Wk (some (fmV0 a b0 c0 s d p f ⟨false,q,r,[],[],[]⟩)) (fmV a b0 c0 s d p f y)):=fun q r=>ex_end (x:=⟨false,q,r,[],[],[]⟩) fitD_nil fun C=>wk_rfl _
  refine ex_t (by rw [hD,decide_eq_true hd,decide_eq_true ht]; rfl) (ex_dec (fun h1=>keep _ 0) (fun h1=>ex_t hpre (ex_not (fun h2=>keep 0 7) (fun h2 => ?_))))
  have h3:16 < (frL d f (a.length:Int)).length:=by
    have h2:mayB d f (a.length:Int)=true:=h2
    unfold mayB at h2
    simp only [Bool.and_eq_true,decide_eq_true_eq] at h2
    exact h2.1
  refine ex_t hpre (ex_yes ⟨by omega,by show (0:Int) < ((frL d f (a.length:Int)).length:Int); omega⟩ (ex_t hD (ex_not (fun h4=>keep 0 7) (fun h4 => ?_))))
  exact ex_end (x:=(⟨true,_,0,_,_,_⟩:Bk1)) (bwX_fit hF _ _) fun C=>wk_rfl _
noncomputable def bvF(a b0:List (Elem ks))(c0:List (Elem kl))(x:Int)(s:List (Elem kc))(d p:List (Elem k3))(b:Bool)(f:List (Elem ki))(n:Int)(t:ByteArray):Bk1:=pick fun y:Bk1=>fitD y.u y.v y.w∧Ctr Tryz.prog 274 [.agg [.rsl ks a,.rsl ks b0,.rsl kl c0],coreOwn x b n 0 1 2 3,.val (.string t)] [.row kc s,.row k3 d,.row k3 p,.row ki f] (fmV a b0 c0 s d p f y)
theorem bvF_ok{a b0:List (Elem ks)}{c0:List (Elem kl)}{x:Int}{s:List (Elem kc)}{d p:List (Elem k3)}{b:Bool}{f:List (Elem ki)}{n:Int}{t:ByteArray}(hF:fitD a b0 c0)(hC:smCo (x,s,d,p,b,f,n)=true)(hd:d.length≤1048576)(ht:t.size≤4611686018427387904) :
    fitD (bvF a b0 c0 x s d p b f n t).u (bvF a b0 c0 x s d p b f n t).v (bvF a b0 c0 x s d p b f n t).w∧Ctr Tryz.prog 274 [.agg [.rsl ks a,.rsl ks b0,.rsl kl c0],coreOwn x b n 0 1 2 3,.val (.string t)] [.row kc s,.row k3 d,.row k3 p,.row ki f] (fmV a b0 c0 s d p f (bvF a b0 c0 x s d p b f n t)):=pick_ok (bvE hF hC hd ht)
noncomputable def g274v:G1
  | [.agg [.rsl [.str] a,.rsl [.str] b0,.rsl [.int .i64,.int .i64,.str] c0],.agg [.val (.int .i64 x),.ows 0,.ows 1,.ows 2,.val (.bool b),.ows 3,.val (.int .i64 n)],.val (.string t)],[.row cx s0,.row [.int .i64,.int .i64,.int .i64] d,.row [.int .i64,.int .i64,.int .i64] p,.row [.int .i64] f],k=>match castE kc cx s0 with
    | some s=>br (fitB a b0 c0&&(decide (d.length≤1048576)&&(decide (t.size≤4611686018427387904)&&smCo (x,s,d,p,b,f,n)))) (br (bvF a b0 c0 x s d p b f n t).wr (k (fmV1 a b0 c0 s d p f (bvF a b0 c0 x s d p b f n t))) (k (fmV0 a b0 c0 s d p f (bvF a b0 c0 x s d p b f n t)))) False
    | none=>False
  | _,_,_=>False
theorem h274v:G1Ok Tryz.prog 274 g274v:=by
  intro args obs k h
  unfold g274v at h
  split at h
  · split at h
    rotate_left
    · exact h.elim
    rename_i s hs
    cases castE_inv hs
    obtain ⟨hp,h⟩:=br_and h
    simp only [Bool.and_eq_true,decide_eq_true_eq] at hp
    obtain ⟨p1,p2,p3,p4⟩:=hp
    refine ⟨_,(bvF_ok (fitB_iff.1 p1) p4 p2 p3).2,?_⟩
    unfold fmV
    split
    · rename_i ho
      rw [ho] at h
      exact h
    · rename_i ho
      rw [ho] at h
      exact h
  · exact h.elim
noncomputable def G235v:Gk:=gk [(276,g276),(189,g189w)]
theorem hg235v:HG Tryz.prog G235v:=(hg_cons h276 (hg_cons h189w hg_nil))
theorem e235v(L:Lp)(R:Rp)(a b0:List (Elem ks))(c0:List (Elem kl))(x:Int)(s:List (Elem kc))(d p:List (Elem k3))(b:Bool)(f:List (Elem ki))(n:Int)(k:Int)(A C:ByteArray)(i:Int)(t:ByteArray):(bodyP Er G235v L Tryz.f235 [.agg [.rsl ks a,.rsl ks b0,.rsl kl c0],coreOwn x b n 0 1 2 3,.agg [.val (.int .i64 k),.val (.string A),.val (.string C),.val (.int .i64 i),.val (.string t)]] [.row kc s,.row k3 d,.row k3 p,.row ki f] R)=(
    br (decide (A.size≤1048576)) (br (strEq (ltF x n k A C i t) { data := #[] }) (R (some ⟨.tup [.agg [.rsl ks a,.rsl ks b0,.rsl kl c0],.agg [vI x,.ows 0,.ows 1,.ows 2,vB b,.ows 3,vI n],vB false],[.row kc s,.row k3 d,.row k3 p,.row ki f],[none,none,none,none]⟩)) (br (smD a b0 c0) (br (!(bwX a b0 c0 (IntKind.i64.wrap (5+n)) (ltF x n k A C i t)).2) (R (some ⟨.tup [.agg [.rsl ks a,.rsl ks b0,.rsl kl c0],.agg [vI x,.ows 0,.ows 1,.ows 2,vB b,.ows 3,vI n],vB false],[.row kc s,.row k3 d,.row k3 p,.row ki f],[none,none,none,none]⟩)) (R (some ⟨.tup [.agg [.ows 0,.ows 1,.ows 2],.agg [vI x,.ows 3,.ows 4,.ows 5,vB b,.ows 6,vI (IntKind.i64.wrap (n+1))],vB true],[.row ks (bwX a b0 c0 (IntKind.i64.wrap (5+n)) (ltF x n k A C i t)).1.1,.row ks (bwX a b0 c0 (IntKind.i64.wrap (5+n)) (ltF x n k A C i t)).1.2.1,.row kl (bwX a b0 c0 (IntKind.i64.wrap (5+n)) (ltF x n k A C i t)).1.2.2,.row kc s,.row k3 d,.row k3 p,.row ki f],[none,none,none,none]⟩))) False)) False):=by kernel_rfl
abbrev fmQ0(a b0:List (Elem ks))(c0:List (Elem kl))(x:Int)(s:List (Elem kc))(d p:List (Elem k3))(b:Bool)(f:List (Elem ki))(n:Int):Res:=⟨.tup [.agg [.rsl ks a,.rsl ks b0,.rsl kl c0],coreOwn x b n 0 1 2 3,.val (.bool false)],[.row kc s,.row k3 d,.row k3 p,.row ki f],[none,none,none,none]⟩
abbrev fmQ1(a b0:List (Elem ks))(c0:List (Elem kl))(x:Int)(s:List (Elem kc))(d p:List (Elem k3))(b:Bool)(f:List (Elem ki))(n:Int)(y:Pu):Res:=⟨.tup [.agg [.ows 0,.ows 1,.ows 2],coreOwn x b (IntKind.i64.wrap (n+1)) 3 4 5 6,.val (.bool true)],[.row ks y.u,.row ks y.v,.row kl y.w,.row kc s,.row k3 d,.row k3 p,.row ki f],[none,none,none,none]⟩
def fmQ(a b0:List (Elem ks))(c0:List (Elem kl))(x:Int)(s:List (Elem kc))(d p:List (Elem k3))(b:Bool)(f:List (Elem ki))(n:Int)(y:Pu):Res:=match y.ok with
  | false=>fmQ0 a b0 c0 x s d p b f n
  | true=>fmQ1 a b0 c0 x s d p b f n y
theorem pvE{a b0:List (Elem ks)}{c0:List (Elem kl)}{x:Int}{s:List (Elem kc)}{d p:List (Elem k3)}{b:Bool}{f:List (Elem ki)}{n:Int}{k:Int}{A C:ByteArray}{i:Int}{t:ByteArray}(hF:fitD a b0 c0)(hA:decide (A.size≤1048576)=true) : ∃ y:Pu,fitD y.u y.v y.w∧Ctr Tryz.prog 235 [.agg [.rsl ks a,.rsl ks b0,.rsl kl c0],coreOwn x b n 0 1 2 3,.agg [.val (.int .i64 k),.val (.string A),.val (.string C),.val (.int .i64 i),.val (.string t)]] [.row kc s,.row k3 d,.row k3 p,.row ki f] (fmQ a b0 c0 x s d p b f n y):=by
  refine ex_ctr (form:=fun y:Pu=>fmQ a b0 c0 x s d p b f n y) okr hg235v Tryz.func235 (by kernel_rfl) (by kernel_rfl) (by kernel_rfl) ?_
  simp only [e235v]
  have no:Got (fun y:Pu=>fitD y.u y.v y.w) (fun C y=>Wk (some (fmQ0 a b0 c0 x s d p b f n)) (fmQ a b0 c0 x s d p b f n y)):=ex_end (x:=⟨false,[],[],[]⟩) fitD_nil fun C=>wk_rfl _
  refine ex_t hA (ex_intro (fun _=>no) (fun _=>ex_t (fitD_sm hF) (ex_not (fun _=>no) (fun _ => ?_))))
  exact ex_end (x:=(⟨true,_,_,_⟩:Pu)) (bwX_fit hF _ _) fun C=>wk_rfl _
noncomputable def pvF(a b0:List (Elem ks))(c0:List (Elem kl))(x:Int)(s:List (Elem kc))(d p:List (Elem k3))(b:Bool)(f:List (Elem ki))(n:Int)(k:Int)(A C:ByteArray)(i:Int)(t:ByteArray):Pu:=pick fun y:Pu=>fitD y.u y.v y.w∧Ctr Tryz.prog 235 [.agg [.rsl ks a,.rsl ks b0,.rsl kl c0],coreOwn x b n 0 1 2 3,.agg [.val (.int .i64 k),.val (.string A),.val (.string C),.val (.int .i64 i),.val (.string t)]] [.row kc s,.row k3 d,.row k3 p,.row ki f] (fmQ a b0 c0 x s d p b f n y)
theorem pvF_ok{a b0:List (Elem ks)}{c0:List (Elem kl)}{x:Int}{s:List (Elem kc)}{d p:List (Elem k3)}{b:Bool}{f:List (Elem ki)}{n:Int}{k:Int}{A C:ByteArray}{i:Int}{t:ByteArray}(hF:fitD a b0 c0)(hA:decide (A.size≤1048576)=true):fitD (pvF a b0 c0 x s d p b f n k A C i t).u (pvF a b0 c0 x s d p b f n k A C i t).v (pvF a b0 c0 x s d p b f n k A C i t).w∧Ctr Tryz.prog 235 [.agg [.rsl ks a,.rsl ks b0,.rsl kl c0],coreOwn x b n 0 1 2 3,.agg [.val (.int .i64 k),.val (.string A),.val (.string C),.val (.int .i64 i),.val (.string t)]] [.row kc s,.row k3 d,.row k3 p,.row ki f] (fmQ a b0 c0 x s d p b f n (pvF a b0 c0 x s d p b f n k A C i t)):=pick_ok (pvE hF hA)
noncomputable def g235v:G1
  | [.agg [.rsl [.str] a,.rsl [.str] b0,.rsl [.int .i64,.int .i64,.str] c0],.agg [.val (.int .i64 x),.ows 0,.ows 1,.ows 2,.val (.bool b),.ows 3,.val (.int .i64 n)],.agg [.val (.int .i64 k),.val (.string A),.val (.string C),.val (.int .i64 i),.val (.string t)]],[.row cx s0,.row [.int .i64,.int .i64,.int .i64] d,.row [.int .i64,.int .i64,.int .i64] p,.row [.int .i64] f],k'=>match castE kc cx s0 with
    | some s=>br (fitB a b0 c0&&decide (A.size≤1048576)) (br (pvF a b0 c0 x s d p b f n k A C i t).ok (k' (fmQ1 a b0 c0 x s d p b f n (pvF a b0 c0 x s d p b f n k A C i t))) (k' (fmQ0 a b0 c0 x s d p b f n))) False
    | none=>False
  | _,_,_=>False
theorem h235v:G1Ok Tryz.prog 235 g235v:=by
  intro args obs k h
  unfold g235v at h
  split at h
  · split at h
    rotate_left
    · exact h.elim
    rename_i s hs
    cases castE_inv hs
    obtain ⟨hp,h⟩:=br_and h
    rw [Bool.and_eq_true] at hp
    refine ⟨_,(pvF_ok (fitB_iff.1 hp.1) hp.2).2,?_⟩
    unfold fmQ
    split
    · rename_i ho
      rw [ho] at h
      exact h
    · rename_i ho
      rw [ho] at h
      exact h
  · exact h.elim
noncomputable def g235c:G1:=fun args obs k=>match args with
  | .agg (.ows _ :: _) :: _=>g235 args obs k
  | _=>g235v args obs k
theorem h235c:G1Ok Tryz.prog 235 g235c:=by
  intro args obs k h
  unfold g235c at h
  split at h
  · exact h235 _ _ _ h
  · exact h235v _ _ _ h
def rows1:List AO→Prop
  | []=>True
  | .row _ _ :: r=>rows1 r
  | .box _ :: _=>False
theorem rows1_at : ∀ {os:List AO} {o:Nat} {y:AO},rows1 os→os[o]? = some y → ∃ cs xs,y = .row cs xs
  | .row cs xs :: r,0,y,_,h=>⟨cs,xs,(Option.some.inj h).symm⟩
  | .row cs xs :: r,o+1,y,h1,h=>rows1_at (os:=r) h1 (by simpa using h)
theorem ctr_cut{P:Program}{f:FuncId}{args:List AV}{obs obs1:List AO}{x:AO}{av:AV}{outs outs':List (Option Nat)}(h:Ctr P f args obs ⟨av,obs1 ++ [x],outs⟩)(hav:ren (fun q=>if Nat.blt q obs1.length then some q else none) depth av=av)
    (hr:rows1 obs1) (ho : ∀ (i q:Nat),outs'[i]? = some (some q)→outs[i]? = some (some q)∧q < obs1.length):Ctr P f args obs ⟨av,obs1,outs'⟩:=by
  intro S π w vs hR oi hπ o a K Q hk
  refine h S π w vs hR oi hπ o a K Q fun v w' ⟨σ',g1,g2,g3,g4,g5⟩ => ?_
  let σ2:Sg:=fun q=>if q < obs1.length then σ' q else none
  have at1 : ∀ q y,obs1[q]? = some y→(obs1 ++ [x])[q]? = some y∧q < obs1.length:=fun q y hq=>by
    have hlt:=(List.getElem?_eq_some_iff.1 hq).1
    exact ⟨by rw [List.getElem?_append_left hlt]; exact hq,hlt⟩
  have e2 : ∀ q,q < obs1.length→σ2 q=σ' q:=fun q hq=>by show (if q < obs1.length then σ' q else none)=_; rw [if_pos hq]
  refine hk v w' ⟨σ2,?_,⟨?_,?_,g2.st,?_,g2.tab⟩,g3,fun q hq => ?_,fun i q hq => ?_⟩
  · have:=ren_R (S:=S) (σ:=σ') (π:=σ2) (ρ:=fun q=>if Nat.blt q obs1.length then some q else none) (fun p q hp=>by
      have hp:(if Nat.blt p obs1.length then some p else none)=some q:=hp
      split at hp
      · rename_i hb
        obtain rfl:=Option.some.inj hp
        exact e2 p (by simpa using hb)
      · cases hp) depth av v g1
    rw [hav] at this
    exact this
  · intro q y hy
    rw [lookN_num] at hy
    obtain ⟨h1,h2⟩:=at1 q y hy
    obtain ⟨k,hk1,hk2⟩:=g2.ok q y (by rw [lookN_num]; exact h1)
    obtain ⟨cs,xs,rfl⟩:=rows1_at hr hy
    exact ⟨k,by rw [e2 q h2]; exact hk1,hk2⟩
  · intro p q y z k k' hp hq hkp hkq r1 r2 hb
    rw [lookN_num] at hp hq
    obtain ⟨p1,p2⟩:=at1 p y hp
    obtain ⟨q1,q2⟩:=at1 q z hq
    rw [e2 p p2] at hkp
    rw [e2 q q2] at hkq
    exact g2.inj p q y z k k' (by rw [lookN_num]; exact p1) (by rw [lookN_num]; exact q1) hkp hkq r1 r2 hb
  · intro q y k hy hk1 hr1
    rw [lookN_num] at hy
    obtain ⟨h1,h2⟩:=at1 q y hy
    rw [e2 q h2] at hk1
    exact g2.sep q y k (by rw [lookN_num]; exact h1) hk1 hr1
  · have hq:(if q < obs1.length then σ' q else none)≠none:=hq
    split at hq
    · assumption
    · exact absurd rfl hq
  · obtain ⟨h1,h2⟩:=ho i q hq
    rw [e2 q h2]
    exact g5 i q h1
theorem rzS_ok{x:Int}{s:List (Elem kc)}{d0 p:List (Elem k3)}{b0:Bool}{f:List (Elem ki)}{n:Int}{zs:List Int}(hz:zs.length=24)(m:Bool)(hd:d0.length≤1000) :
    Ctr Tryz.prog 273 [coreOwn x b0 n 0 1 2 3,.agg (zAV zs),.val (.bool m)] [.row kc s,.row k3 d0,.row k3 p,.row ki f] (fmR0 x s p f n (rzF x s d0 p b0 f n zs m)):=by
  have h:=(rzF_ok (x:=x) (s:=s) (p:=p) (b0:=b0) (f:=f) (n:=n) hz m hd).2
  unfold fmR at h
  split at h
  · exact h
  · refine ctr_cut (obs1 := [.row kc s,.row k3 _,.row k3 p,.row ki f]) h (by kernel_rfl) trivial (fun i q hq => ?_)
    rcases i with _ | _ | _ | _ | i<;>simp at hq
noncomputable def g273s:G1
  | [.agg [.val (.int .i64 x),.ows 0,.ows 1,.ows 2,.val (.bool b),.ows 3,.val (.int .i64 n)],.agg us,.val (.bool m)],[.row cx s0,.row [.int .i64,.int .i64,.int .i64] d,.row [.int .i64,.int .i64,.int .i64] p,.row [.int .i64] f],k=>match castE kc cx s0,zOf us with
    | some s,some zs=>br (decide (d.length≤1000)&&decide (zs.length=24)) (k (fmR0 x s p f n (rzF x s d p b f n zs m))) False
    | _,_=>False
  | _,_,_=>False
theorem h273s:G1Ok Tryz.prog 273 g273s:=by
  intro args obs k h
  unfold g273s at h
  split at h
  · split at h
    rotate_left
    · exact h.elim
    rename_i s zs hs hz
    cases castE_inv hs
    cases zOf_inv _ _ hz
    obtain ⟨hp,h⟩:=br_and h
    rw [Bool.and_eq_true,decide_eq_true_eq,decide_eq_true_eq] at hp
    exact ⟨_,rzS_ok hp.2 _ hp.1,h⟩
  · exact h.elim
end Go.Proofs.YtkjnijddbiconaaGreatDoor.Ev