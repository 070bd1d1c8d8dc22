/- What is free: contracts. -/
import Derived.Test.YtkjnijddbiconaaGreatDoorC9
import Derived.Test.YtkjnijddbiconaaGreatDoorWE
import Derived.Test.YtkjnijddbiconaaGreatDoorWA
import Derived.Test.YtkjnijddbiconaaGreatDoorShelf
namespace Go.Proofs.YtkjnijddbiconaaGreatDoor.Ev
open Go
set_option linter.unusedVariables false
set_option linter.unusedSimpArgs false
set_option maxRecDepth 100000
set_option maxHeartbeats 1000000
def hasF(f:List (Elem ki))(t:Int):Bool:=anyB f.length fun i=>atI f i==t
def g73:G1
  | [.rsl [.int .i64] f,.val (.int .i64 t)],[],k=>br (decide (f.length≤1048576)) (k ⟨.val (.bool (hasF f t)),[],[]⟩) False
  | _,_,_=>False
def frB(d:List (Elem k3))(f:List (Elem ki))(t:Int):Bool := !okD d t && !hasF f t
def frP(d:List (Elem k3))(f:List (Elem ki))(m:Nat):List (Elem ki):=((List.range m).map fun (q:Nat)=>(((13+(q:Int)),()):Elem ki)).filter fun e=>frB d f e.1
def frL(d:List (Elem k3))(f:List (Elem ki))(n:Int):List (Elem ki):=frP d f (n - 13).toNat
def g74:G1
  | [.agg us,.val (.int .i64 n)],[],k=>match coreOf us with
    | some c=>br (smCo c&&decide (n≤120)) (k ⟨.ows 0,[.row [.int .i64] (frL c.2.2.1 c.2.2.2.2.2.1 n)],[]⟩) False
    | none=>False
  | _,_,_=>False
def mayB(d:List (Elem k3))(f:List (Elem ki))(n:Int):Bool:=decide ((frL d f n).length > 16)&&(decide (n - 13 - d.length - 1≥32)&&decide (d.length < 48))
def g69:G1
  | [.agg us,.val (.int .i64 n)],[],k=>match coreOf us with
    | some c=>br (smCo c&&decide (n≤120)) (k ⟨.val (.bool (mayB c.2.2.1 c.2.2.2.2.2.1 n)),[],[]⟩) False
    | none=>False
  | _,_,_=>False
def bsI(f:List (Elem ki))(t:Int):Nat:=bsf (fun i=>decide (atI f i < t)) 0 f.length
def bkI(f:List (Elem ki))(t:Int):Bool:=decide (bsI f t < f.length)&&(atI f (bsI f t)==t)
def g145:G1
  | [.rsl [.int .i64] f,.val (.int .i64 t)],[],k=>br (decide (f.length≤1048576)) (k ⟨.tup [.val (.int .i64 (bsI f t)),.val (.bool (bkI f t))],[],[]⟩) False
  | _,_,_=>False
def g206:G1
  | [.val (.int .i64 a),.val (.int .i64 b)],[],k=>k ⟨.val (.bool (decide (a < b))),[],[]⟩
  | _,_,_=>False
def g212:G1
  | [.val (.int .i64 a)],[],k=>k ⟨.val (.bool false),[],[]⟩
  | _,_,_=>False
def okC(c:Co):Bool:=smCo c&&(ddtOk c.2.2.1&&plcs c.2.2.2.2.2.1)
def g76:G1
  | [.agg us,.val (.int .i64 t)],[],k=>match coreOf us with
    | some c=>br (okC c&&decide (0≤t∧t≤1000000)) (k ⟨.val (.bool (frB c.2.2.1 c.2.2.2.2.2.1 t)),[],[]⟩) False
    | none=>False
  | _,_,_=>False
def g71:G1
  | [.agg us,.val (.int .i64 n)],[],k=>match coreOf us with
    | some c=>br (okC c&&decide (n≤120)) (k ⟨.ows 0,[.row [.int .i64] (frL c.2.2.1 c.2.2.2.2.2.1 n)],[]⟩) False
    | none=>False
  | _,_,_=>False
def romB(c:Co)(n:Int):Bool:=coreOk c.1 c.2.1 c.2.2.1 c.2.2.2.1 c.2.2.2.2.2.1 c.2.2.2.2.2.2&&decide (n≤120)
def g70:G1
  | [.agg us,.val (.int .i64 n)],[],k=>match coreOf us with
    | some c=>br (smB' c) (k ⟨.val (.bool (romB c n)),[],[]⟩) False
    | none=>False
  | _,_,_=>False
def rmM(c:Co)(n:Int):Bool:=romB c n&&mayB c.2.2.1 c.2.2.2.2.2.1 n
def g20:G1
  | [.agg us,.val (.int .i64 n)],[],k=>match coreOf us with
    | some c=>br (smB' c) (k ⟨.val (.bool (rmM c n)),[],[]⟩) False
    | none=>False
  | _,_,_=>False
theorem plc_st{f:List (Elem ki)}(h:plcs f=true){j:Nat}(hj:j+1 < f.length):atI f j < atI f (j+1):=by
  have h1:=allB_at h hj
  unfold plc1 at h1
  simp only [Bool.and_eq_true,Bool.or_eq_true,beq_iff_eq,decide_eq_true_eq,Nat.add_sub_cancel] at h1
  rcases h1.2 with e | e
  · omega
  · exact e
theorem plc_asc{f:List (Elem ki)}(h:plcs f=true) : ∀ (j i:Nat),i < j→j < f.length→atI f i < atI f j
  | 0,i,hi,_=>absurd hi (by omega)
  | j+1,i,hi,hj=>by
    have h2:=plc_st h hj
    by_cases e:i=j
    · rw [e]; exact h2
    · have:=plc_asc h j i (by omega) (by omega)
      omega
theorem any_fd{n:Nat}{e:Nat→Bool}:anyB n e=(fd n e).isSome:=by
  unfold anyB fd
  cases h:List.find? e (List.range n) with
  | none =>
    rw [List.find?_eq_none] at h
    rw [List.any_eq_false.2 h]
    rfl
  | some i =>
    rw [List.any_eq_true.2 ⟨i,List.mem_of_find?_eq_some h,List.find?_some h⟩]
    rfl
theorem bk_has{f:List (Elem ki)}(h:plcs f=true)(t:Int):bkI f t=hasF f t:=by
  have e1:bsI f t=ln (fun i=>decide (atI f i < t)) f.length:=bsf_ln fun a c hac hc hp=>by
    have hp:atI f c < t:=of_decide_eq_true hp
    by_cases e:a=c
    · subst e; exact decide_eq_true hp
    · have:=plc_asc h c a (by omega) hc
      exact decide_eq_true (by omega)
  have e2:=fd_ln (p:=fun i=>decide (atI f i < t)) (e:=fun i=>atI f i==t) (n:=f.length) (fun i hi hp=>beq_eq_false_iff_ne.2 (by
    have hp:atI f i < t:=of_decide_eq_true hp
    omega)) (fun i j hij hj he=>decide_eq_true (by
    have he:atI f j=t:=eq_of_beq he
    have:=plc_asc h j i hij hj
    omega))
  unfold bkI hasF
  rw [e1,any_fd,e2]
  cases decide (ln (fun i=>decide (atI f i < t)) f.length < f.length)&&(atI f (ln (fun i=>decide (atI f i < t)) f.length)==t)<;>rfl
theorem frP_next(d:List (Elem k3))(f:List (Elem ki))(m:Nat):frP d f (m+1)=frP d f m++match frB d f (13+(m:Int)) with | true => [((13+(m:Int)),())] | false => []:=by
  unfold frP
  rw [List.range_succ,List.map_append,List.filter_append]
  have e:List.filter (fun e:Elem ki=>frB d f e.1) [((13+(m:Int)),())]=match frB d f (13+(m:Int)) with | true => [((13+(m:Int)),())] | false => []:=by
    rw [List.filter_cons]
    show (if frB d f (13+(m:Int))=true then _ else _)=_
    cases frB d f (13+(m:Int))<;>rfl
  exact congrArg _ e
theorem frP_len(d:List (Elem k3))(f:List (Elem ki))(m:Nat):(frP d f m).length≤m:=by
  unfold frP
  have:=List.length_filter_le (fun e:Elem ki=>frB d f e.1) ((List.range m).map fun (q:Nat)=>(((13+(q:Int)),()):Elem ki))
  rw [List.length_map,List.length_range] at this
  exact this
theorem fr_o{d:List (Elem k3)}{f:List (Elem ki)}{t:Int}(h:okD d t=true):frB d f t=false:=by unfold frB; rw [h]; rfl
theorem fr_h{d:List (Elem k3)}{f:List (Elem ki)}{t:Int}(h:hasF f t=true):frB d f t=false:=by unfold frB; rw [h]; simp
theorem fr_t{d:List (Elem k3)}{f:List (Elem ki)}{t:Int}(h:okD d t=false)(h2:hasF f t=false):frB d f t=true:=by unfold frB; rw [h,h2]; rfl
noncomputable def E73:Env:=Ef.of Tryz.f73
noncomputable def G73:Gk:=gk []
noncomputable def lp73(n:Nat):Code:=(loopOf n (codeOf Tryz.f73)).getD .skip
noncomputable def ct73(L:Lp)(R:Rp)(n:Nat):Kt:=contOf E73 G73 L n (codeOf Tryz.f73) (endK E73 Tryz.f73.results.toList R)
noncomputable def rk73(L:Lp)(R:Rp)(n:Nat)(N:St→Prop):Kt:=rk (jof E73 (lp73 n)) N (ct73 L R n)
noncomputable def LOOP73(L:Lp)(R:Rp)(n:Nat)(st:St):Prop:=L (lp73 n) st (ct73 L R n)
theorem hg73:HG Tryz.prog G73:=hg_nil
theorem okf73:Ok Tryz.prog E73:=okf.of Tryz.f73
theorem e73(L:Lp)(R:Rp)(f:List (Elem ki))(t:Int):(bodyP Ef G73 L Tryz.f73 [.rsl ki f,.val (.int .i64 t)] [] R)=(
    LOOP73 L R 2 ⟨(.rsl ki f :: vI t :: vJ :: vJ :: vJ :: vI 0 :: jn 12 []),[],1000000,[]⟩):=by kernel_rfl
def st73(f:List (Elem ki))(t i:Int):St :=  ⟨(AV.rsl ki f :: vI t :: vJ :: vJ :: vJ :: .val (.int .i64 i) :: jn 12 []),[],1000000,[]⟩
theorem b73(L:Lp)(R:Rp)(N:St→Prop)(f:List (Elem ki))(t i:Int):(evP E73 G73 L (lp73 2) (st73 f t i) (rk73 L R 2 N))=(
    br (decide (i < (↑f.length:Int))) (br (decide (0≤i∧i < (↑f.length:Int))) (br ((f.getD i.toNat (edflt ki)).1==t) (R (some ⟨vB true,[],[]⟩)) (N (st73 f t (IntKind.i64.wrap (i+1))))) False) (R (some ⟨vB false,[],[]⟩))):=by kernel_rfl
theorem h73:G1Ok Tryz.prog 73 g73:=by
  intro args obs k h
  unfold g73 at h
  split at h
  · rename_i k f t
    obtain ⟨hl,h⟩:=brd h
    refine ⟨_,ctr_fn okf hg73 Tryz.func73 (by kernel_rfl) (by kernel_rfl) (by kernel_rfl) fun C => ?_,h⟩
    rw [e73]
    refine loopUp okf73 hg73 (fun i (_:Unit)=>st73 f t i) f.length (fun i _ => ∀ q,q < i→(atI f q==t)=false) (fun N i _ hi hall next => ?_) () (fun q hq=>by omega)
    show evP E73 G73 _ (lp73 2) (st73 f t i) (rk73 _ _ 2 _)
    rw [b73,wrap_id (n:=(i:Int)+1) (by omega) (by omega),Int.toNat_natCast]
    refine br_dec (fun h2=>br_yes ⟨by omega,h2⟩ (br_intro (fun h3 => ?_) (fun h3=>next (by omega) () fun q hq => ?_))) (fun h2 => ?_)
    · show _=_
      rw [show hasF f t=true from anyB_t (i:=i) (by omega) h3]
    · by_cases e:q < i
      · exact hall q e
      · have:q=i:=by omega
        rw [this]
        exact h3
    · show _=_
      rw [show hasF f t=false from anyB_f fun q hq=>hall q (by omega)]
  · exact h.elim
noncomputable def E74:Env:=Ef.of Tryz.f74
noncomputable def G74:Gk:=gk [(72,g72),(73,g73)]
noncomputable def lp74(n:Nat):Code:=(loopOf n (codeOf Tryz.f74)).getD .skip
noncomputable def ct74(L:Lp)(R:Rp)(n:Nat):Kt:=contOf E74 G74 L n (codeOf Tryz.f74) (endK E74 Tryz.f74.results.toList R)
noncomputable def rk74(L:Lp)(R:Rp)(n:Nat)(N:St→Prop):Kt:=rk (jof E74 (lp74 n)) N (ct74 L R n)
noncomputable def LOOP74(L:Lp)(R:Rp)(n:Nat)(st:St):Prop:=L (lp74 n) st (ct74 L R n)
theorem hg74:HG Tryz.prog G74:=(hg_cons h72 (hg_cons h73 hg_nil))
theorem okf74:Ok Tryz.prog E74:=okf.of Tryz.f74
theorem e74(L:Lp)(R:Rp)(x:Int)(s:List (Elem kc))(d p:List (Elem k3))(b:Bool)(f:List (Elem ki))(n m:Int):(bodyP Ef G74 L Tryz.f74 [coreAV x s d p b f n,.val (.int .i64 m)] [] R)=(
    LOOP74 L R 3 ⟨(vJ :: vI m :: .ptr 0 0 :: vJ :: vJ :: .ows 1 :: vI 13 :: jn 29 []),[(0,.box [vI x,.rsl kc s,.rsl k3 d,.rsl k3 p,vB b,.rsl ki f,vI n]),(1,.row ki [])],1000000,[]⟩):=by kernel_rfl
def st74(x:Int)(s:List (Elem kc))(d p:List (Elem k3))(b:Bool)(f:List (Elem ki))(n m:Int)(i:Int)(ys:List (Elem ki)):St :=  ⟨(vJ :: vI m :: AV.ptr 0 0 :: vJ :: vJ :: AV.ows 1 :: .val (.int .i64 i) :: jn 29 []),[(0,AO.box [vI x,AV.rsl kc s,AV.rsl k3 d,AV.rsl k3 p,vB b,AV.rsl ki f,vI n]),(1,.row ki ys)],1000000,[]⟩
theorem b74(L:Lp)(R:Rp)(N:St→Prop)(x:Int)(s:List (Elem kc))(d p:List (Elem k3))(b:Bool)(f:List (Elem ki))(n m:Int)(i:Int)(ys:List (Elem ki)):(evP E74 G74 L (lp74 3) (st74 x s d p b f n m i ys) (rk74 L R 3 N))=(
    br (decide (i < m)) (br (decide (d.length≤1048576)) (br (!okD d i) (br (decide (f.length≤1048576)) (br (!hasF f i) (br (decide ((ys.length + [(i,())].length) * 8≤140737488355328)) (N (st74 x s d p b f n m (IntKind.i64.wrap (i+1)) (ys ++ [(i,())]))) False) (N (st74 x s d p b f n m (IntKind.i64.wrap (i+1)) ys))) False) (N (st74 x s d p b f n m (IntKind.i64.wrap (i+1)) ys))) False) (R (some ⟨.ows 0,[.row ki ys],[]⟩))):=by kernel_rfl
theorem h74:G1Ok Tryz.prog 74 g74:=by
  intro args obs k h
  unfold g74 at h
  split at h
  · rename_i k us m
    split at h
    rotate_left
    · exact h.elim
    rename_i c hc
    obtain rfl:=coreOf_inv hc
    obtain ⟨x,s,d,p,b,f,n⟩:=c
    obtain ⟨hp,hm,h⟩:=brb2 h
    have hm:m≤120:=of_decide_eq_true hm
    have hdl:=smCo_d hp
    have hfl:=smCo_f hp
    refine ⟨_,ctr_fn okf hg74 Tryz.func74 (by kernel_rfl) (by kernel_rfl) (by kernel_rfl) fun C => ?_,h⟩
    show bodyP Ef G74 _ Tryz.f74 [coreAV x s d p b f n,.val (.int .i64 m)] [] _
    rw [e74]
    refine loopUp okf74 hg74 (fun i ys=>st74 x s d p b f n m (13+i) ys) (m - 13).toNat (fun i ys=>ys=frP d f i) (fun N i ys hi hy next => ?_) [] rfl
    show evP E74 G74 _ (lp74 3) (st74 x s d p b f n m (13+(i:Int)) ys) (rk74 _ _ 3 _)
    have hlen:=frP_len d f i
    rw [← hy] at hlen
    have hn:=frP_next d f i
    rw [b74,wrap_id (n:=13+(i:Int)+1) (by omega) (by omega),show (13:Int)+(i:Int)+1=13+((i:Int)+1) from by omega]
    have go : ∀ zs,frP d f (i+1)=zs→i < (m - 13).toNat→N (st74 x s d p b f n m (13+((i:Int)+1)) zs):=fun zs hz hi=>next hi zs hz.symm
    refine br_dec (fun h1=>br_yes hdl (br_not (fun h2=>br_yes hfl (br_not (fun h3=>br_yes ?_ (go _ ?_ (by omega))) (fun h3=>go _ ?_ (by omega)))) (fun h2=>go _ ?_ (by omega)))) (fun h1 => ?_)
    · show (ys.length+1) * 8≤_
      omega
    · rw [hn,fr_t h2 h3,hy]
    · rw [hn,fr_h h3,hy]
      exact List.append_nil _
    · rw [hn,fr_o h2,hy]
      exact List.append_nil _
    · have:i=(m - 13).toNat:=by omega
      rw [this] at hy
      show _=_
      rw [hy]
      rfl
  · exact h.elim
noncomputable def G69:Gk:=gk [(74,g74)]
theorem hg69:HG Tryz.prog G69:=(hg_cons h74 hg_nil)
theorem e69(L:Lp)(R:Rp)(x:Int)(s:List (Elem kc))(d p:List (Elem k3))(b:Bool)(f:List (Elem ki))(n m:Int):(bodyP Ef G69 L Tryz.f69 [coreAV x s d p b f n,.val (.int .i64 m)] [] R)=(
    br (smCo (x,s,d,p,b,f,n)&&decide (m≤120)) (br (decide ((↑(frL (x,s,d,p,b,f,n).2.2.1 (x,s,d,p,b,f,n).2.2.2.2.2.1 m).length:Int) > 16)) (br (decide (IntKind.i64.wrap (IntKind.i64.wrap (IntKind.i64.wrap (m - 13) - (↑d.length:Int)) - 1)≥32)) (R (some ⟨vB (decide ((↑d.length:Int) < 48)),[],[]⟩)) (R (some ⟨vB false,[],[]⟩))) (R (some ⟨vB false,[],[]⟩))) False):=by kernel_rfl
theorem h69:G1Ok Tryz.prog 69 g69:=by
  intro args obs k h
  unfold g69 at h
  split at h
  · rename_i k us m
    split at h
    rotate_left
    · exact h.elim
    rename_i c hc
    obtain rfl:=coreOf_inv hc
    obtain ⟨x,s,d,p,b,f,n⟩:=c
    obtain ⟨hp,hm,h⟩:=brb2 h
    have hm':m≤120:=of_decide_eq_true hm
    have hdl:=smCo_d hp
    refine ⟨_,ctr_fn okf hg69 Tryz.func69 (by kernel_rfl) (by kernel_rfl) (by kernel_rfl) fun C => ?_,h⟩
    show bodyP Ef G69 _ Tryz.f69 [coreAV x s d p b f n,.val (.int .i64 m)] [] _
    rw [e69]
    have hl:(frL d f m).length≤(m - 13).toNat:=frP_len d f _
    refine br_t (by rw [hp,hm]; rfl) (br_dec (fun h1 => ?_) (fun h1 => ?_))
    · have h1:((frL d f m).length:Int) > 16:=h1
      rw [wrap_id (n:=m - 13) (by omega) (by omega),wrap_id (n:=m - 13 - d.length) (by omega) (by omega),wrap_id (n:=m - 13 - d.length - 1) (by omega) (by omega)]
      refine br_dec (fun h2 => ?_) (fun h2 => ?_)
      · show (some ⟨.val (.bool (decide ((d.length:Int) < 48))),[],[]⟩:Option Res)=some ⟨.val (.bool (mayB d f m)),[],[]⟩
        unfold mayB
        rw [decide_eq_true (show (frL d f m).length > 16 by omega),decide_eq_true h2,Bool.true_and,Bool.true_and,show decide ((d.length:Int) < 48)=decide (d.length < 48) from decide_eq_decide.2 (by omega)]
      · show (some ⟨.val (.bool false),[],[]⟩:Option Res)=some ⟨.val (.bool (mayB d f m)),[],[]⟩
        unfold mayB
        rw [decide_eq_false h2,Bool.false_and,Bool.and_false]
    · have h1 : ¬ ((frL d f m).length:Int) > 16:=h1
      show (some ⟨.val (.bool false),[],[]⟩:Option Res)=some ⟨.val (.bool (mayB d f m)),[],[]⟩
      unfold mayB
      rw [decide_eq_false (show ¬ (frL d f m).length > 16 by omega),Bool.false_and]
  · exact h.elim
noncomputable def G212:Gk:=gk []
theorem hg212:HG Tryz.prog G212:=hg_nil
theorem e212(L:Lp)(R:Rp)(a:Int):(bodyP Ef G212 L Tryz.f212 [.val (.int .i64 a)] [] R)=(
    R (some ⟨vB (a != a),[],[]⟩)):=by kernel_rfl
theorem h212:G1Ok Tryz.prog 212 g212:=by
  intro args obs k h
  unfold g212 at h
  split at h
  · rename_i k a
    refine ⟨_,ctr_fn okf hg212 Tryz.func212 (by kernel_rfl) (by kernel_rfl) (by kernel_rfl) fun C => ?_,h⟩
    rw [e212]
    show _=_
    simp
  · exact h.elim
noncomputable def G246:Gk:=gk []
theorem hg246:HG Tryz.prog G246:=hg_nil
theorem e246(L:Lp)(R:Rp)(a:Int):(bodyP Ef G246 L Tryz.f246 [.val (.int .i64 a)] [] R)=(
    R (some ⟨vB (a != a),[],[]⟩)):=by kernel_rfl
theorem h246:G1Ok Tryz.prog 246 g212:=by
  intro args obs k h
  unfold g212 at h
  split at h
  · rename_i k a
    refine ⟨_,ctr_fn okf hg246 Tryz.func246 (by kernel_rfl) (by kernel_rfl) (by kernel_rfl) fun C => ?_,h⟩
    rw [e246]
    show _=_
    simp
  · exact h.elim
noncomputable def G206:Gk:=gk [(246,g212)]
theorem hg206:HG Tryz.prog G206:=(hg_cons h246 hg_nil)
theorem e206(L:Lp)(R:Rp)(a c:Int):(bodyP Ef G206 L Tryz.f206 [.val (.int .i64 a),.val (.int .i64 c)] [] R)=(
    R (some ⟨vB (decide (a < c)),[],[]⟩)):=by kernel_rfl
theorem h206:G1Ok Tryz.prog 206 g206:=by
  intro args obs k h
  unfold g206 at h
  split at h
  · rename_i k a c
    refine ⟨_,ctr_fn okf hg206 Tryz.func206 (by kernel_rfl) (by kernel_rfl) (by kernel_rfl) fun C => ?_,h⟩
    rw [e206]
  · exact h.elim
noncomputable def E145:Env:=Ef.of Tryz.f145
noncomputable def G145:Gk:=gk [(206,g206),(212,g212)]
noncomputable def lp145(n:Nat):Code:=(loopOf n (codeOf Tryz.f145)).getD .skip
noncomputable def ct145(L:Lp)(R:Rp)(n:Nat):Kt:=contOf E145 G145 L n (codeOf Tryz.f145) (endK E145 Tryz.f145.results.toList R)
noncomputable def rk145(L:Lp)(R:Rp)(n:Nat)(N:St→Prop):Kt:=rk (jof E145 (lp145 n)) N (ct145 L R n)
noncomputable def LOOP145(L:Lp)(R:Rp)(n:Nat)(st:St):Prop:=L (lp145 n) st (ct145 L R n)
theorem hg145:HG Tryz.prog G145:=(hg_cons h206 (hg_cons h212 hg_nil))
theorem okf145:Ok Tryz.prog E145:=okf.of Tryz.f145
theorem e145(L:Lp)(R:Rp)(f:List (Elem ki))(t:Int):(bodyP Ef G145 L Tryz.f145 [.rsl ki f,.val (.int .i64 t)] [] R)=(
    LOOP145 L R 3 ⟨(.rsl ki f :: vI t :: jn 4 (vI (↑f.length:Int) :: vI 0 :: vI (↑f.length:Int) :: jn 45 [])),[],1000000,[]⟩):=by kernel_rfl
def st145(f:List (Elem ki))(t i j:Int):St :=  ⟨(AV.rsl ki f :: vI t :: jn 4 (vI (↑f.length:Int) :: .val (.int .i64 i) :: .val (.int .i64 j) :: jn 45 [])),[],1000000,[]⟩
theorem b145(L:Lp)(R:Rp)(N:St→Prop)(f:List (Elem ki))(t i j:Int):(evP E145 G145 L (lp145 3) (st145 f t i j) (rk145 L R 3 N))=(
    br (decide (i < j)) (br (decide (0≤IntKind.i64.wrap ((IntKind.u64.wrap (IntKind.i64.wrap (i+j))).fdiv 2)∧IntKind.i64.wrap ((IntKind.u64.wrap (IntKind.i64.wrap (i+j))).fdiv 2) < (↑f.length:Int))) (br (decide ((f.getD (IntKind.i64.wrap ((IntKind.u64.wrap (IntKind.i64.wrap (i+j))).fdiv 2)).toNat (edflt ki)).1 < t)) (N ⟨(.rsl ki f :: vI t :: jn 4 (vI (↑f.length:Int) :: vI (IntKind.i64.wrap (IntKind.i64.wrap ((IntKind.u64.wrap (IntKind.i64.wrap (i+j))).fdiv 2)+1)) :: vI j :: jn 45 [])),[],1000000,[]⟩) (N ⟨(.rsl ki f :: vI t :: jn 4 (vI (↑f.length:Int) :: vI i :: vI (IntKind.i64.wrap ((IntKind.u64.wrap (IntKind.i64.wrap (i+j))).fdiv 2)) :: jn 45 [])),[],1000000,[]⟩)) False) (br (decide (i < (↑f.length:Int))) (br (decide (0≤i∧i < (↑f.length:Int))) (br ((f.getD i.toNat (edflt ki)).1==t) (R (some ⟨.tup [vI i,vB true],[],[]⟩)) (br (decide (0≤i∧i < (↑f.length:Int))) (R (some ⟨.tup [vI i,vB false],[],[]⟩)) False)) False) (R (some ⟨.tup [vI i,vB false],[],[]⟩)))):=by kernel_rfl
theorem h145:G1Ok Tryz.prog 145 g145:=by
  intro args obs k h
  unfold g145 at h
  split at h
  · rename_i k f t
    obtain ⟨hl,h⟩:=brd h
    refine ⟨_,ctr_fn okf hg145 Tryz.func145 (by kernel_rfl) (by kernel_rfl) (by kernel_rfl) fun C => ?_,h⟩
    rw [e145]
    refine loopBs okf145 hg145 (fun i j=>st145 f t i j) f.length (fun i=>decide (atI f i < t)) (by omega) (fun N i j hij hj hm hw yes no done => ?_) _ rfl
    show evP E145 G145 _ (lp145 3) (st145 f t i j) (rk145 _ _ 3 _)
    rw [b145,hm]
    refine br_dec (fun h2 => ?_) (fun h2 => ?_)
    · rw [hw (by omega),Int.toNat_natCast]
      exact br_yes ⟨by omega,by omega⟩ (br_intro (fun h3=>yes (by omega) h3) (fun h3=>no (by omega) h3))
    · have e:bsI f t=i:=done (by omega)
      refine br_dec (fun h3=>br_yes ⟨by omega,h3⟩ (br_intro (fun h4 => ?_) (fun h4=>br_yes ⟨by omega,h3⟩ ?_))) (fun h3 => ?_)
      · show _=_
        unfold bkI
        rw [e,decide_eq_true (show i < f.length by omega),show (atI f i==t)=true from h4]
        rfl
      · show _=_
        unfold bkI
        rw [e,show (atI f i==t)=false from h4,Bool.and_false]
      · show _=_
        unfold bkI
        rw [e,decide_eq_false (show ¬ i < f.length by omega)]
        rfl
  · exact h.elim
noncomputable def G76:Gk:=gk [(75,g75),(145,g145)]
theorem hg76:HG Tryz.prog G76:=(hg_cons h75 (hg_cons h145 hg_nil))
theorem e76(L:Lp)(R:Rp)(x:Int)(s:List (Elem kc))(d p:List (Elem k3))(b:Bool)(f:List (Elem ki))(n m:Int):(bodyP Ef G76 L Tryz.f76 [coreAV x s d p b f n,.val (.int .i64 m)] [] R)=(
    br (decide (d.length≤1048576)) (br (decide (f.length≤1048576)) (br (!bkD d m) (R (some ⟨vB !bkI f m,[],[]⟩)) (R (some ⟨vB false,[],[]⟩))) False) False):=by kernel_rfl
theorem h76:G1Ok Tryz.prog 76 g76:=by
  intro args obs k h
  unfold g76 at h
  split at h
  · rename_i k us m
    split at h
    rotate_left
    · exact h.elim
    rename_i c hc
    obtain rfl:=coreOf_inv hc
    obtain ⟨x,s,d,p,b,f,n⟩:=c
    obtain ⟨hp,hm,h⟩:=brb2 h
    have hm:0≤m∧m≤1000000:=of_decide_eq_true hm
    unfold okC at hp
    simp only [Bool.and_eq_true] at hp
    obtain ⟨hp,hd,hf⟩:=hp
    have hd:ddtOk d=true:=hd
    have hf:plcs f=true:=hf
    refine ⟨_,ctr_fn okf hg76 Tryz.func76 (by kernel_rfl) (by kernel_rfl) (by kernel_rfl) fun C => ?_,h⟩
    show bodyP Ef G76 _ Tryz.f76 [coreAV x s d p b f n,.val (.int .i64 m)] [] _
    rw [e76]
    refine br_yes (smCo_d hp) (br_yes (smCo_f hp) (br_not (fun h1 => ?_) (fun h1 => ?_)))
    · rw [bk_okD hd hm.1 hm.2] at h1
      show (some ⟨.val (.bool (!bkI f m)),[],[]⟩:Option Res)=some ⟨.val (.bool (frB d f m)),[],[]⟩
      unfold frB
      rw [bk_has hf,h1]
      rfl
    · rw [bk_okD hd hm.1 hm.2] at h1
      show (some ⟨.val (.bool false),[],[]⟩:Option Res)=some ⟨.val (.bool (frB d f m)),[],[]⟩
      rw [fr_o h1]
  · exact h.elim
noncomputable def E71:Env:=Ef.of Tryz.f71
noncomputable def G71:Gk:=gk [(76,g76)]
noncomputable def lp71(n:Nat):Code:=(loopOf n (codeOf Tryz.f71)).getD .skip
noncomputable def ct71(L:Lp)(R:Rp)(n:Nat):Kt:=contOf E71 G71 L n (codeOf Tryz.f71) (endK E71 Tryz.f71.results.toList R)
noncomputable def rk71(L:Lp)(R:Rp)(n:Nat)(N:St→Prop):Kt:=rk (jof E71 (lp71 n)) N (ct71 L R n)
noncomputable def LOOP71(L:Lp)(R:Rp)(n:Nat)(st:St):Prop:=L (lp71 n) st (ct71 L R n)
theorem hg71:HG Tryz.prog G71:=(hg_cons h76 hg_nil)
theorem okf71:Ok Tryz.prog E71:=okf.of Tryz.f71
theorem e71(L:Lp)(R:Rp)(x:Int)(s:List (Elem kc))(d p:List (Elem k3))(b:Bool)(f:List (Elem ki))(n m:Int):(bodyP Ef G71 L Tryz.f71 [coreAV x s d p b f n,.val (.int .i64 m)] [] R)=(
    LOOP71 L R 3 ⟨(vJ :: vI m :: .ptr 0 0 :: vJ :: vJ :: .ows 1 :: vI 13 :: jn 13 []),[(0,.box [vI x,.rsl kc s,.rsl k3 d,.rsl k3 p,vB b,.rsl ki f,vI n]),(1,.row ki [])],1000000,[]⟩):=by kernel_rfl
def st71(x:Int)(s:List (Elem kc))(d p:List (Elem k3))(b:Bool)(f:List (Elem ki))(n m:Int)(i:Int)(ys:List (Elem ki)):St :=  ⟨(vJ :: vI m :: AV.ptr 0 0 :: vJ :: vJ :: AV.ows 1 :: .val (.int .i64 i) :: jn 13 []),[(0,AO.box [vI x,AV.rsl kc s,AV.rsl k3 d,AV.rsl k3 p,vB b,AV.rsl ki f,vI n]),(1,.row ki ys)],1000000,[]⟩
theorem b71(L:Lp)(R:Rp)(N:St→Prop)(x:Int)(s:List (Elem kc))(d p:List (Elem k3))(b:Bool)(f:List (Elem ki))(n m:Int)(i:Int)(ys:List (Elem ki)):(evP E71 G71 L (lp71 3) (st71 x s d p b f n m i ys) (rk71 L R 3 N))=(
    br (decide (i < m)) (br (okC (x,s,d,p,b,f,n)&&decide (0≤i∧i≤1000000)) (br (frB (x,s,d,p,b,f,n).2.2.1 (x,s,d,p,b,f,n).2.2.2.2.2.1 i) (br (decide ((ys.length + [(i,())].length) * 8≤140737488355328)) (N (st71 x s d p b f n m (IntKind.i64.wrap (i+1)) (ys ++ [(i,())]))) False) (N (st71 x s d p b f n m (IntKind.i64.wrap (i+1)) ys))) False) (R (some ⟨.ows 0,[.row ki ys],[]⟩))):=by kernel_rfl
theorem h71:G1Ok Tryz.prog 71 g71:=by
  intro args obs k h
  unfold g71 at h
  split at h
  · rename_i k us m
    split at h
    rotate_left
    · exact h.elim
    rename_i c hc
    obtain rfl:=coreOf_inv hc
    obtain ⟨x,s,d,p,b,f,n⟩:=c
    obtain ⟨hp,hm,h⟩:=brb2 h
    have hm:m≤120:=of_decide_eq_true hm
    refine ⟨_,ctr_fn okf hg71 Tryz.func71 (by kernel_rfl) (by kernel_rfl) (by kernel_rfl) fun C => ?_,h⟩
    show bodyP Ef G71 _ Tryz.f71 [coreAV x s d p b f n,.val (.int .i64 m)] [] _
    rw [e71]
    refine loopUp okf71 hg71 (fun i ys=>st71 x s d p b f n m (13+i) ys) (m - 13).toNat (fun i ys=>ys=frP d f i) (fun N i ys hi hy next => ?_) [] rfl
    show evP E71 G71 _ (lp71 3) (st71 x s d p b f n m (13+(i:Int)) ys) (rk71 _ _ 3 _)
    have hlen:=frP_len d f i
    rw [← hy] at hlen
    have hn:=frP_next d f i
    rw [b71,wrap_id (n:=13+(i:Int)+1) (by omega) (by omega),show (13:Int)+(i:Int)+1=13+((i:Int)+1) from by omega]
    have go : ∀ zs,frP d f (i+1)=zs→i < (m - 13).toNat→N (st71 x s d p b f n m (13+((i:Int)+1)) zs):=fun zs hz hi=>next hi zs hz.symm
    refine br_dec (fun h1=>br_t (by rw [hp,decide_eq_true (show 0≤13+(i:Int)∧13+(i:Int)≤1000000 by omega)]; rfl) (br_intro (fun h2=>br_yes ?_ (go _ ?_ (by omega))) (fun h2=>go _ ?_ (by omega)))) (fun h1 => ?_)
    · show (ys.length+1) * 8≤_
      omega
    · rw [hn,show frB d f (13+(i:Int))=true from h2,hy]
    · rw [hn,show frB d f (13+(i:Int))=false from h2,hy]
      exact List.append_nil _
    · have:i=(m - 13).toNat:=by omega
      rw [this] at hy
      show _=_
      rw [hy]
      rfl
  · exact h.elim
noncomputable def G70:Gk:=gk [(58,g39)]
theorem hg70:HG Tryz.prog G70:=(hg_cons h58 hg_nil)
theorem e70(L:Lp)(R:Rp)(x:Int)(s:List (Elem kc))(d p:List (Elem k3))(b:Bool)(f:List (Elem ki))(n m:Int):(bodyP Ef G70 L Tryz.f70 [coreAV x s d p b f n,.val (.int .i64 m)] [] R)=(
    br (smB' (x,s,d,p,b,f,n)) (br (coreOk (x,s,d,p,b,f,n).1 (x,s,d,p,b,f,n).2.1 (x,s,d,p,b,f,n).2.2.1 (x,s,d,p,b,f,n).2.2.2.1 (x,s,d,p,b,f,n).2.2.2.2.2.1 (x,s,d,p,b,f,n).2.2.2.2.2.2) (R (some ⟨vB (decide (m≤120)),[],[]⟩)) (R (some ⟨vB false,[],[]⟩))) False):=by kernel_rfl
theorem h70:G1Ok Tryz.prog 70 g70:=by
  intro args obs k h
  unfold g70 at h
  split at h
  · rename_i k us m
    split at h
    rotate_left
    · exact h.elim
    rename_i c hc
    obtain rfl:=coreOf_inv hc
    obtain ⟨x,s,d,p,b,f,n⟩:=c
    obtain ⟨hp,h⟩:=br_and h
    refine ⟨_,ctr_fn okf hg70 Tryz.func70 (by kernel_rfl) (by kernel_rfl) (by kernel_rfl) fun C => ?_,h⟩
    show bodyP Ef G70 _ Tryz.f70 [coreAV x s d p b f n,.val (.int .i64 m)] [] _
    rw [e70]
    refine br_t hp (br_intro (fun h1 => ?_) (fun h1 => ?_))
    · show (some ⟨.val (.bool (decide (m≤120))),[],[]⟩:Option Res)=some ⟨.val (.bool (romB (x,s,d,p,b,f,n) m)),[],[]⟩
      unfold romB
      rw [h1,Bool.true_and]
    · show (some ⟨.val (.bool false),[],[]⟩:Option Res)=some ⟨.val (.bool (romB (x,s,d,p,b,f,n) m)),[],[]⟩
      unfold romB
      rw [h1,Bool.false_and]
  · exact h.elim
theorem rom_inv{c:Co}{m:Int}(h:romB c m=true):coreOk c.1 c.2.1 c.2.2.1 c.2.2.2.1 c.2.2.2.2.2.1 c.2.2.2.2.2.2=true∧m≤120:=by
  unfold romB at h
  rw [Bool.and_eq_true,decide_eq_true_eq] at h
  exact h
theorem cok_plc{x:Int}{s:List (Elem kc)}{d p:List (Elem k3)}{f:List (Elem ki)}{n:Int}(h:coreOk x s d p f n=true):ddtOk d=true∧plcs f=true:=by
  unfold coreOk at h
  simp only [Bool.and_eq_true] at h
  exact ⟨h.2.1,h.2.2.2.1⟩
theorem rom_ok{c:Co}{m:Int}(h:romB c m=true)(hs:smB' c=true):okC c=true∧m≤120:=by
  obtain ⟨h1,h2⟩:=rom_inv h
  obtain ⟨h3,h4⟩:=cok_plc h1
  unfold smB' at hs
  rw [Bool.and_eq_true] at hs
  unfold okC
  rw [hs.1,h3,h4]
  exact ⟨rfl,h2⟩
noncomputable def G20:Gk:=gk [(39,g39),(69,g69)]
theorem hg20:HG Tryz.prog G20:=(hg_cons h39 (hg_cons h69 hg_nil))
theorem e20(L:Lp)(R:Rp)(x:Int)(s:List (Elem kc))(d p:List (Elem k3))(b:Bool)(f:List (Elem ki))(n m:Int):(bodyP Ef G20 L Tryz.f20 [coreAV x s d p b f n,.val (.int .i64 m)] [] R)=(
    br (smB' (x,s,d,p,b,f,n)) (br (coreOk (x,s,d,p,b,f,n).1 (x,s,d,p,b,f,n).2.1 (x,s,d,p,b,f,n).2.2.1 (x,s,d,p,b,f,n).2.2.2.1 (x,s,d,p,b,f,n).2.2.2.2.2.1 (x,s,d,p,b,f,n).2.2.2.2.2.2) (br (decide (m≤120)) (br (smCo (x,s,d,p,b,f,n)&&decide (m≤120)) (R (some ⟨vB (mayB (x,s,d,p,b,f,n).2.2.1 (x,s,d,p,b,f,n).2.2.2.2.2.1 m),[],[]⟩)) False) (R (some ⟨vB false,[],[]⟩))) (R (some ⟨vB false,[],[]⟩))) False):=by kernel_rfl
theorem h20:G1Ok Tryz.prog 20 g20:=by
  intro args obs k h
  unfold g20 at h
  split at h
  · rename_i k us m
    split at h
    rotate_left
    · exact h.elim
    rename_i c hc
    obtain rfl:=coreOf_inv hc
    obtain ⟨x,s,d,p,b,f,n⟩:=c
    obtain ⟨hp,h⟩:=br_and h
    have hp1:smCo (x,s,d,p,b,f,n)=true:=by
      unfold smB' at hp
      rw [Bool.and_eq_true] at hp
      exact hp.1
    refine ⟨_,ctr_fn okf hg20 Tryz.func20 (by kernel_rfl) (by kernel_rfl) (by kernel_rfl) fun C => ?_,h⟩
    show bodyP Ef G20 _ Tryz.f20 [coreAV x s d p b f n,.val (.int .i64 m)] [] _
    rw [e20]
    refine br_t hp (br_intro (fun h1=>br_dec (fun h2=>br_t (by rw [hp1,decide_eq_true h2]; rfl) ?_) (fun h2 => ?_)) (fun h1 => ?_))
    · show (some ⟨.val (.bool (mayB d f m)),[],[]⟩:Option Res)=some ⟨.val (.bool (rmM (x,s,d,p,b,f,n) m)),[],[]⟩
      unfold rmM romB
      rw [h1,decide_eq_true h2]
      rfl
    · show (some ⟨.val (.bool false),[],[]⟩:Option Res)=some ⟨.val (.bool (rmM (x,s,d,p,b,f,n) m)),[],[]⟩
      unfold rmM romB
      rw [decide_eq_false h2,Bool.and_false]
      rfl
    · show (some ⟨.val (.bool false),[],[]⟩:Option Res)=some ⟨.val (.bool (rmM (x,s,d,p,b,f,n) m)),[],[]⟩
      unfold rmM romB
      rw [h1]
      rfl
  · exact h.elim
noncomputable def G21:Gk:=gk [(70,g70),(71,g71)]
theorem hg21:HG Tryz.prog G21:=(hg_cons h70 (hg_cons h71 hg_nil))
theorem e21(L:Lp)(R:Rp)(x:Int)(s:List (Elem kc))(d p:List (Elem k3))(b:Bool)(f:List (Elem ki))(n m:Int):(bodyP Ef G21 L Tryz.f21 [coreAV x s d p b f n,.val (.int .i64 m)] [] R)=(
    br (smB' (x,s,d,p,b,f,n)) (br (romB (x,s,d,p,b,f,n) m) (br (okC (x,s,d,p,b,f,n)&&decide (m≤120)) (br (decide ((↑(frL (x,s,d,p,b,f,n).2.2.1 (x,s,d,p,b,f,n).2.2.2.2.2.1 m).length:Int) > 16)) (br (decide (IntKind.i64.wrap (IntKind.i64.wrap (m - 13) - IntKind.i64.wrap ((↑d.length:Int)+1))≥32)) (R (some ⟨vB (decide ((↑d.length:Int) < 48)),[],[]⟩)) (R (some ⟨vB false,[],[]⟩))) (R (some ⟨vB false,[],[]⟩))) False) (R (some ⟨vB false,[],[]⟩))) False):=by kernel_rfl
theorem h21:G1Ok Tryz.prog 21 g20:=by
  intro args obs k h
  unfold g20 at h
  split at h
  · rename_i k us m
    split at h
    rotate_left
    · exact h.elim
    rename_i c hc
    obtain rfl:=coreOf_inv hc
    obtain ⟨x,s,d,p,b,f,n⟩:=c
    obtain ⟨hp,h⟩:=br_and h
    refine ⟨_,ctr_fn okf hg21 Tryz.func21 (by kernel_rfl) (by kernel_rfl) (by kernel_rfl) fun C => ?_,h⟩
    show bodyP Ef G21 _ Tryz.f21 [coreAV x s d p b f n,.val (.int .i64 m)] [] _
    rw [e21]
    refine br_t hp (br_intro (fun h1 => ?_) (fun h1 => ?_))
    · obtain ⟨hk,hm⟩:=rom_ok h1 hp
      have hdl:d.length≤1048576:=by
        unfold okC at hk
        rw [Bool.and_eq_true] at hk
        exact smCo_d hk.1
      have hl:(frL d f m).length≤(m - 13).toNat:=frP_len d f _
      refine br_t (by rw [hk,decide_eq_true hm]; rfl) (br_dec (fun h2 => ?_) (fun h2 => ?_))
      · have h2:((frL d f m).length:Int) > 16:=h2
        rw [wrap_id (n:=m - 13) (by omega) (by omega),wrap_id (n:=(d.length:Int)+1) (by omega) (by omega),wrap_id (n:=m - 13 - ((d.length:Int)+1)) (by omega) (by omega)]
        refine br_dec (fun h3 => ?_) (fun h3 => ?_)
        · show (some ⟨.val (.bool (decide ((d.length:Int) < 48))),[],[]⟩:Option Res)=some ⟨.val (.bool (romB (x,s,d,p,b,f,n) m&&mayB d f m)),[],[]⟩
          unfold mayB
          rw [h1,decide_eq_true (show (frL d f m).length > 16 by omega),decide_eq_true (show m - 13 - d.length - 1≥32 by omega),Bool.true_and,Bool.true_and,Bool.true_and,show decide ((d.length:Int) < 48)=decide (d.length < 48) from decide_eq_decide.2 (by omega)]
        · show (some ⟨.val (.bool false),[],[]⟩:Option Res)=some ⟨.val (.bool (romB (x,s,d,p,b,f,n) m&&mayB d f m)),[],[]⟩
          unfold mayB
          rw [decide_eq_false (show ¬ m - 13 - d.length - 1≥32 by omega),Bool.false_and,Bool.and_false,Bool.and_false]
      · have h2 : ¬ ((frL d f m).length:Int) > 16:=h2
        show (some ⟨.val (.bool false),[],[]⟩:Option Res)=some ⟨.val (.bool (romB (x,s,d,p,b,f,n) m&&mayB d f m)),[],[]⟩
        unfold mayB
        rw [decide_eq_false (show ¬ (frL d f m).length > 16 by omega),Bool.false_and,Bool.and_false]
    · show (some ⟨.val (.bool false),[],[]⟩:Option Res)=some ⟨.val (.bool (romB (x,s,d,p,b,f,n) m&&mayB d f m)),[],[]⟩
      rw [h1]
      rfl
  · exact h.elim
abbrev coreOwn(x:Int)(b:Bool)(n:Int)(i j k l:Nat):AV := .agg [.val (.int .i64 x),.ows i,.ows j,.ows k,.val (.bool b),.ows l,.val (.int .i64 n)]
def g228:G1
  | [.agg us],[],k=>match coreOf us with
    | some c=>br (smCo c) (k ⟨coreOwn c.1 c.2.2.2.2.1 c.2.2.2.2.2.2 0 1 2 3,[.row kc c.2.1,.row k3 c.2.2.1,.row k3 c.2.2.2.1,.row ki c.2.2.2.2.2.1],[]⟩) False
    | none=>False
  | _,_,_=>False
noncomputable def G228:Gk:=gk [(238,g238)]
theorem hg228:HG Tryz.prog G228:=(hg_cons h238 hg_nil)
theorem e228(L:Lp)(R:Rp)(x:Int)(s:List (Elem kc))(d p:List (Elem k3))(b:Bool)(f:List (Elem ki))(n:Int):(bodyP Ef G228 L Tryz.f228 [coreAV x s d p b f n] [] R)=(
    br (decide ((0+s.length) * 264≤140737488355328)) (br (decide (d.length≤1048576)) (br (decide ((0+p.length) * 24≤140737488355328)) (br (decide ((0+f.length) * 8≤140737488355328)) (R (some ⟨.agg [vI x,.ows 0,.ows 1,.ows 2,vB b,.ows 3,vI n],[.row kc ([]++s),.row k3 d,.row k3 ([]++p),.row ki ([]++f)],[]⟩)) False) False) False) False):=by kernel_rfl
theorem h228:G1Ok Tryz.prog 228 g228:=by
  intro args obs k h
  unfold g228 at h
  split at h
  · rename_i k us
    split at h
    rotate_left
    · exact h.elim
    rename_i c hc
    obtain rfl:=coreOf_inv hc
    obtain ⟨x,s,d,p,b,f,n⟩:=c
    obtain ⟨hp,h⟩:=br_and h
    refine ⟨_,ctr_fn okf hg228 Tryz.func228 (by kernel_rfl) (by kernel_rfl) (by kernel_rfl) fun C => ?_,h⟩
    show bodyP Ef G228 _ Tryz.f228 [coreAV x s d p b f n] [] _
    rw [e228]
    have hp':=hp
    simp only [smCo,Bool.and_eq_true,decide_eq_true_eq] at hp'
    refine br_yes (by omega) (br_yes (by omega) (br_yes (by omega) (br_yes (by omega) ?_)))
    rw [List.nil_append,List.nil_append,List.nil_append]
  · exact h.elim
noncomputable def E295:Env:=Ef.of Tryz.f295
noncomputable def G295:Gk:=gk [(312,g312)]
noncomputable def lp295(n:Nat):Code:=(loopOf n (codeOf Tryz.f295)).getD .skip
noncomputable def ct295(L:Lp)(R:Rp)(n:Nat):Kt:=contOf E295 G295 L n (codeOf Tryz.f295) (endK E295 Tryz.f295.results.toList R)
noncomputable def rk295(L:Lp)(R:Rp)(n:Nat)(N:St→Prop):Kt:=rk (jof E295 (lp295 n)) N (ct295 L R n)
noncomputable def LOOP295(L:Lp)(R:Rp)(n:Nat)(st:St):Prop:=L (lp295 n) st (ct295 L R n)
theorem hg295:HG Tryz.prog G295:=(hg_cons h312 hg_nil)
theorem okf295:Ok Tryz.prog E295:=okf.of Tryz.f295
theorem e295(L:Lp)(R:Rp)(d:List (Elem k3)):(bodyP Ef G295 L Tryz.f295 [.rsl k3 d] [] R)=(
    LOOP295 L R 3 ⟨(.rsl k3 d :: vJ :: vJ :: .ows 0 :: vI 0 :: jn 25 []),[(0,.row ks [])],1000000,[]⟩):=by kernel_rfl
def st295(d:List (Elem k3))(ys:List (Elem ks))(i:Int):St :=  ⟨(AV.rsl k3 d :: vJ :: vJ :: AV.ows 0 :: .val (.int .i64 i) :: jn 25 []),[(0,.row ks ys)],1000000,[]⟩
theorem b295(L:Lp)(R:Rp)(N:St→Prop)(d:List (Elem k3))(ys:List (Elem ks))(i:Int):(evP E295 G295 L (lp295 3) (st295 d ys i) (rk295 L R 3 N))=(
    br (decide (i < (↑d.length:Int))) (br (decide (IntKind.i64.wrap (i+6) > (↑d.length:Int))) (br (decide (0≤i∧i≤(↑d.length:Int)∧(↑d.length:Int)≤(↑d.length:Int)∧(↑d.length:Int)≤(↑d.length:Int))) (br (decide ((List.drop i.toNat (List.take (↑d.length:Int).toNat d)).length≤1048576)) (br (decide ((ys.length + [(ddtT (List.drop i.toNat (List.take (↑d.length:Int).toNat d)),())].length) * 16≤140737488355328)) (N (st295 d (ys ++ [(ddtT (List.drop i.toNat (List.take (↑d.length:Int).toNat d)),())]) (IntKind.i64.wrap (i+6)))) False) False) False) (br (decide (0≤i∧i≤IntKind.i64.wrap (i+6)∧IntKind.i64.wrap (i+6)≤(↑d.length:Int)∧(↑d.length:Int)≤(↑d.length:Int))) (br (decide ((List.drop i.toNat (List.take (IntKind.i64.wrap (i+6)).toNat d)).length≤1048576)) (br (decide ((ys.length + [(ddtT (List.drop i.toNat (List.take (IntKind.i64.wrap (i+6)).toNat d)),())].length) * 16≤140737488355328)) (N (st295 d (ys ++ [(ddtT (List.drop i.toNat (List.take (IntKind.i64.wrap (i+6)).toNat d)),())]) (IntKind.i64.wrap (i+6)))) False) False) False)) (R (some ⟨.ows 0,[.row ks ys],[]⟩))):=by kernel_rfl
theorem joinT_le(m:Nat) : ∀ (n:Nat) (ys:List (Elem ks)),ys.length=n→(∀ e∈ys,e.1.size≤m)→(joinT ys ⟨#[32]⟩).size≤n * (m+1)
  | 0,ys,hn,_=>by
    rw [List.length_eq_zero_iff.1 hn]
    exact Nat.zero_le _
  | n+1,ys,hn,h=>by
    have hne:ys ≠ []:=fun e=>by rw [e] at hn; cases hn
    obtain ⟨zs,t,rfl⟩ : ∃ zs t,ys=zs ++ [(t,())]:=⟨ys.dropLast,(ys.getLast hne).1,(List.dropLast_concat_getLast hne).symm⟩
    have hz:zs.length=n:=by simpa using hn
    have ht:=h (t,()) (by simp)
    have ht:t.size≤m:=ht
    have ih:=joinT_le m n zs hz (fun e he=>h e (by simp [he]))
    by_cases e:zs = []
    · subst e
      rw [List.nil_append,joinT_one]
      have:(n+1) * (m+1)≥1 * (m+1):=Nat.mul_le_mul_right _ (by omega)
      omega
    · rw [joinT_snoc _ _ _ e,ByteArray.size_append,ByteArray.size_append]
      have:(⟨#[32]⟩:ByteArray).size=1:=rfl
      rw [Nat.add_mul]
      omega
theorem ddtT_le(L:List (Elem k3)):(ddtT L).size≤4800000:=by
  unfold ddtT
  split
  · rename_i hd
    have h48:=ddtOk_len hd
    have hl:(entS L).length=L.length:=by unfold entS; rw [List.length_map]
    refine Nat.le_trans (joinT_le 99999 L.length (entS L) hl (fun e he => ?_)) (by omega)
    unfold entS at he
    obtain ⟨x,hx,rfl⟩:=List.mem_map.1 he
    obtain ⟨j,hj,rfl⟩:=List.getElem_of_mem hx
    obtain ⟨a,b,c⟩:=ddtOk_ent hd hj
    rw [List.getD_eq_getElem?_getD,List.getElem?_eq_getElem hj] at a b c
    have h1:=ent_size a
    have h2:=ent_size b
    have h3:=ent_size c
    have h46:(⟨#[46]⟩:ByteArray).size=1:=rfl
    show (entT L[j]).size≤_
    unfold entT
    rw [ByteArray.size_append,ByteArray.size_append,ByteArray.size_append,ByteArray.size_append]
    simp only [Option.getD_some] at h1 h2 h3
    omega
  · exact Nat.zero_le _
abbrev qPt(d:List (Elem k3))(x:List (Elem ks)):Prop:=x.length≤d.length ∧ ∀ e∈x,e.1.size≤4800000
theorem ptE{d:List (Elem k3)}(hp:decide (d.length≤1048576)=true) : ∃ x:List (Elem ks),qPt d x∧Ctr Tryz.prog 295 [.rsl k3 d] [] ⟨.ows 0,[.row ks x],[]⟩:=by
  refine ex_ctr (form:=fun x:List (Elem ks)=>⟨.ows 0,[.row ks x],[]⟩) okf hg295 Tryz.func295 (by kernel_rfl) (by kernel_rfl) (by kernel_rfl) ?_
  simp only [e295]
  have hp:=of_decide_eq_true hp
  refine ex_loop okf295 hg295 (fun y:List (Elem ks) × Nat=>st295 d y.1 (y.2:Int)) (fun y=>d.length - y.2) (fun y=>(y.1.length≤y.2∧y.1.length≤d.length) ∧ ∀ e∈y.1,e.1.size≤4800000) (fun ⟨ys,i⟩ ⟨⟨h0,h1⟩,h2⟩ next => ?_) ([],0) ⟨⟨Nat.zero_le _,Nat.zero_le _⟩,fun e he=>by cases he⟩
  show Got _ (fun C p=>evP E295 G295 _ (lp295 3) (st295 d ys (i:Int)) (rk295 _ _ 3 _))
  have h0:ys.length≤i:=h0
  have h1:ys.length≤d.length:=h1
  simp only [b295]
  refine ex_dec (fun h3 => ?_) (fun h3 => ?_)
  · have hw:IntKind.i64.wrap ((i:Int)+6)=(i:Int)+6:=wrap_id (by omega) (by omega)
    have more : ∀ t:ByteArray,t.size≤4800000 → ∀ e∈ys ++ [((t,()):Elem ks)],e.1.size≤4800000:=fun t ht e he=>by
      rcases List.mem_append.1 he with h | h
      · exact h2 e h
      · obtain rfl:e=(t,()):=by simpa using h
        exact ht
    have hlen : ∀ t:ByteArray,(ys ++ [((t,()):Elem ks)]).length=ys.length+1:=fun t=>by rw [List.length_append]; rfl
    simp only [hw]
    refine ex_dec (fun h4=>ex_yes ⟨by omega,by omega,by omega,by omega⟩ (ex_yes ?_ (ex_yes ?_ ?_))) (fun h4=>ex_yes ⟨by omega,by omega,by omega,by omega⟩ (ex_yes ?_ (ex_yes ?_ ?_)))
    · rw [List.length_drop,List.length_take]; omega
    · show (ys.length+1) * 16≤_; omega
    · refine next (ys ++ [_],i+6) ⟨⟨?_,?_⟩,more _ (ddtT_le _)⟩ (by show d.length - (i+6) < d.length - i; omega)
      · show (ys ++ [_]).length≤i+6; rw [hlen]; omega
      · show (ys ++ [_]).length≤d.length; rw [hlen]; omega
    · rw [List.length_drop,List.length_take]; omega
    · show (ys.length+1) * 16≤_; omega
    · refine next (ys ++ [_],i+6) ⟨⟨?_,?_⟩,more _ (ddtT_le _)⟩ (by show d.length - (i+6) < d.length - i; omega)
      · show (ys ++ [_]).length≤i+6; rw [hlen]; omega
      · show (ys ++ [_]).length≤d.length; rw [hlen]; omega
  · exact ex_end (x:=(ys,0)) ⟨h1,h2⟩ fun C=>wk_rfl _
noncomputable def ptF(d:List (Elem k3)):List (Elem ks):=pick fun x:List (Elem ks)=>qPt d x∧Ctr Tryz.prog 295 [.rsl k3 d] [] ⟨.ows 0,[.row ks x],[]⟩
theorem ptF_ok{d:List (Elem k3)}(hp:decide (d.length≤1048576)=true):qPt d (ptF d)∧Ctr Tryz.prog 295 [.rsl k3 d] [] ⟨.ows 0,[.row ks (ptF d)],[]⟩:=pick_ok (ptE hp)
noncomputable def g295:G1
  | [.rsl [.int .i64,.int .i64,.int .i64] d],[],k=>br (decide (d.length≤1048576)) (k ⟨.ows 0,[.row ks (ptF d)],[]⟩) False
  | _,_,_=>False
theorem h295:G1Ok Tryz.prog 295 g295:=by
  intro args obs k h
  unfold g295 at h
  split at h
  · rename_i k d
    obtain ⟨hp,h⟩:=br_and h
    exact ⟨_,(ptF_ok hp).2,h⟩
  · exact h.elim
noncomputable def E264:Env:=Ef.of Tryz.f264
noncomputable def G264:Gk:=gk [(295,g295)]
noncomputable def lp264(n:Nat):Code:=(loopOf n (codeOf Tryz.f264)).getD .skip
noncomputable def ct264(L:Lp)(R:Rp)(n:Nat):Kt:=contOf E264 G264 L n (codeOf Tryz.f264) (endK E264 Tryz.f264.results.toList R)
noncomputable def rk264(L:Lp)(R:Rp)(n:Nat)(N:St→Prop):Kt:=rk (jof E264 (lp264 n)) N (ct264 L R n)
noncomputable def LOOP264(L:Lp)(R:Rp)(n:Nat)(st:St):Prop:=L (lp264 n) st (ct264 L R n)
theorem hg264:HG Tryz.prog G264:=(hg_cons h295 hg_nil)
theorem okf264:Ok Tryz.prog E264:=okf.of Tryz.f264
theorem e264(L:Lp)(R:Rp)(x:Int)(s:List (Elem kc))(d p:List (Elem k3))(b:Bool)(f:List (Elem ki))(n:Int):(bodyP Ef G264 L Tryz.f264 [coreAV x s d p b f n] [] R)=(
    LOOP264 L R 3 ⟨(vJ :: .ptr 0 0 :: vJ :: vI 1 :: vI 0 :: jn 24 []),[(0,.box [vI x,.rsl kc s,.rsl k3 d,.rsl k3 p,vB b,.rsl ki f,vI n])],1000000,[]⟩):=by kernel_rfl
def st264(x:Int)(s:List (Elem kc))(d p:List (Elem k3))(b:Bool)(f:List (Elem ki))(n:Int)(m i:Int):St :=  ⟨(vJ :: AV.ptr 0 0 :: vJ :: .val (.int .i64 m) :: .val (.int .i64 i) :: jn 24 []),[(0,AO.box [vI x,AV.rsl kc s,AV.rsl k3 d,AV.rsl k3 p,vB b,AV.rsl ki f,vI n])],1000000,[]⟩
theorem b264(L:Lp)(R:Rp)(N:St→Prop)(x:Int)(s:List (Elem kc))(d p:List (Elem k3))(b:Bool)(f:List (Elem ki))(n:Int)(m i:Int):(evP E264 G264 L (lp264 3) (st264 x s d p b f n m i) (rk264 L R 3 N))=(
    br (decide (i < (↑s.length:Int))) (br (decide (0≤i∧i < (↑s.length:Int))) (br (s.getD i.toNat (edflt kc)).2.2.2.2.2.2.2.2.2.2.2.2.2.2.2.2.2.2.2.2.2.2.2.2.2.2.2.2.2.2.1 (N (st264 x s d p b f n (IntKind.i64.wrap (m+1)) (IntKind.i64.wrap (i+1)))) (N (st264 x s d p b f n m (IntKind.i64.wrap (i+1))))) False) (br b (br (decide (d.length≤1048576)) (R (some ⟨vI (IntKind.i64.wrap (m+(↑(ptF d).length:Int))),[],[]⟩)) False) (R (some ⟨vI m,[],[]⟩)))):=by kernel_rfl

end Go.Proofs.YtkjnijddbiconaaGreatDoor.Ev