/- The law of CoreOk. -/
import Derived.Test.YtkjnijddbiconaaGreatDoorWE
namespace Go.Proofs.YtkjnijddbiconaaGreatDoor.Ev
open Go
set_option linter.unusedVariables false
set_option linter.unusedSimpArgs false
set_option maxRecDepth 100000
set_option maxHeartbeats 1000000
def g133:G1
  | [.agg us],[],k=>match elemOf kc us with
    | some e=>br (smC e) (k ⟨.val (.bool (!setV e)),[],[]⟩) False
    | none=>False
  | _,_,_=>False
def smCs(s:List (Elem kc)):Bool:=decide (s.length≤1048576)&&s.all smC
def g198:G1
  | [.rsl cx xs0,.fn 133 []],[],k=>match castE kc cx xs0 with
    | some xs=>br (smCs xs) (k ⟨.val (.int .i64 (fIx xs.length fun i => !setV (atC xs i))),[],[]⟩) False
    | none=>False
  | _,_,_=>False
def g132:G1
  | [.rsl cx xs0,.fn 133 []],[],k=>match castE kc cx xs0 with
    | some xs=>br (smCs xs) (k ⟨.val (.bool (anyB xs.length fun i => !setV (atC xs i))),[],[]⟩) False
    | none=>False
  | _,_,_=>False
def coreOk(x:Int)(s:List (Elem kc))(d p:List (Elem k3))(f:List (Elem ki))(n:Int):Bool :=
  (decide (0≤x)&&decide (x≤1000000))&&(ddtOk d&&(decide ((p.length:Int)≤8)&&(plcs f&&((decide (0≤n)&&decide (n≤8))&&((allB s.length fun i=>setV (atC s i))&&((allB p.length fun i=>rOk (atP p i))&&(bookOk (bkS s)&&(cntS d s&&(ptsOf s).all (sumK d)))))))))
def smB'(c:Co):Bool:=smCo c&&smCs c.2.1
def g39:G1
  | [.agg us],[],k=>match coreOf us with
    | some c=>br (smB' c) (k ⟨.val (.bool (coreOk c.1 c.2.1 c.2.2.1 c.2.2.2.1 c.2.2.2.2.2.1 c.2.2.2.2.2.2)),[],[]⟩) False
    | none=>False
  | _,_,_=>False
theorem cok_x{x:Int}{s:List (Elem kc)}{d p:List (Elem k3)}{f:List (Elem ki)}{n:Int}(h:(decide (0≤x)&&decide (x≤1000000))=false):coreOk x s d p f n=false:=by
  unfold coreOk
  rw [h]
  simp only [Bool.and_false,Bool.false_and]
theorem cok_d{x:Int}{s:List (Elem kc)}{d p:List (Elem k3)}{f:List (Elem ki)}{n:Int}(h:ddtOk d=false):coreOk x s d p f n=false:=by
  unfold coreOk
  rw [h]
  simp only [Bool.and_false,Bool.false_and]
theorem cok_p{x:Int}{s:List (Elem kc)}{d p:List (Elem k3)}{f:List (Elem ki)}{n:Int}(h:decide ((p.length:Int)≤8)=false):coreOk x s d p f n=false:=by
  unfold coreOk
  rw [h]
  simp only [Bool.and_false,Bool.false_and]
theorem cok_f{x:Int}{s:List (Elem kc)}{d p:List (Elem k3)}{f:List (Elem ki)}{n:Int}(h:plcs f=false):coreOk x s d p f n=false:=by
  unfold coreOk
  rw [h]
  simp only [Bool.and_false,Bool.false_and]
theorem cok_n{x:Int}{s:List (Elem kc)}{d p:List (Elem k3)}{f:List (Elem ki)}{n:Int}(h:(decide (0≤n)&&decide (n≤8))=false):coreOk x s d p f n=false:=by
  unfold coreOk
  rw [h]
  simp only [Bool.and_false,Bool.false_and]
theorem cok_s{x:Int}{s:List (Elem kc)}{d p:List (Elem k3)}{f:List (Elem ki)}{n:Int}(h:(allB s.length fun i=>setV (atC s i))=false):coreOk x s d p f n=false:=by
  unfold coreOk
  rw [h]
  simp only [Bool.and_false,Bool.false_and]
theorem cok_r{x:Int}{s:List (Elem kc)}{d p:List (Elem k3)}{f:List (Elem ki)}{n:Int}(h:(allB p.length fun i=>rOk (atP p i))=false):coreOk x s d p f n=false:=by
  unfold coreOk
  rw [h]
  simp only [Bool.and_false,Bool.false_and]
theorem cok_b{x:Int}{s:List (Elem kc)}{d p:List (Elem k3)}{f:List (Elem ki)}{n:Int}(h:bookOk (bkS s)=false):coreOk x s d p f n=false:=by
  unfold coreOk
  rw [h]
  simp only [Bool.and_false,Bool.false_and]
theorem cok_c{x:Int}{s:List (Elem kc)}{d p:List (Elem k3)}{f:List (Elem ki)}{n:Int}(h:cntS d s=false):coreOk x s d p f n=false:=by
  unfold coreOk
  rw [h]
  simp only [Bool.and_false,Bool.false_and]
theorem cok_t{x:Int}{s:List (Elem kc)}{d p:List (Elem k3)}{f:List (Elem ki)}{n:Int}(h1:(decide (0≤x)&&decide (x≤1000000))=true)(h2:ddtOk d=true)(h3:decide ((p.length:Int)≤8)=true)(h4:plcs f=true)(h5:(decide (0≤n)&&decide (n≤8))=true)(h6:(allB s.length fun i=>setV (atC s i))=true)(h7:(allB p.length fun i=>rOk (atP p i))=true)(h8:bookOk (bkS s)=true):coreOk x s d p f n=(cntS d s&&(ptsOf s).all (sumK d)):=by
  unfold coreOk
  rw [h1,h2,h3,h4,h5,h6,h7,h8]
  simp only [Bool.true_and]
theorem smCs_len{s:List (Elem kc)}(h:smCs s=true):s.length≤1048576:=by
  unfold smCs at h
  rw [Bool.and_eq_true] at h
  exact of_decide_eq_true h.1
theorem smCs_at{s:List (Elem kc)}(h:smCs s=true){i:Nat}(hi:i < s.length):smC (atC s i)=true:=by
  unfold smCs at h
  rw [Bool.and_eq_true] at h
  exact all_at h.2 (edflt kc) hi
theorem smB_bk{s:List (Elem kc)}(h:smCs s=true):smB (bkS s)=true:=by
  have hl:=smCs_len h
  unfold smCs at h
  rw [Bool.and_eq_true,List.all_eq_true] at h
  unfold smB bkS
  rw [Bool.and_eq_true,decide_eq_true_eq,List.length_map,List.all_eq_true]
  refine ⟨hl,fun e he => ?_⟩
  obtain ⟨c,hc,rfl⟩:=List.mem_map.1 he
  have:=h.2 c hc
  unfold smC at this
  rw [Bool.and_eq_true] at this
  exact this.1
theorem rng_l{x a b:Int}(h:x < a):(decide (a≤x)&&decide (x≤b))=false:=by rw [decide_eq_false (show ¬ a≤x by omega)]; rfl
theorem rng_h{x a b:Int}(h:x > b):(decide (a≤x)&&decide (x≤b))=false:=by rw [decide_eq_false (show ¬ x≤b by omega),Bool.and_false]
theorem rng_t{x a b:Int}(h : ¬ x < a)(h2 : ¬ x > b):(decide (a≤x)&&decide (x≤b))=true:=by rw [decide_eq_true (show a≤x by omega),decide_eq_true (show x≤b by omega)]; rfl
theorem rng_f{x a b:Int}(h:(decide (a≤x)&&decide (x≤b))=false):x < a∨x > b:=by
  rw [Bool.and_eq_false_iff,decide_eq_false_iff_not,decide_eq_false_iff_not] at h
  omega
theorem rng_i{x a b:Int}(h:(decide (a≤x)&&decide (x≤b))=true):a≤x∧x≤b:=by
  rw [Bool.and_eq_true,decide_eq_true_eq,decide_eq_true_eq] at h
  exact h
noncomputable def G133:Gk:=gk [(134,g108)]
theorem hg133:HG Tryz.prog G133:=(hg_cons h134 hg_nil)
theorem e133(L:Lp)(R:Rp)(e:Elem kc):(bodyP Ef G133 L Tryz.f133 [.agg (setK e)] [] R)=(
    br (smC e) (R (some ⟨vB !setV e,[],[]⟩)) False):=by kernel_rfl
theorem h133:G1Ok Tryz.prog 133 g133:=by
  intro args obs k h
  unfold g133 at h
  split at h
  · rename_i k us
    split at h
    rotate_left
    · exact h.elim
    rename_i e he
    obtain rfl:=elemOf_inv he
    obtain ⟨hs,h⟩:=br_and h
    refine ⟨_,ctr_fn okf hg133 Tryz.func133 (by kernel_rfl) (by kernel_rfl) (by kernel_rfl) fun C => ?_,h⟩
    show bodyP Ef G133 _ Tryz.f133 [.agg (setK e)] [] _
    rw [e133]
    exact br_t hs rfl
  · exact h.elim
noncomputable def E198:Env:=Ef.of Tryz.f198
noncomputable def G198:Gk:=gk [(133,g133)]
noncomputable def lp198(n:Nat):Code:=(loopOf n (codeOf Tryz.f198)).getD .skip
noncomputable def ct198(L:Lp)(R:Rp)(n:Nat):Kt:=contOf E198 G198 L n (codeOf Tryz.f198) (endK E198 Tryz.f198.results.toList R)
noncomputable def rk198(L:Lp)(R:Rp)(n:Nat)(N:St→Prop):Kt:=rk (jof E198 (lp198 n)) N (ct198 L R n)
noncomputable def LOOP198(L:Lp)(R:Rp)(n:Nat)(st:St):Prop:=L (lp198 n) st (ct198 L R n)
theorem hg198:HG Tryz.prog G198:=(hg_cons h133 hg_nil)
theorem okf198:Ok Tryz.prog E198:=okf.of Tryz.f198
theorem e198(L:Lp)(R:Rp)(xs:List (Elem kc)):(bodyP Ef G198 L Tryz.f198 [.rsl kc xs,.fn 133 []] [] R)=(
    LOOP198 L R 2 ⟨[.rsl kc xs,.fn 133 [],vJ,vJ,vJ,vJ,vJ,vI (↑xs.length:Int),vI 0,vJ,vJ,vJ,vJ,vJ,vJ,vJ,vJ,vJ,vJ],[],1000000,[]⟩):=by kernel_rfl
def st198(xs:List (Elem kc))(i:Int):St :=  ⟨[AV.rsl kc xs,AV.fn 133 [],vJ,vJ,vJ,vJ,vJ,vI (↑xs.length:Int),.val (.int .i64 i),vJ,vJ,vJ,vJ,vJ,vJ,vJ,vJ,vJ,vJ],[],1000000,[]⟩
theorem b198(L:Lp)(R:Rp)(N:St→Prop)(xs:List (Elem kc))(i:Int):(evP E198 G198 L (lp198 2) (st198 xs i) (rk198 L R 2 N))=(
    br (decide (i < (↑xs.length:Int))) (br (decide (0≤i∧i < (↑xs.length:Int))) (br (smC (xs.getD i.toNat (edflt kc))) (br (!setV (xs.getD i.toNat (edflt kc))) (R (some ⟨vI i,[],[]⟩)) (N ⟨[.rsl kc xs,.fn 133 [],vJ,vJ,vJ,vJ,vJ,vI (↑xs.length:Int),vI (IntKind.i64.wrap (i+1)),vJ,vJ,vJ,vJ,vJ,vJ,vJ,vJ,vJ,vJ],[],1000000,[]⟩)) False) False) (R (some ⟨vI (-1),[],[]⟩))):=by kernel_rfl
theorem h198:G1Ok Tryz.prog 198 g198:=by
  intro args obs k h
  unfold g198 at h
  split at h
  · rename_i k cx xs0
    split at h
    rotate_left
    · exact h.elim
    rename_i xs hx
    cases castE_inv hx
    obtain ⟨hs,h⟩:=br_and h
    have hl:=smCs_len hs
    refine ⟨_,ctr_fn okf hg198 Tryz.func198 (by kernel_rfl) (by kernel_rfl) (by kernel_rfl) fun C => ?_,h⟩
    rw [e198]
    refine loopFind okf198 hg198 (fun i=>st198 xs i) xs.length (fun i => !setV (atC xs i)) (by omega) (fun N i hi hw next found none => ?_)
    show evP E198 G198 _ (lp198 2) (st198 xs i) (rk198 _ _ 2 _)
    rw [b198,hw,Int.toNat_natCast]
    refine br_dec (fun h2=>br_yes ⟨by omega,h2⟩ (br_t (smCs_at hs (by omega)) (br_intro (fun h3 => ?_) (fun h3 => ?_)))) (fun h2 => ?_)
    · show _=_
      rw [found (by omega) h3]
    · exact next (by omega) h3
    · show _=_
      rw [none (by omega)]
  · exact h.elim
noncomputable def G132:Gk:=gk [(198,g198)]
theorem hg132:HG Tryz.prog G132:=(hg_cons h198 hg_nil)
theorem e132(L:Lp)(R:Rp)(xs:List (Elem kc)):(bodyP Ef G132 L Tryz.f132 [.rsl kc xs,.fn 133 []] [] R)=(
    br (smCs xs) (R (some ⟨vB (decide ((fIx xs.length fun i => !setV (atC xs i))≥0)),[],[]⟩)) False):=by kernel_rfl
theorem h132:G1Ok Tryz.prog 132 g132:=by
  intro args obs k h
  unfold g132 at h
  split at h
  · rename_i k cx xs0
    split at h
    rotate_left
    · exact h.elim
    rename_i xs hx
    cases castE_inv hx
    obtain ⟨hs,h⟩:=br_and h
    refine ⟨_,ctr_fn okf hg132 Tryz.func132 (by kernel_rfl) (by kernel_rfl) (by kernel_rfl) fun C => ?_,h⟩
    rw [e132]
    refine br_t hs ?_
    show _=_
    rw [fIx_ge]
  · exact h.elim
noncomputable def E39:Env:=Ef.of Tryz.f39
noncomputable def G39:Gk:=gk [(46,g112),(107,g107),(108,g108),(109,g195),(96,g96),(80,g80),(110,g110),(111,g111)]
noncomputable def lp39(n:Nat):Code:=(loopOf n (codeOf Tryz.f39)).getD .skip
noncomputable def ct39(L:Lp)(R:Rp)(n:Nat):Kt:=contOf E39 G39 L n (codeOf Tryz.f39) (endK E39 Tryz.f39.results.toList R)
noncomputable def rk39(L:Lp)(R:Rp)(n:Nat)(N:St→Prop):Kt:=rk (jof E39 (lp39 n)) N (ct39 L R n)
noncomputable def LOOP39(L:Lp)(R:Rp)(n:Nat)(st:St):Prop:=L (lp39 n) st (ct39 L R n)
theorem hg39:HG Tryz.prog G39:=(hg_cons h46 (hg_cons h107 (hg_cons h108 (hg_cons h109 (hg_cons h96 (hg_cons h80 (hg_cons h110 (hg_cons h111 hg_nil))))))))
theorem okf39:Ok Tryz.prog E39:=okf.of Tryz.f39
theorem e39(L:Lp)(R:Rp)(x:Int)(s:List (Elem kc))(d p:List (Elem k3))(b:Bool)(f:List (Elem ki))(n:Int):(bodyP Ef G39 L Tryz.f39 [coreAV x s d p b f n] [] R)=(
    br (decide (x < 0)) (R (some ⟨vB false,[],[]⟩)) (br (decide (x > 1000000)) (R (some ⟨vB false,[],[]⟩)) (br (decide (d.length≤1048576)) (br (!ddtOk d) (R (some ⟨vB false,[],[]⟩)) (br (decide ((↑p.length:Int) > 8)) (R (some ⟨vB false,[],[]⟩)) (br (decide (f.length≤1048576)) (br (!plcs f) (R (some ⟨vB false,[],[]⟩)) (br (decide (n < 0)) (R (some ⟨vB false,[],[]⟩)) (br (decide (n > 8)) (R (some ⟨vB false,[],[]⟩)) (LOOP39 L R 4 ⟨(vJ :: .ptr 0 0 :: vJ :: vI 0 :: jn 85 []),[(0,.box [vI x,.rsl kc s,.rsl k3 d,.rsl k3 p,vB b,.rsl ki f,vI n])],1000000,[]⟩)))) False))) False))):=by kernel_rfl
def st39(x:Int)(s:List (Elem kc))(d p:List (Elem k3))(b:Bool)(f:List (Elem ki))(n:Int)(i:Int):St :=  ⟨(vJ :: AV.ptr 0 0 :: vJ :: .val (.int .i64 i) :: jn 85 []),[(0,AO.box [vI x,AV.rsl kc s,AV.rsl k3 d,AV.rsl k3 p,vB b,AV.rsl ki f,vI n])],1000000,[]⟩
theorem b39(L:Lp)(R:Rp)(N:St→Prop)(x:Int)(s:List (Elem kc))(d p:List (Elem k3))(b:Bool)(f:List (Elem ki))(n:Int)(i:Int):(evP E39 G39 L (lp39 4) (st39 x s d p b f n i) (rk39 L R 4 N))=(
    br (decide (i < (↑s.length:Int))) (br (decide (0≤i∧i < (↑s.length:Int))) (br (smC (s.getD i.toNat (edflt kc))) (br (!setV (s.getD i.toNat (edflt kc))) (R (some ⟨vB false,[],[]⟩)) (N (st39 x s d p b f n (IntKind.i64.wrap (i+1))))) False) False) (LOOP39 L R 9 ⟨(vJ :: .ptr 0 0 :: vJ :: vJ :: vI 0 :: jn 84 []),[(0,.box [vI x,.rsl kc s,.rsl k3 d,.rsl k3 p,vB b,.rsl ki f,vI n])],1000000,[]⟩)):=by kernel_rfl
def sp13(x:Int)(s:List (Elem kc))(d p:List (Elem k3))(b:Bool)(f:List (Elem ki))(n:Int)(i:Int):St :=  ⟨(vJ :: AV.ptr 0 0 :: vJ :: vJ :: .val (.int .i64 i) :: jn 84 []),[(0,AO.box [vI x,AV.rsl kc s,AV.rsl k3 d,AV.rsl k3 p,vB b,AV.rsl ki f,vI n])],1000000,[]⟩
theorem bp13(L:Lp)(R:Rp)(N:St→Prop)(x:Int)(s:List (Elem kc))(d p:List (Elem k3))(b:Bool)(f:List (Elem ki))(n:Int)(i:Int):(evP E39 G39 L (lp39 9) (sp13 x s d p b f n i) (rk39 L R 9 N))=(
    br (decide (i < (↑p.length:Int))) (br (decide (0≤i∧i < (↑p.length:Int))) (br (!ptrOk (p.getD i.toNat (edflt k3)).1 (p.getD i.toNat (edflt k3)).2.1 (p.getD i.toNat (edflt k3)).2.2.1) (R (some ⟨vB false,[],[]⟩)) (br (decide (0≤i∧i < (↑p.length:Int))) (br ((p.getD i.toNat (edflt k3)).1==0) (R (some ⟨vB false,[],[]⟩)) (N (sp13 x s d p b f n (IntKind.i64.wrap (i+1))))) False)) False) (br (smCo (x,s,d,p,b,f,n)) (br (smB (bkS (x,s,d,p,b,f,n).2.1)) (br (bookOk (bkS (x,s,d,p,b,f,n).2.1)) (br (smCo (x,s,d,p,b,f,n)&&ddtOk (x,s,d,p,b,f,n).2.2.1) (br (cntS (x,s,d,p,b,f,n).2.2.1 (x,s,d,p,b,f,n).2.1) (br (smCo (x,s,d,p,b,f,n)) (R (some ⟨vB ((ptsOf (x,s,d,p,b,f,n).2.1).all (sumK (x,s,d,p,b,f,n).2.2.1)),[],[]⟩)) False) (R (some ⟨vB false,[],[]⟩))) False) (R (some ⟨vB false,[],[]⟩))) False) False)):=by kernel_rfl
theorem rOk_1{e:Elem k3}(h:pOk e=false):rOk e=false:=by unfold rOk realP; unfold pOk at h; rw [h]; rfl
theorem rOk_2{e:Elem k3}(h:(e.1==0)=true):rOk e=false:=by unfold rOk realP bne; rw [h,Bool.not_true,Bool.and_false]
theorem rOk_3{e:Elem k3}(h:pOk e=true)(h2:(e.1==0)=false):rOk e=true:=by unfold rOk realP bne; unfold pOk at h; rw [h,h2]; rfl
theorem pts_ok{s:List (Elem kc)}(h:(allB s.length fun i=>setV (atC s i))=true) : ∀ q∈ptsOf s,pOk q=true:=by
  intro q hq
  unfold ptsOf at hq
  rw [List.mem_flatMap] at hq
  obtain ⟨e,he,hq⟩:=hq
  obtain ⟨i,hi,rfl⟩:=List.getElem_of_mem he
  have h1:=allB_at h hi
  have e1:atC s i=s[i]:=by unfold atC; rw [List.getD_eq_getElem?_getD,List.getElem?_eq_getElem hi]; rfl
  rw [e1] at h1
  unfold setV at h1
  rw [Bool.and_eq_true] at h1
  obtain ⟨j,hj,rfl⟩:=List.getElem_of_mem hq
  have h2:=allB_at h1.2 (show j < 8 from hj)
  unfold atP at h2
  rw [List.getD_eq_getElem?_getD,List.getElem?_eq_getElem hj] at h2
  exact h2
theorem h39:G1Ok Tryz.prog 39 g39:=by
  intro args obs k h
  unfold g39 at h
  split at h
  · rename_i k us
    split at h
    rotate_left
    · exact h.elim
    rename_i c hc
    obtain rfl:=coreOf_inv hc
    obtain ⟨x,s,d,p,b,f,n⟩:=c
    obtain ⟨hpp,h⟩:=br_and h
    unfold smB' at hpp
    rw [Bool.and_eq_true] at hpp
    obtain ⟨hp,hcs⟩:=hpp
    have hcs:smCs s=true:=hcs
    have hl:=smCo_s hp
    have hdl:=smCo_d hp
    have hpl:=smCo_p hp
    have hfl:=smCo_f hp
    refine ⟨_,ctr_fn okf hg39 Tryz.func39 (by kernel_rfl) (by kernel_rfl) (by kernel_rfl) fun C => ?_,h⟩
    show bodyP Ef G39 _ Tryz.f39 [coreAV x s d p b f n] [] _
    rw [e39]
    refine br_dec (fun h1 => ?_) (fun h1=>br_dec (fun h2 => ?_) (fun h2=>br_yes hdl (br_not (fun h3 => ?_) (fun h3=>br_dec (fun h4 => ?_) (fun h4=>br_yes hfl (br_not (fun h5 => ?_) (fun h5=>br_dec (fun h6 => ?_) (fun h6=>br_dec (fun h7 => ?_) (fun h7 => ?_)))))))))
    · show _=_
      rw [cok_x (rng_l h1)]
    · show _=_
      rw [cok_x (rng_h h2)]
    · show _=_
      rw [cok_d h3]
    · show _=_
      rw [cok_p (decide_eq_false (show ¬ (p.length:Int)≤8 by omega))]
    · show _=_
      rw [cok_f h5]
    · show _=_
      rw [cok_n (rng_l h6)]
    · show _=_
      rw [cok_n (rng_h h7)]
    refine loopAll okf39 hg39 (fun i=>st39 x s d p b f n i) s.length (fun i=>setV (atC s i)) (by omega) (fun N i hi hw next fails done => ?_)
    show evP E39 G39 _ (lp39 4) (st39 x s d p b f n i) (rk39 _ _ 4 _)
    rw [b39,hw,Int.toNat_natCast]
    refine br_dec (fun h8=>br_yes ⟨by omega,h8⟩ (br_t (smCs_at hcs (by omega)) (br_not (fun h9 => ?_) (fun h9=>next (by omega) h9)))) (fun h8 => ?_)
    · show _=_
      rw [cok_s (fails (by omega) h9)]
    have hS:=done (by omega)
    refine loopAll okf39 hg39 (fun i=>sp13 x s d p b f n i) p.length (fun i=>rOk (atP p i)) (by omega) (fun N2 j hj hw2 next2 fails2 done2 => ?_)
    show evP E39 G39 _ (lp39 9) (sp13 x s d p b f n j) (rk39 _ _ 9 _)
    rw [bp13,hw2,Int.toNat_natCast]
    refine br_dec (fun g1=>br_yes ⟨by omega,g1⟩ (br_not (fun g2 => ?_) (fun g2=>br_yes ⟨by omega,g1⟩ (br_intro (fun g3 => ?_) (fun g3 => ?_))))) (fun g1 => ?_)
    · show _=_
      rw [cok_r (fails2 (by omega) (rOk_1 g2))]
    · show _=_
      rw [cok_r (fails2 (by omega) (rOk_2 g3))]
    · exact next2 (by omega) (rOk_3 g2 g3)
    · have hR:=done2 (by omega)
      refine br_t hp (br_t (smB_bk hcs) (br_intro (fun g2=>br_t (show (smCo (x,s,d,p,b,f,n)&&ddtOk d)=true by rw [hp,h3]; rfl) (br_intro (fun g3=>br_t hp ?_) (fun g3 => ?_))) (fun g2 => ?_)))
      · show _=_
        have g3:cntS d s=true:=g3
        rw [cok_t (rng_t h1 h2) h3 (decide_eq_true (show (p.length:Int)≤8 by omega)) h5 (rng_t h6 h7) hS hR g2,g3]
        rfl
      · show _=_
        rw [cok_c g3]
      · show _=_
        rw [cok_b g2]
  · exact h.elim
noncomputable def E58:Env:=Ef.of Tryz.f58
noncomputable def G58:Gk:=gk [(129,g129),(112,g112),(130,g130r),(132,g132),(85,g80),(99,g96),(135,g135)]
noncomputable def lp58(n:Nat):Code:=(loopOf n (codeOf Tryz.f58)).getD .skip
noncomputable def ct58(L:Lp)(R:Rp)(n:Nat):Kt:=contOf E58 G58 L n (codeOf Tryz.f58) (endK E58 Tryz.f58.results.toList R)
noncomputable def rk58(L:Lp)(R:Rp)(n:Nat)(N:St→Prop):Kt:=rk (jof E58 (lp58 n)) N (ct58 L R n)
noncomputable def LOOP58(L:Lp)(R:Rp)(n:Nat)(st:St):Prop:=L (lp58 n) st (ct58 L R n)
theorem hg58:HG Tryz.prog G58:=(hg_cons h129 (hg_cons h112 (hg_cons h130r (hg_cons h132 (hg_cons h85 (hg_cons h99 (hg_cons h135 hg_nil)))))))
theorem okf58:Ok Tryz.prog E58:=okf.of Tryz.f58
theorem e58(L:Lp)(R:Rp)(x:Int)(s:List (Elem kc))(d p:List (Elem k3))(b:Bool)(f:List (Elem ki))(n:Int):(bodyP Ef G58 L Tryz.f58 [coreAV x s d p b f n] [] R)=(
    br (!(decide (0≤x)&&decide (x≤1000000))) (R (some ⟨vB false,[],[]⟩)) (br (decide (d.length≤1048576)) (br (!ddtOk d) (R (some ⟨vB false,[],[]⟩)) (br (decide ((↑p.length:Int) > 8)) (R (some ⟨vB false,[],[]⟩)) (br (decide (p.length≤1048576)) (br (anyB p.length fun i => !rOk (atP p i)) (R (some ⟨vB false,[],[]⟩)) (br (!(decide (0≤n)&&decide (n≤8))) (R (some ⟨vB false,[],[]⟩)) (LOOP58 L R 4 ⟨(vJ :: .ptr 0 0 :: jn 31 (.rsl ki f :: vI (↑f.length:Int) :: vI 0 :: jn 35 [])),[(0,.box [vI x,.rsl kc s,.rsl k3 d,.rsl k3 p,vB b,.rsl ki f,vI n])],1000000,[]⟩))) False))) False)):=by kernel_rfl
def st58(x:Int)(s:List (Elem kc))(d p:List (Elem k3))(b:Bool)(f:List (Elem ki))(n:Int)(i:Int):St :=  ⟨(vJ :: AV.ptr 0 0 :: jn 31 (AV.rsl ki f :: vI (↑f.length:Int) :: .val (.int .i64 i) :: jn 35 [])),[(0,AO.box [vI x,AV.rsl kc s,AV.rsl k3 d,AV.rsl k3 p,vB b,AV.rsl ki f,vI n])],1000000,[]⟩
theorem b58(L:Lp)(R:Rp)(N:St→Prop)(x:Int)(s:List (Elem kc))(d p:List (Elem k3))(b:Bool)(f:List (Elem ki))(n:Int)(i:Int):(evP E58 G58 L (lp58 4) (st58 x s d p b f n i) (rk58 L R 4 N))=(
    br (decide (i < (↑f.length:Int))) (br (decide (0≤i∧i < (↑f.length:Int))) (br (!(decide (13≤(f.getD i.toNat (edflt ki)).1)&&decide ((f.getD i.toNat (edflt ki)).1≤119))) (R (some ⟨vB false,[],[]⟩)) (br (decide (i > 0)) (br (decide (0≤IntKind.i64.wrap (i - 1)∧IntKind.i64.wrap (i - 1) < (↑f.length:Int))) (br (decide ((f.getD (IntKind.i64.wrap (i - 1)).toNat (edflt ki)).1≥(f.getD i.toNat (edflt ki)).1)) (R (some ⟨vB false,[],[]⟩)) (N ⟨(vJ :: .ptr 0 0 :: jn 31 (.rsl ki f :: vI (↑f.length:Int) :: vI (IntKind.i64.wrap (i+1)) :: jn 35 [])),[(0,.box [vI x,.rsl kc s,.rsl k3 d,.rsl k3 p,vB b,.rsl ki f,vI n])],1000000,[]⟩)) False) (N ⟨(vJ :: .ptr 0 0 :: jn 31 (.rsl ki f :: vI (↑f.length:Int) :: vI (IntKind.i64.wrap (i+1)) :: jn 35 [])),[(0,.box [vI x,.rsl kc s,.rsl k3 d,.rsl k3 p,vB b,.rsl ki f,vI n])],1000000,[]⟩))) False) (br (smCs s) (br (!anyB s.length fun i => !setV (atC s i)) (br (smCo (x,s,d,p,b,f,n)) (br (smB (bkS (x,s,d,p,b,f,n).2.1)) (br (bookOk (bkS (x,s,d,p,b,f,n).2.1)) (br (smCo (x,s,d,p,b,f,n)) (R (some ⟨vB (cntI (x,s,d,p,b,f,n).2.2.1 (x,s,d,p,b,f,n).2.1),[],[]⟩)) False) (R (some ⟨vB false,[],[]⟩))) False) False) (R (some ⟨vB false,[],[]⟩))) False)):=by kernel_rfl
theorem anyN{n:Nat}{q:Nat→Bool}:(anyB n fun i => !q i) = !allB n q:=by
  rw [anyB_all]
  congr 1
  exact allB_congr fun i _=>by rw [Bool.not_not]
theorem h58:G1Ok Tryz.prog 58 g39:=by
  intro args obs k h
  unfold g39 at h
  split at h
  · rename_i k us
    split at h
    rotate_left
    · exact h.elim
    rename_i c hc
    obtain rfl:=coreOf_inv hc
    obtain ⟨x,s,d,p,b,f,n⟩:=c
    obtain ⟨hpp,h⟩:=br_and h
    unfold smB' at hpp
    rw [Bool.and_eq_true] at hpp
    obtain ⟨hp,hcs⟩:=hpp
    have hcs:smCs s=true:=hcs
    have hl:=smCo_s hp
    have hdl:=smCo_d hp
    have hpl:=smCo_p hp
    have hfl:=smCo_f hp
    refine ⟨_,ctr_fn okf hg58 Tryz.func58 (by kernel_rfl) (by kernel_rfl) (by kernel_rfl) fun C => ?_,h⟩
    show bodyP Ef G58 _ Tryz.f58 [coreAV x s d p b f n] [] _
    rw [e58,anyN]
    refine br_not (fun h1 => ?_) (fun h1=>br_yes hdl (br_not (fun h3 => ?_) (fun h3=>br_dec (fun h4 => ?_) (fun h4=>br_yes hpl (br_not (fun h5 => ?_) (fun h5=>br_not (fun h6 => ?_) (fun h6 => ?_)))))))
    · show _=_
      rw [cok_x h1]
    · show _=_
      rw [cok_d h3]
    · show _=_
      rw [cok_p (decide_eq_false (show ¬ (p.length:Int)≤8 by omega))]
    · show _=_
      rw [cok_r h5]
    · show _=_
      rw [cok_n h6]
    refine loopAll okf58 hg58 (fun i=>st58 x s d p b f n i) f.length (plc1 f) (by omega) (fun N i hi hw next fails done => ?_)
    show evP E58 G58 _ (lp58 4) (st58 x s d p b f n i) (rk58 _ _ 4 _)
    rw [b58,hw,Int.toNat_natCast,anyN]
    refine br_dec (fun h8=>br_yes ⟨by omega,h8⟩ (br_not (fun h9 => ?_) (fun h9=>br_dec (fun g1 => ?_) (fun g1 => ?_)))) (fun h8 => ?_)
    · show _=_
      rw [cok_f (fails (by omega) (by rcases rng_f (x:=atI f i) h9 with g | g; exact plc_l g; exact plc_h (by omega)))]
    · have h9:=rng_i (x:=atI f i) h9
      rw [ix_pred g1 (by omega),Int.toNat_natCast]
      refine br_yes ⟨by omega,by omega⟩ (br_dec (fun g2 => ?_) (fun g2 => ?_))
      · show _=_
        rw [cok_f (fails (by omega) (plc_o g1 g2))]
      · exact next (by omega) (plc_t (by omega) (by omega) (.inr (Int.not_le.1 g2)))
    · have h9:=rng_i (x:=atI f i) h9
      exact next (by omega) (plc_t (by omega) (by omega) (.inl (by omega)))
    · have hF:plcs f=true:=done (by omega)
      refine br_t hcs (br_not (fun g1=>br_t hp (br_t (smB_bk hcs) (br_intro (fun g2=>br_t hp ?_) (fun g2 => ?_)))) (fun g1 => ?_))
      · have hS:(allB s.length fun i=>setV (atC s i))=true:=by cases hh:allB s.length fun i=>setV (atC s i) with | true=>rfl | false=>rw [hh] at g1; cases g1
        show _=_
        rw [cok_t h1 h3 (decide_eq_true (show (p.length:Int)≤8 by omega)) hF h6 hS h5 g2,← cnt_eqv h3 (pts_ok hS)]
      · show _=_
        rw [cok_b g2]
      · have hS:(allB s.length fun i=>setV (atC s i))=false:=by cases hh:allB s.length fun i=>setV (atC s i) with | true=>rw [hh] at g1; cases g1 | false=>rfl
        show _=_
        rw [cok_s hS]
  · exact h.elim
end Go.Proofs.YtkjnijddbiconaaGreatDoor.Ev
