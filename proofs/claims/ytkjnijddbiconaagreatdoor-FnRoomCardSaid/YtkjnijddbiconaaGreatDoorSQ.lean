/- A store that is played: a call, what it comes to. -/
import Derived.Test.YtkjnijddbiconaaGreatDoorSP
namespace Go.Proofs.YtkjnijddbiconaaGreatDoor.Ev
open Go
set_option linter.unusedVariables false
set_option linter.unusedSimpArgs false
set_option maxRecDepth 100000
set_option linter.constructorNameAsVariable false
abbrev fmC1(y:Sx):Res:=⟨.tup [.agg [.ows 0,.ows 1,.ows 2],coreOwn y.x y.b y.n 3 4 5 6,.val (.int .i64 0)],[.row ks y.u,.row ks y.v,.row kl y.w,.row kc y.s,.row k3 y.d,.row k3 y.p,.row ki y.f],[]⟩
abbrev fmC0(y:Sx):Res:=⟨.tup [.agg [vj,vj,vj],.agg [vj,vj,vj,vj,vj,vj,vj],.val (.int .i64 y.code)],[],[]⟩
def clB(a b0:List (Elem ks))(c0:List (Elem kl))(c:Co)(A C:ByteArray):Bool:=fitB a b0 c0&&(fcB 6 c&&(decide (A.size≤1000000)&&decide (C.size≤1000000)))
def fmCl(y:Sx × Bool):Res:=match y.2 with
  | true=>fmC1 y.1
  | false=>fmC0 y.1
theorem fmCl_mem(y:Sx × Bool):noMem depth (fmCl y).av=true:=by
  obtain ⟨y,c⟩:=y
  cases c<;>rfl
theorem fmCl_row(y:Sx × Bool):rowsB (fmCl y).obs=true:=by
  obtain ⟨y,c⟩:=y
  cases c<;>rfl
def qCl(y:Sx × Bool):Prop:=(y.2=true→fitS' 6 y.1)∧(y.2=false→(y.1.code==0)=false)
theorem qCl_no{k:Int}(h:(k != 0)=true):qCl (⟨[],[],[],0,[],[],[],false,[],0,k⟩,false):=by
  refine ⟨fun h=>(nomatch h),fun _ => ?_⟩
  show (k==0)=false
  simpa using h
theorem do_ok{xs:List (Elem kb)}{o:Int}{A C:ByteArray}{i:Int}{t:ByteArray}(h:((doR xs o A C i t).2 != 0)=false) :
    (o==1)=true∨okB xs A=true∧((o==3)=true∧(0≤i∧i≤7)∧t.size≤24∨(o==3)=false∧((o==5)=true∨(o==4)=true∨okB xs C=true)):=by
  unfold doR at h
  split at h
  · rename_i h1; exact .inl h1
  · split at h
    · simp at h
    · rename_i h2
      split at h
      · simp at h
      · rename_i h3
        split at h
        · simp at h
        · refine .inr ⟨h3,?_⟩
          split at h
          · rename_i h5
            refine .inl ⟨h5,?_⟩
            unfold ptR at h
            split at h
            · simp at h
            · rename_i h6
              simp at h6
              omega
          · rename_i h5
            refine .inr ⟨h5,?_⟩
            split at h
            · rename_i h6
              unfold bkR at h
              split at h
              · simp at h
              · rename_i h7; exact .inr (.inr h7)
            · split at h
              · rename_i h6; exact .inl h6
              · rename_i h4 h6 h7
                refine .inr (.inl ?_)
                simp at *
                omega
theorem kl_ok{xs:List (Elem kb)}{o:Int}{A:ByteArray}(h:klS xs o A=true):(o==2)=true∧okB xs A=true:=by
  unfold klS at h
  rw [Bool.and_eq_true,Bool.and_eq_true] at h
  exact ⟨h.1,h.2.1⟩
theorem bkS_len(s:List (Elem kc)):(bkS s).length=s.length:=by unfold bkS; rw [List.length_map]
theorem r83_end{C':Cx}{c:Code}{st:St}{r:Res}(h:evP E183 G183 (LoopOk Tryz.prog C') c st (kk83 (fun o=>Wd o r))):RunTo Tryz.prog C' c Tryz.f183 r st:=runTo_end (J := [0,1]) okf183 hg183 h
theorem r83_cut{C':Cx}{c:Code}{st:St}{r:Res}(hs:seqs 7 c=true)(h:evP E183 G183 (LoopOk Tryz.prog C') (preC 7 c) st (rk jj83 (RunTo Tryz.prog C' (afterC 7 c) Tryz.f183 r) (kk83 (fun o=>Wd o r)))):RunTo Tryz.prog C' c Tryz.f183 r st:=runTo_cut (J := [0,1]) okf183 hg183 6 hs jj83 h
theorem clE2{a b0:List (Elem ks)}{c0:List (Elem kl)}{x:Int}{s:List (Elem kc)}{d p:List (Elem k3)}{b:Bool}{f:List (Elem ki)}{n:Int}{o:Int}{A C:ByteArray}{i:Int}{t:ByteArray}{u v:List (Elem ks)}{w:List (Elem kl)}{x2:Int}{s2:List (Elem kc)}{d2 p2:List (Elem k3)}{b2:Bool}{f2:List (Elem ki)}{n2:Int}(hF:fitD u v w)(h1:s2.length≤6)(hl:s2.length=s.length)(h2:d2.length≤100)(h3:p2.length≤100)(h4:f2.length≤1001)(h5:smCs s2=true)(hC:smCo (x,s,d,p,b,f,n)=true)
    (hA:A.size≤1000000) (hk:lnB (bkS s) A < s.length) (hi:0≤i∧i≤7) (ht:t.size≤24):Got qCl (fun C' y=>RunTo Tryz.prog C' (afterC 7 (codeOf Tryz.f183)) Tryz.f183 (fmCl y) (sB a b0 c0 x s d p b f n o A C i t u v w x2 s2 d2 p2 b2 f2 n2)):=by
  refine got_map (T:=fun C' y=>evP E183 G183 (LoopOk Tryz.prog C') (afterC 7 (codeOf Tryz.f183)) (sB a b0 c0 x s d p b f n o A C i t u v w x2 s2 d2 p2 b2 f2 n2) (kk83 (fun r=>Wd r (fmCl y)))) ?_ (fun C' y=>r83_end (c:=afterC 7 (codeOf Tryz.f183)) (st:=sB a b0 c0 x s d p b f n o A C i t u v w x2 s2 d2 p2 b2 f2 n2) (r:=fmCl y))
  simp only [pB]
  have hC2:smCo (x2,s2,d2,p2,b2,f2,n2)=true:=by
    unfold smCo
    simp only [Bool.and_eq_true,decide_eq_true_eq]
    exact ⟨⟨⟨by omega,by omega⟩,by omega⟩,by omega⟩
  have hq:0≤(lnB (bkS s) A:Int)∧(lnB (bkS s) A:Int) < (s2.length:Int):=by omega
  have hT:=(tnF_ok (x:=x2) (b:=b2) (n:=n2) (p:=p2) (f:=f2) (t:=t) hF hC2 h2 (by omega) h5 hq hi).1
  have no : ∀ {q:Int} (us:List AV) (vs:List AV) (os:List AO),us.length=3→allOne us=true→vs.length=7→allOne vs=true→(q != 0)=true→Got qCl (fun C' y=>Wd (some ⟨.tup [.agg us,.agg vs,.val (.int .i64 q)],os,[]⟩) (fmCl y)) :=
    fun us vs os h1 o1 h2 o2 hq=>ex_end (qCl_no hq) fun C'=>wd_drop fun S σ v h=>tup3_drop (agg_cel h1 o1) (agg_cel h2 o2) val_drop v h
  have hbk:=bkS_len s
  generalize tnF u v w x2 s2 d2 p2 b2 f2 n2 (lnB (bkS s) A:Int) i t=z at *
  obtain ⟨z1,z2,z3,z4,z5⟩:=hT
  have fz:fitB z.u z.v z.w=true:=fitB_iff.2 z1
  have fu:fitB u v w=true:=fitB_iff.2 hF
  have dA:decide (A.size≤1048576)=true:=decide_eq_true (by omega)
  have hpre:(fitB u v w&&(decide (d2.length≤100)&&(decide (t.size≤4611686018427387904)&&(smCo (x2,s2,d2,p2,b2,f2,n2)&&(smCs s2&&(decide (0≤(lnB (bkS s) A:Int)∧(lnB (bkS s) A:Int) < (s2.length:Int))&&decide (0≤i∧i≤7)))))))=true:=by
    rw [fu,hC2,h5,decide_eq_true h2,decide_eq_true hq,decide_eq_true hi,decide_eq_true (by omega)]; rfl
  repeat' (first
    | exact no _ _ _ rfl rfl rfl rfl (by assumption)
    | exact (Bool.false_ne_true (Eq.trans (Eq.symm (by assumption:(z.code != 0)=false)) (z5 (by assumption)))).elim
    | exact no _ _ _ rfl rfl rfl rfl rfl
    | exact no _ _ _ rfl rfl rfl rfl (z5 (by assumption))
    | exact ex_end (x:=((⟨_,_,_,_,_,_,_,_,_,_,0⟩:Sx),true)) ⟨fun _=>⟨(puF_ok z1 dA).1,Nat.le_trans (Nat.le_of_eq z2) h1,z4,h3,h4,z3⟩,fun h=>nomatch h⟩ (fun C'=>wd_rfl _)
    | exact ex_end (x:=((⟨_,_,_,_,_,_,_,_,_,_,0⟩:Sx),true)) ⟨fun _=>⟨(pvF_ok hF dA).1,Nat.le_trans (Nat.le_of_eq z2) h1,z4,h3,h4,z3⟩,fun h=>nomatch h⟩ (fun C'=>wd_rfl _)
    | refine ex_t hC ?_
    | refine ex_t hpre ?_
    | refine ex_t (by rw [fz,dA]; rfl) ?_
    | refine ex_t (by rw [fu,dA]; rfl) ?_
    | refine ex_yes (show (bkS s).length≤1048576 by omega) ?_
    | refine ex_intro (fun h => ?_) (fun h => ?_))
theorem ns_mk{x:Int}{s:List (Elem kc)}{d p:List (Elem k3)}{b:Bool}{f:List (Elem ki)}{n:Int}{o:Int}{A C:ByteArray}(hs:smCs s=true)(hl:s.length≤100)(hd:d.length≤100)(hC:smCo (x,s,d,p,b,f,n)=true)(hA:A.size≤1000000)(hB:C.size≤1000000)(hk:(o==1)=true∨okB (bkS s) A=true)(hj:(o==1)=true∨(o==2)=true∨(o==4)=true∨(o==5)=true∨okB (bkS s) C=true):nsB x s d p b f n o A C=true:=by
  have hbk:=bkS_len s
  unfold nsB
  rw [hs,hC,decide_eq_true hl,decide_eq_true hd,decide_eq_true (show A.size≤1048576 by omega),decide_eq_true (show C.size≤1048576 by omega)]
  simp only [Bool.true_and,Bool.and_eq_true,Bool.or_eq_true,decide_eq_true_eq]
  refine ⟨?_,?_⟩
  · rcases hk with h | h
    · exact .inl h
    · have:=okB_lt h; exact .inr (by omega)
  · rcases hj with h | h | h | h | h
    · exact .inl (.inl (.inl (.inl h)))
    · exact .inl (.inl (.inl (.inr h)))
    · exact .inl (.inl (.inr h))
    · exact .inl (.inr h)
    · have:=okB_lt h; exact .inr (by omega)
theorem clE{a b0:List (Elem ks)}{c0:List (Elem kl)}{x:Int}{s:List (Elem kc)}{d p:List (Elem k3)}{b:Bool}{f:List (Elem ki)}{n:Int}{o:Int}{A C:ByteArray}{i:Int}{t:ByteArray}(h:clB a b0 c0 (x,s,d,p,b,f,n) A C=true) : ∃ y,qCl y∧Ctr Tryz.prog 183 [.agg [.rsl ks a,.rsl ks b0,.rsl kl c0],coreAV x s d p b f n,.agg [.val (.int .i64 o),.val (.string A),.val (.string C),.val (.int .i64 i),.val (.string t)]] [] (fmCl y):=by
  unfold clB at h
  simp only [Bool.and_eq_true,decide_eq_true_eq] at h
  obtain ⟨fB,h6,hA,hB⟩:=h
  have hF:=fitB_iff.1 fB
  obtain ⟨h1,h2,h3,h4,h5⟩:=fcB_iff.1 h6
  have hC:smCo (x,s,d,p,b,f,n)=true:=by
    unfold smCo
    simp only [Bool.and_eq_true,decide_eq_true_eq]
    exact ⟨⟨⟨by omega,by omega⟩,by omega⟩,by omega⟩
  have hbk:=bkS_len s
  refine ex_runTo (form:=fmCl) Tryz.func183 (by kernel_rfl) (by kernel_rfl) (by kernel_rfl) ?_
  refine got_map (T:=fun C' y=>evP E183 G183 (LoopOk Tryz.prog C') (preC 7 (codeOf Tryz.f183)) (initSt Tryz.f183.ntmps [.agg [.rsl ks a,.rsl ks b0,.rsl kl c0],coreAV x s d p b f n,.agg [.val (.int .i64 o),.val (.string A),.val (.string C),.val (.int .i64 i),.val (.string t)]] []) (rk jj83 (RunTo Tryz.prog C' (afterC 7 (codeOf Tryz.f183)) Tryz.f183 (fmCl y)) (kk83 (fun r=>Wd r (fmCl y))))) ?_ (fun C' y h=>r83_cut (by kernel_rfl) h)
  simp only [pA]
  have no : ∀ {q:Int} (us:List AV) (vs:List AV) (os:List AO),us.length=3→allOne us=true→vs.length=7→allOne vs=true→(q != 0)=true→Got qCl (fun C' y=>Wd (some ⟨.tup [.agg us,.agg vs,.val (.int .i64 q)],os,[]⟩) (fmCl y)) :=
    fun us vs os h1 o1 h2 o2 hq=>ex_end (qCl_no hq) fun C'=>wd_drop fun S σ v h=>tup3_drop (agg_cel h1 o1) (agg_cel h2 o2) val_drop v h
  have hdo:(decide ((bkS s).length≤100)&&(decide (A.size≤1000000)&&decide (C.size≤1000000)))=true:=by
    rw [decide_eq_true hA,decide_eq_true hB,decide_eq_true (show (bkS s).length≤100 by omega)]; rfl
  have com : ∀ c:Co,fcB 101 c=true→Got qCl (fun C' y=>Wd (some ⟨.tup [.agg [.ows 0,.ows 1,.ows 2],coreOwn (cdF a b0 c0 c).x (cdF a b0 c0 c).b (cdF a b0 c0 c).n 3 4 5 6,.val (.int .i64 (cdF a b0 c0 c).code)],[.row ks (cdF a b0 c0 c).u,.row ks (cdF a b0 c0 c).v,.row kl (cdF a b0 c0 c).w,.row kc (cdF a b0 c0 c).s,.row k3 (cdF a b0 c0 c).d,.row k3 (cdF a b0 c0 c).p,.row ki (cdF a b0 c0 c).f],[]⟩) (fmCl y)):=by
    intro c hc
    obtain ⟨⟨g1,g2,g3,g4,g5,g6⟩,g7⟩:=(cdF_ok fB hc).1
    generalize cdF a b0 c0 c=z at *
    by_cases hz:z.code=0
    · rw [hz]
      exact ex_end (x:=(z,true)) ⟨fun _=>⟨g1,(g7 hz).1,g3,g4,g5,g6⟩,fun h=>nomatch h⟩ fun C'=>wd_rfl _
    · exact no _ _ _ rfl rfl rfl rfl (by simpa using hz)
  have np:nsB x s d p b f n o A C=true→(fitB a b0 c0&&fcB 101 (x,(nsF x s d p b f n o A C i t).s,(nsF x s d p b f n o A C i t).d,p,(nsF x s d p b f n o A C i t).b,(f,n)))=true:=fun hn=>by
    obtain ⟨q1,q2,q3⟩:=(nsF_ok (i:=i) (t:=t) hn).1
    rw [fB,fcB_iff.2 ⟨by omega,q3,h3,h4,q2⟩]; rfl
  have hself:(fitB a b0 c0&&fcB 101 (x,s,d,p,b,f,n))=true:=by
    rw [fB,fcB_iff.2 ⟨by omega,h2,h3,h4,h5⟩]; rfl
  have up:fcB 101 (x,s,d,p,b,f,n)=true:=fcB_iff.2 ⟨by omega,h2,h3,h4,h5⟩
  refine ex_t hC (ex_t hdo (ex_intro (fun hK => ?_) (fun hK=>ex_intro (fun hc=>no _ _ _ rfl rfl rfl rfl hc) (fun hc => ?_))))
  · obtain ⟨k1,k2⟩:=kl_ok hK
    have hn:=ns_mk (b:=b) (n:=n) (x:=x) (p:=p) (f:=f) h5 (by omega) h2 hC hA hB (.inr k2) (.inr (.inl k1))
    have ho:o=2:=by simpa using k1
    refine ex_t (by rw [ho]; rfl) (ex_t hC (ex_t hn (ex_not (fun _=>no _ _ _ rfl rfl rfl rfl rfl) (fun _=>ex_t (np hn) (com _ ?_)))))
    have:=np hn
    rw [Bool.and_eq_true] at this
    exact this.2
  · have hd:=do_ok hc
    refine ex_intro (fun h33 => ?_) (fun h33 => ?_)
    · have n3:(o==3)=false:=by simpa using h33
      have hn:nsB x s d p b f n o A C=true:=by
        rcases hd with hd | ⟨k2,hd⟩
        · exact ns_mk h5 (by omega) h2 hC hA hB (.inl hd) (.inl hd)
        · rcases hd with ⟨hd,_⟩ | ⟨_,hd⟩
          · rw [hd] at n3; cases n3
          · refine ns_mk h5 (by omega) h2 hC hA hB (.inr k2) ?_
            rcases hd with hd | hd | hd
            · exact .inr (.inr (.inr (.inl hd)))
            · exact .inr (.inr (.inl hd))
            · exact .inr (.inr (.inr (.inr hd)))
      refine ex_t hC (ex_t hn (ex_not (fun _=>no _ _ _ rfl rfl rfl rfl rfl) (fun _=>ex_t (np hn) (com _ ?_))))
      have:=np hn
      rw [Bool.and_eq_true] at this
      exact this.2
    · have ho:o=3:=by simpa using h33
      have hd:okB (bkS s) A=true∧(0≤i∧i≤7)∧t.size≤24:=by
        rcases hd with hd | ⟨k2,hd⟩
        · rw [ho] at hd; cases hd
        · rcases hd with ⟨_,h1,h2⟩ | ⟨hd,_⟩
          · exact ⟨k2,h1,h2⟩
          · rw [ho] at hd; cases hd
      obtain ⟨k1,k2,k3⟩:=hd
      have hk:lnB (bkS s) A < s.length:=by have:=okB_lt k1; omega
      refine ex_intro (fun h8=>ex_t hself (ex_intro (fun hz=>no _ _ _ rfl rfl rfl rfl hz) (fun hz => ?_))) (fun h8 => ?_)
      · obtain ⟨⟨g1,g2,g3,g4,g5,g6⟩,g7⟩:=(cdF_ok fB up).1
        have hz:(cdF a b0 c0 (x,s,d,p,b,f,n)).code=0:=by simpa using hz
        obtain ⟨y,hy,h⟩:=clE2 (a:=a) (b0:=b0) (c0:=c0) (o:=o) (C:=C) (x2:=(cdF a b0 c0 (x,s,d,p,b,f,n)).x) (b2:=(cdF a b0 c0 (x,s,d,p,b,f,n)).b) (n2:=(cdF a b0 c0 (x,s,d,p,b,f,n)).n) g1 (g7 hz).1 (g7 hz).2 g3 g4 g5 g6 hC hA hk k2 k3
        exact ⟨y,hy,fun C'=>runTo_fh (by kernel_rfl) (fmCl_mem y) (fmCl_row y) h⟩
      · obtain ⟨y,hy,h⟩:=clE2 (a:=a) (b0:=b0) (c0:=c0) (o:=o) (C:=C) (x2:=x) (b2:=b) (n2:=n) hF h1 rfl h2 h3 h4 h5 hC hA hk k2 k3
        exact ⟨y,hy,fun C'=>runTo_fh (by kernel_rfl) (fmCl_mem y) (fmCl_row y) h⟩
noncomputable def clF(a b0:List (Elem ks))(c0:List (Elem kl))(x:Int)(s:List (Elem kc))(d p:List (Elem k3))(b:Bool)(f:List (Elem ki))(n:Int)(o:Int)(A C:ByteArray)(i:Int)(t:ByteArray):Sx × Bool:=pick fun y:Sx × Bool=>qCl y∧Ctr Tryz.prog 183 [.agg [.rsl ks a,.rsl ks b0,.rsl kl c0],coreAV x s d p b f n,.agg [.val (.int .i64 o),.val (.string A),.val (.string C),.val (.int .i64 i),.val (.string t)]] [] (fmCl y)
theorem clF_ok{a b0:List (Elem ks)}{c0:List (Elem kl)}{x:Int}{s:List (Elem kc)}{d p:List (Elem k3)}{b:Bool}{f:List (Elem ki)}{n:Int}{o:Int}{A C:ByteArray}{i:Int}{t:ByteArray}(h:clB a b0 c0 (x,s,d,p,b,f,n) A C=true):qCl (clF a b0 c0 x s d p b f n o A C i t)∧Ctr Tryz.prog 183 [.agg [.rsl ks a,.rsl ks b0,.rsl kl c0],coreAV x s d p b f n,.agg [.val (.int .i64 o),.val (.string A),.val (.string C),.val (.int .i64 i),.val (.string t)]] [] (fmCl (clF a b0 c0 x s d p b f n o A C i t)):=pick_ok (clE h)
noncomputable def g183:G1
  | [.agg [.rsl [.str] a,.rsl [.str] b0,.rsl [.int .i64,.int .i64,.str] c0],.agg us,.agg [.val (.int .i64 o),.val (.string A),.val (.string C),.val (.int .i64 i),.val (.string t)]],[],k=>match coreOf us with
    | some (x,s,d,p,b,f,n)=>br (clB a b0 c0 (x,s,d,p,b,f,n) A C) (br (clF a b0 c0 x s d p b f n o A C i t).2 (k (fmC1 (clF a b0 c0 x s d p b f n o A C i t).1)) (k (fmC0 (clF a b0 c0 x s d p b f n o A C i t).1))) False
    | none=>False
  | _,_,_=>False
theorem h183:G1Ok Tryz.prog 183 g183:=by
  intro args obs k h
  unfold g183 at h
  split at h
  · split at h
    rotate_left
    · exact h.elim
    rename_i hs
    cases coreOf_inv hs
    obtain ⟨hp,h⟩:=br_and h
    refine ⟨_,(clF_ok hp).2,?_⟩
    unfold fmCl
    split
    · rename_i ho
      rw [ho] at h
      exact h
    · rename_i ho
      rw [ho] at h
      exact h
  · exact h.elim
end Go.Proofs.YtkjnijddbiconaaGreatDoor.Ev
