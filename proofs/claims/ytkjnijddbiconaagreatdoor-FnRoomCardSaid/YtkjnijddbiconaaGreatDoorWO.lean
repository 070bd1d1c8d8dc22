/- A store that is drawn: what is known of it in the end. -/
import Derived.Test.YtkjnijddbiconaaGreatDoorST
import Derived.Test.YtkjnijddbiconaaGreatDoorWF
import Derived.Test.YtkjnijddbiconaaGreatDoorWH
namespace Go.Proofs.YtkjnijddbiconaaGreatDoor.Ev
open Go
set_option linter.unusedVariables false
set_option linter.unusedSimpArgs false
set_option linter.constructorNameAsVariable false
set_option maxRecDepth 100000
structure Dq where
  u:List (Elem ks)
  v:List (Elem ks)
  w:List (Elem kl)
  x:Int
  s:List (Elem kc)
  d:List (Elem k3)
  p:List (Elem k3)
  y:Bool
  f:List (Elem ki)
  n:Int
  r:Int
instance:Inhabited Dq:=⟨⟨[],[],[],0,[],[],[],false,[],0,0⟩⟩
abbrev fmW(b:List (Elem ku))(z:Dq):Res:=⟨.tup [.agg [.ows 0,.ows 1,.ows 2],coreOwn z.x z.y z.n 3 4 5 6],[.row ks z.u,.row ks z.v,.row kl z.w,.row kc z.s,.row k3 z.d,.row k3 z.p,.row ki z.f,.box [.rsl ku b,.val (.int .i64 z.r)]],[some 7]⟩
def qDq(z:Dq):Prop:=z.s.length≤6∧z.d.length≤100∧z.p.length≤100∧z.f.length≤1002∧smCs z.s=true∧0≤z.r∧z.r≤10000
structure Dw where
  u:List (Elem ks)
  v:List (Elem ks)
  w:List (Elem kl)
  x:Int
  s:List (Elem kc)
  d:List (Elem k3)
  p:List (Elem k3)
  y:Bool
  f:List (Elem ki)
  n:Int
  q:List (Elem kb)
  r:Int
  i:Nat
noncomputable def Dw.st(b:List (Elem ku))(z:Dw):St:=st105 b z.r (z.i:Int) z.u z.v z.w z.x z.s z.d z.p z.y z.f z.n z.q
noncomputable def Dw.sw(b:List (Elem ku))(z:Dw):St:=sw105 b z.r (z.i:Int) z.u z.v z.w z.x z.s z.d z.p z.y z.f z.n z.q
structure qDw (m:Int) (z:Dw):Prop where
  fit:fitD z.u z.v z.w
  sl:z.s.length≤6
  dl:z.d.length≤100
  pl:z.p.length≤100
  fl:z.f.length≤1001
  ss:smCs z.s=true
  bk:smX z.q
  r0:0≤z.r
  r1:z.r+20 * z.i≤m
theorem wrapM{m:Nat}(h:m≤1000):IntKind.i64.wrap (((m+1:Nat):Int) - 1)=(m:Int):=by
  rw [wrap_id (by omega) (by omega)]
  omega
section
variable {b:List (Elem ku)} (hb:okY b=true) (hl:b.length≤1048576)
include hb hl
theorem rdQ{x:Int}(h0:0≤x)(h1:x≤500000){q:List (Elem kb)}(hq:smX q):(okY b&&(decide (b.length≤1048576)&&(decide (0≤x∧x≤500000)&&decide (q.length≤1000))))=true:=by
  rw [hb,decide_eq_true hl,decide_eq_true (And.intro h0 h1)]
  exact decide_eq_true (by have:=hq.1; omega)
end
theorem clB_t{m:Int}{z:Dw}(h:qDw m z){A C:ByteArray}(hA:A.size≤100)(hC:C.size≤100):clB z.u z.v z.w (z.x,z.s,z.d,z.p,z.y,z.f,z.n) A C=true:=by
  unfold clB
  rw [fitB_iff.2 h.fit,fcB_iff.2 ⟨h.sl,h.dl,h.pl,h.fl,h.ss⟩,decide_eq_true (by omega),decide_eq_true (by omega)]
  rfl
theorem bd_t{q:List (Elem kb)}(hq:smX q){A C:ByteArray}(hA:A.size≤100)(hC:C.size≤100):(smB q&&(decide (q.length≤100)&&(decide (A.size≤1000000)&&decide (C.size≤1000000))))=true:=by
  have:=hq.1
  rw [smX_B hq,decide_eq_true (by omega),decide_eq_true (by omega),decide_eq_true (by omega)]
  rfl
theorem sets_27{s:List (Elem kc)}(h:smCs s=true)(hl:0 < s.length)(a:Int):smCs (updR kc s 0 27 [.int .i64 a])=true:=by
  unfold updR
  exact smCs_set h 0 (e:=putV kc 27 [.int .i64 a] (s.getD 0 (edflt kc))) (smCs_at h hl)
theorem swE{b:List (Elem ku)}(hb:okY b=true)(hl:b.length≤1048576)(z:Dw)(h:qDw 5000 z) :
    Got (fun q:Dq × Nat=>qDq q.1) (fun C q=>LoopOk Tryz.prog C (lp105 18) (z.sw b) (ct105 (LoopOk Tryz.prog C) (fun o=>Wk o (fmW b q.1)) 18)):=by
  refine ex_loop okf105 hg105 (Dw.sw b) (fun y=>y.i) (qDw 5000) (fun ⟨u,v,w,x,s,d,p,y,f,n,q,r,i⟩ h next => ?_) z h
  have h1:s.length≤6:=h.sl
  have h2:d.length≤100:=h.dl
  have h3:p.length≤100:=h.pl
  have h4:f.length≤1001:=h.fl
  have h5:smCs s=true:=h.ss
  have hq:smX q:=h.bk
  have hr0:0≤r:=h.r0
  have hr1:r+20 * (i:Int)≤5000:=h.r1
  have hop:=opR_p b r q
  have hsm:=smR b r hq
  have rd : ∀ t:Int,0≤t→t≤1000000→(okY b&&(decide (b.length≤1048576)&&(decide (0≤t∧t≤1000000)&&true)))=true:=fun t h0 h1=>dY b hb hl t h0 h1
  have fin : ∀ (x':Int) (s':List (Elem kc)) (d':List (Elem k3)) (f':List (Elem ki)) (n' r':Int),s'.length≤6→d'.length≤100→f'.length≤1002→smCs s'=true→0≤r'→r'≤10000→Got (fun q:(Dq × Nat) × Nat=>qDq q.1.1) (fun C q=>Wk (some (fmW b ⟨u,v,w,x',s',d',p,y,f',n',r'⟩)) (fmW b q.1.1)) :=
    fun x' s' d' f' n' r' g1 g2 g3 g4 g5 g6=>ex_end (x:=(((⟨u,v,w,x',s',d',p,y,f',n',r'⟩:Dq),0),0)) ⟨g1,g2,h3,g3,g4,g5,g6⟩ fun C=>wk_rfl _
  have fin27 : ∀ a r':Int,0 < s.length→0≤r'→r'≤10000→Got (fun q:(Dq × Nat) × Nat=>qDq q.1.1) (fun C q=>Wk (some (fmW b ⟨u,v,w,x,updR kc s 0 27 [.int .i64 a],d,p,y,f,n,r'⟩)) (fmW b q.1.1)) :=
    fun a r' g0 g5 g6=>fin x (updR kc s 0 27 [.int .i64 a]) d f n r' (by rw [updR_l]; exact h1) h2 (by omega) (sets_27 h5 g0 a) g5 g6
  show Got _ (fun C q'=>evP E105 G105 _ (lp105 18) (sw105 b r (i:Int) u v w x s d p y f n q) (rk105 _ _ 18 _))
  rcases Nat.eq_zero_or_pos i with rfl | hi
  · simp only [bw105]
    refine ex_no (by omega) ?_
    · have e:(0:Nat)=0:=rfl
      repeat' (first
        | exact fin _ _ _ _ _ _ h1 h2 (by omega) h5 (by omega) (by omega)
        | exact fin _ _ _ _ _ _ h1 (by rw [List.length_set]; exact h2) (by omega) h5 (by omega) (by omega)
        | exact fin _ _ _ _ _ _ h1 h2 (by rw [List.length_append]; show f.length+1≤_; omega) h5 (by omega) (by omega)
        | exact fin27 _ _ (by omega) (by omega) (by omega)
        | refine ex_t (rd _ (by omega) (by omega)) ?_
        | refine ex_yes (by omega) ?_
        | refine ex_dec (fun _ => ?_) (fun _ => ?_)
        | refine ex_intro (fun _ => ?_) (fun _ => ?_))
  · obtain ⟨m,rfl⟩ : ∃ m,i=m+1:=⟨i - 1,by omega⟩
    simp only [bw105,wrapM (m:=m) (by omega)]
    refine ex_yes (by omega) (ex_dec (fun g0 => ?_) (fun g0 => ?_))
    · refine ex_t (rdQ hb hl hr0 (by omega) hq) (ex_t (clB_t h hsm.1 hsm.2) ?_)
      have hc:=(clF_ok (o:=3) (i:=(opR b r q).i) (t:=(opR b r q).t) (clB_t h hsm.1 hsm.2)).1
      have same:=next ⟨u,v,w,x,s,d,p,y,f,n,q,(opR b r q).p,m⟩ ⟨h.fit,h1,h2,h3,h4,h5,hq,by show 0≤(opR b r q).p; omega,by show (opR b r q).p+20 * (m:Int)≤5000; omega⟩ (by show m < m+1; omega)
      refine ex_intro (fun g1=>ex_dec (fun g2 => ?_) (fun g2=>same)) (fun g1=>ex_f (hc.2 g1) same)
      obtain ⟨c1,c2,c3,c4,c5,c6⟩:=hc.1 g1
      exact next ⟨_,_,_,_,_,_,_,_,_,_,q,(opR b r q).p,m⟩ ⟨c1,c2,c3,c4,c5,c6,hq,by show 0≤(opR b r q).p; omega,by show (opR b r q).p+20 * (m:Int)≤5000; omega⟩ (by show m < m+1; omega)
    · have e:(0:Nat)=0:=rfl
      repeat' (first
        | exact fin _ _ _ _ _ _ h1 h2 (by omega) h5 (by omega) (by omega)
        | exact fin _ _ _ _ _ _ h1 (by rw [List.length_set]; exact h2) (by omega) h5 (by omega) (by omega)
        | exact fin _ _ _ _ _ _ h1 h2 (by rw [List.length_append]; show f.length+1≤_; omega) h5 (by omega) (by omega)
        | exact fin27 _ _ (by omega) (by omega) (by omega)
        | refine ex_t (rd _ (by omega) (by omega)) ?_
        | refine ex_yes (by omega) ?_
        | refine ex_dec (fun _ => ?_) (fun _ => ?_)
        | refine ex_intro (fun _ => ?_) (fun _ => ?_))
theorem nm1 : ∀ j:Nat,j < 4→1≤(([(50,()),(60,()),(80,()),(120,())]:List (Elem ki)).getD j (edflt ki)).1∧(([(50,()),(60,()),(80,()),(120,())]:List (Elem ki)).getD j (edflt ki)).1≤120
  | 0,_=>by decide
  | 1,_=>by decide
  | 2,_=>by decide
  | 3,_=>by decide
  | j+4,h=>absurd h (by omega)
theorem nm2 : ∀ j:Nat,∃ m:Nat,m≤30∧(([(0,()),(4,()),(10,()),(20,()),(30,())]:List (Elem ki)).getD j (edflt ki)).1=(m:Int)
  | 0=>⟨0,by decide,rfl⟩
  | 1=>⟨4,by decide,rfl⟩
  | 2=>⟨10,by decide,rfl⟩
  | 3=>⟨20,by decide,rfl⟩
  | 4=>⟨30,by decide,rfl⟩
  | j+5=>⟨0,by decide,rfl⟩
theorem nm3 : ∀ j:Nat,∃ m:Nat,m≤8∧(([(0,()),(0,()),(6,()),(8,()),(8,())]:List (Elem ki)).getD j (edflt ki)).1=(m:Int)
  | 0=>⟨0,by decide,rfl⟩
  | 1=>⟨0,by decide,rfl⟩
  | 2=>⟨6,by decide,rfl⟩
  | 3=>⟨8,by decide,rfl⟩
  | 4=>⟨8,by decide,rfl⟩
  | j+5=>⟨0,by decide,rfl⟩
theorem dwE{b:List (Elem ku)}(hb:okY b=true)(hl:b.length≤1048576){p0:Int}(hp0:0≤p0)(hp1:p0≤1000) : ∃ y,qDq y∧Ctr Tryz.prog 105 [.ptr 0 0] [.box [.rsl ku b,.val (.int .i64 p0)]] (fmW b y):=by
  refine ex_ctr (form:=fun y=>fmW b y) okr2 hg105 Tryz.func105 (by kernel_rfl) (by kernel_rfl) (by kernel_rfl) ?_
  obtain ⟨m0,hm0,e0⟩:=nm2 (pk b (p0+1) 5).toNat
  have hk:=pk_lt hb (p:=p0) (n:=4) (by omega) (by omega) (by omega)
  have hn:=nm1 (pk b p0 4).toNat (by omega)
  have rd : ∀ t:Int,0≤t→t≤1000000→(okY b&&(decide (b.length≤1048576)&&(decide (0≤t∧t≤1000000)&&true)))=true:=fun t h0 h1=>dY b hb hl t h0 h1
  simp only [e105,e0]
  refine ex_t (rd p0 (by omega) (by omega)) (ex_yes hn (ex_t (rd (p0+1) (by omega) (by omega)) ?_))
  have hN:=cnF_ok hn
  generalize cnF (([(50,()),(60,()),(80,()),(120,())]:List (Elem ki)).getD (pk b p0 4).toNat (edflt ki)).1=z0 at *
  obtain ⟨a1,a2,a3,a4,a5,a6⟩:=hN
  refine ex_loop okf105 hg105 (Dw.st b) (fun y=>y.i) (qDw 2000) (fun ⟨u,v,w,x,s,d,p,y,f,n,q,r,i⟩ h next => ?_) ⟨z0.u,z0.v,z0.w,z0.x,z0.s,z0.d,z0.p,z0.b,z0.f,z0.n,[],p0+1+1,m0⟩ ⟨a1,a2,a3,a4,a5,a6,smX_nil,by show 0≤p0+1+1; omega,by show p0+1+1+20 * (m0:Int)≤2000; omega⟩
  have h1:s.length≤6:=h.sl
  have h2:d.length≤100:=h.dl
  have h3:p.length≤100:=h.pl
  have h4:f.length≤1001:=h.fl
  have h5:smCs s=true:=h.ss
  have hq:smX q:=h.bk
  have hr0:0≤r:=h.r0
  have hr1:r+20 * (i:Int)≤2000:=h.r1
  have hop:=opR_p b (r+1) q
  have hsm:=smR b (r+1) hq
  show Got _ (fun C q'=>evP E105 G105 _ (lp105 4) (st105 b r (i:Int) u v w x s d p y f n q) (rk105 _ _ 4 _))
  rcases Nat.eq_zero_or_pos i with rfl | hi
  · obtain ⟨m,hm,e⟩:=nm3 (pk b r 5).toNat
    simp only [b105,e]
    refine ex_no (by omega) (ex_t (rd r (by omega) (by omega)) ?_)
    exact swE hb hl ⟨u,v,w,x,s,d,p,y,f,n,q,r+1,m⟩ ⟨h.fit,h1,h2,h3,h4,h5,hq,by show 0≤r+1; omega,by show r+1+20 * (m:Int)≤5000; omega⟩
  · obtain ⟨m,rfl⟩ : ∃ m,i=m+1:=⟨i - 1,by omega⟩
    simp only [b105,wrapM (m:=m) (by omega)]
    refine ex_yes (by omega) (ex_t (rd r (by omega) (by omega)) (ex_intro (fun g1 => ?_) (fun g1 => ?_)))
    · have up:fcB 101 (x,s,d,p,y,f,n)=true:=fcB_iff.2 ⟨by omega,h2,h3,h4,h5⟩
      refine ex_t (by rw [fitB_iff.2 h.fit,up]; rfl) (ex_intro (fun g2 => ?_) (fun g2 => ?_))
      · obtain ⟨⟨c1,c2,c3,c4,c5,c6⟩,c7⟩:=(cdF_ok (fitB_iff.2 h.fit) up).1
        have hz:(cdF u v w (x,s,d,p,y,f,n)).code=0:=by simpa using g2
        exact next ⟨_,_,_,_,_,_,_,_,_,_,q,r+1,m⟩ ⟨c1,(c7 hz).1,c3,c4,c5,c6,hq,by show 0≤r+1; omega,by show r+1+20 * (m:Int)≤2000; omega⟩ (by show m < m+1; omega)
      · exact next ⟨u,v,w,x,s,d,p,y,f,n,q,r+1,m⟩ ⟨h.fit,h1,h2,h3,h4,h5,hq,by show 0≤r+1; omega,by show r+1+20 * (m:Int)≤2000; omega⟩ (by show m < m+1; omega)
    · refine ex_t (rdQ hb hl (by omega) (by omega) hq) (ex_t (clB_t h hsm.1 hsm.2) ?_)
      have hc:=(clF_ok (o:=(opR b (r+1) q).o) (i:=(opR b (r+1) q).i) (t:=(opR b (r+1) q).t) (clB_t h hsm.1 hsm.2)).1
      refine ex_intro (fun g1=>ex_t (bd_t hq hsm.1 hsm.2) ?_) (fun g1=>ex_f (hc.2 g1) ?_)
      · obtain ⟨c1,c2,c3,c4,c5,c6⟩:=hc.1 g1
        exact next ⟨_,_,_,_,_,_,_,_,_,_,(bdL q (opR b (r+1) q).o (opR b (r+1) q).a (opR b (r+1) q).c (opR b (r+1) q).i (opR b (r+1) q).t).1,(opR b (r+1) q).p,m⟩ ⟨c1,c2,c3,c4,c5,c6,smX_bd hq _ hsm.1 hsm.2 _ _,by show 0≤(opR b (r+1) q).p; omega,by show (opR b (r+1) q).p+20 * (m:Int)≤2000; omega⟩ (by show m < m+1; omega)
      · exact next ⟨u,v,w,x,s,d,p,y,f,n,q,(opR b (r+1) q).p,m⟩ ⟨h.fit,h1,h2,h3,h4,h5,hq,by show 0≤(opR b (r+1) q).p; omega,by show (opR b (r+1) q).p+20 * (m:Int)≤2000; omega⟩ (by show m < m+1; omega)
noncomputable def dwF(b:List (Elem ku))(p:Int):Dq:=pick fun y:Dq=>qDq y∧Ctr Tryz.prog 105 [.ptr 0 0] [.box [.rsl ku b,.val (.int .i64 p)]] (fmW b y)
theorem dwF_ok{b:List (Elem ku)}(hb:okY b=true)(hl:b.length≤1048576){p:Int}(hp0:0≤p)(hp1:p≤1000):qDq (dwF b p)∧Ctr Tryz.prog 105 [.ptr 0 0] [.box [.rsl ku b,.val (.int .i64 p)]] (fmW b (dwF b p)):=pick_ok (dwE hb hl hp0 hp1)
noncomputable def g105:G1
  | [.ptr 0 0],[.box [.rsl [.int .u8] b,.val (.int .i64 p)]],k=>br (okY b&&(decide (b.length≤1048576)&&decide (0≤p∧p≤1000))) (k (fmW b (dwF b p))) False
  | _,_,_=>False
theorem h105:G1Ok Tryz.prog 105 g105:=by
  intro args obs k h
  unfold g105 at h
  split at h
  · rename_i k b p
    obtain ⟨hp,h⟩:=br_and h
    simp only [Bool.and_eq_true,decide_eq_true_eq] at hp
    obtain ⟨hb,hl,h0,h1⟩:=hp
    exact ⟨_,(dwF_ok hb hl h0 h1).2,h⟩
  · exact h.elim
def Er3:Env:=⟨tt,[1000000,104,105,180,106],E0.eqs,.skip,[]⟩
noncomputable def drN(b:List (Elem ku)):Int:=(([(0,()),(13,()),(14,()),(40,()),(60,()),(80,()),(120,()),(121,())]:List (Elem ki)).getD (pk (opB b) (dwF (opB b) 0).r 8).toNat (edflt ki)).1
noncomputable def g38:G1
  | [.rsl [.int .u8] b],[],k=>br (okY b&&decide (b.length≤1048576)) (k ⟨.tup [coreOwn (dwF (opB b) 0).x (dwF (opB b) 0).y (dwF (opB b) 0).n 0 1 2 3,.val (.int .i64 (drN b))],[.row kc (dwF (opB b) 0).s,.row k3 (dwF (opB b) 0).d,.row k3 (dwF (opB b) 0).p,.row ki (dwF (opB b) 0).f],[]⟩) False
  | _,_,_=>False
theorem okr3:Ok Tryz.prog Er3:=⟨ttOK,eqsOK,by kernel_rfl⟩
noncomputable def G38:Gk:=gk [(104,g104),(105,g105),(106,g106)]
theorem hg38:HG Tryz.prog G38:=(hg_cons h104 (hg_cons h105 (hg_cons h106 hg_nil)))
theorem e38(L:Lp)(R:Rp)(b:List (Elem [.int .u8])):(bodyP Er3 G38 L Tryz.f38 [.rsl [.int .u8] b] [] R)=(
    br (okY b&&decide (b.length≤1048576)) (br (okY (opB b)&&(decide ((opB b).length≤1048576)&&true)) (br (okY (opB b)&&(decide ((opB b).length≤1048576)&&(decide (0≤(dwF (opB b) 0).r∧(dwF (opB b) 0).r≤1000000)&&true))) (R (some ⟨.tup [.agg [vI (dwF (opB b) 0).x,.ows 0,.ows 1,.ows 2,vB (dwF (opB b) 0).y,.ows 3,vI (dwF (opB b) 0).n],vI ([(0,()),(13,()),(14,()),(40,()),(60,()),(80,()),(120,()),(121,())].getD (pk (opB b) (dwF (opB b) 0).r 8).toNat (edflt ki)).1],[.row kc (dwF (opB b) 0).s,.row k3 (dwF (opB b) 0).d,.row k3 (dwF (opB b) 0).p,.row ki (dwF (opB b) 0).f],[]⟩)) False) False) False):=by kernel_rfl
theorem opB_sz{b:List (Elem ku)}(hl:b.length≤1048576):(opB b).length≤1048576:=by
  unfold opB
  split
  · rw [List.length_take]; omega
  · exact hl
theorem drQ{b:List (Elem ku)}(hb:okY b=true)(hl:b.length≤1048576):qDq (dwF (opB b) 0):=(dwF_ok (opB_ok hb) (opB_sz hl) (by omega) (by omega)).1
theorem h38:G1Ok Tryz.prog 38 g38:=by
  intro args obs k h
  unfold g38 at h
  split at h
  · rename_i k b
    obtain ⟨hp,h⟩:=br_and h
    have hq:=hp
    simp only [Bool.and_eq_true,decide_eq_true_eq] at hq
    obtain ⟨hb,hl⟩:=hq
    have hd:=drQ hb hl
    have h1:=opB_ok hb
    have h2:=opB_sz hl
    obtain ⟨_,_,_,_,_,r0,r1⟩:=hd
    refine ⟨_,ctr_fn okr3 hg38 Tryz.func38 (by kernel_rfl) (by kernel_rfl) (by kernel_rfl) fun C => ?_,h⟩
    rw [e38]
    exact br_t hp (br_t (by rw [h1,decide_eq_true h2]; rfl) (br_t (dY (opB b) h1 h2 _ r0 (by omega)) rfl))
  · exact h.elim
set_option maxHeartbeats 1000000
def ctS(d:List (Elem k3))(m:Nat):Nat:=(List.range m).countP fun (q:Nat)=>okD d (13+(q:Int))
def ctO(d:List (Elem k3))(f:List (Elem ki))(m:Nat):Nat:=(List.range m).countP fun (q:Nat) => !okD d (13+(q:Int))&&hasF f (13+(q:Int))
def smS(c:Co)(n:Int):Int:=match romB c n with
  | true=>ctS c.2.2.1 (n - 13).toNat
  | false=>0
def smO(c:Co)(n:Int):Int:=match romB c n with
  | true=>ctO c.2.2.1 c.2.2.2.2.2.1 (n - 13).toNat
  | false=>0
def smF(c:Co)(n:Int):Int:=match romB c n with
  | true=>(frL c.2.2.1 c.2.2.2.2.2.1 n).length
  | false=>0
def g22:G1
  | [.agg us,.val (.int .i64 n)],[],k=>match coreOf us with
    | some c=>br (smB' c) (k ⟨.tup [.val (.int .i64 (smS c n)),.val (.int .i64 (smO c n)),.val (.int .i64 (smF c n))],[],[]⟩) False
    | none=>False
  | _,_,_=>False
theorem cnt_next(p:Nat→Bool)(m:Nat):(List.range (m+1)).countP p=(List.range m).countP p+if p m=true then 1 else 0:=by
  rw [List.range_succ,List.countP_append,List.countP_cons,List.countP_nil]
  simp
theorem ctS_y{d:List (Elem k3)}{m:Nat}(h:okD d (13+(m:Int))=true):ctS d (m+1)=ctS d m+1:=by
  unfold ctS
  rw [cnt_next,if_pos h]
theorem ctS_n{d:List (Elem k3)}{m:Nat}(h:okD d (13+(m:Int))=false):ctS d (m+1)=ctS d m:=by
  unfold ctS
  rw [cnt_next,if_neg (by rw [h]; exact Bool.false_ne_true)]
  rfl
theorem ctO_y{d:List (Elem k3)}{f:List (Elem ki)}{m:Nat}(h:okD d (13+(m:Int))=false)(h2:hasF f (13+(m:Int))=true):ctO d f (m+1)=ctO d f m+1:=by
  unfold ctO
  rw [cnt_next,if_pos (by rw [h,h2]; rfl)]
theorem ctO_n{d:List (Elem k3)}{f:List (Elem ki)}{m:Nat}(h:okD d (13+(m:Int))=true∨hasF f (13+(m:Int))=false):ctO d f (m+1)=ctO d f m:=by
  unfold ctO
  rw [cnt_next,if_neg (by rcases h with h | h<;>rw [h]<;>simp)]
  rfl
theorem frP_y{d:List (Elem k3)}{f:List (Elem ki)}{m:Nat}(h:frB d f (13+(m:Int))=true):(frP d f (m+1)).length=(frP d f m).length+1:=by
  rw [frP_next,h,List.length_append]
  rfl
theorem frP_n{d:List (Elem k3)}{f:List (Elem ki)}{m:Nat}(h:frB d f (13+(m:Int))=false):(frP d f (m+1)).length=(frP d f m).length:=by
  rw [frP_next,h,List.length_append]
  rfl
theorem ctS_le(d:List (Elem k3))(m:Nat):ctS d m≤m:=by
  have:=List.countP_le_length (p:=fun (q:Nat)=>okD d (13+(q:Int))) (l:=List.range m)
  rw [List.length_range] at this
  exact this
theorem ctO_le(d:List (Elem k3))(f:List (Elem ki))(m:Nat):ctO d f m≤m:=by
  have:=List.countP_le_length (p:=fun (q:Nat) => !okD d (13+(q:Int))&&hasF f (13+(q:Int))) (l:=List.range m)
  rw [List.length_range] at this
  exact this
theorem sm_f{c:Co}{m:Int}(h:romB c m=false):(some ⟨.tup [vI 0,vI 0,vI 0],[],[]⟩:Option Res)=some ⟨.tup [.val (.int .i64 (smS c m)),.val (.int .i64 (smO c m)),.val (.int .i64 (smF c m))],[],[]⟩:=by
  unfold smS smO smF
  rw [h]
theorem sm_t{x:Int}{s:List (Elem kc)}{d p:List (Elem k3)}{b:Bool}{f:List (Elem ki)}{n m:Int}(h:romB (x,s,d,p,b,f,n) m=true):smS (x,s,d,p,b,f,n) m=ctS d (m - 13).toNat∧smO (x,s,d,p,b,f,n) m=ctO d f (m - 13).toNat∧smF (x,s,d,p,b,f,n) m=(frL d f m).length:=by
  unfold smS smO smF
  rw [h]
  exact ⟨rfl,rfl,rfl⟩
noncomputable def E22:Env:=Ef.of Tryz.f22
noncomputable def G22:Gk:=gk [(39,g39),(72,g72),(73,g73),(74,g74)]
noncomputable def lp22(n:Nat):Code:=(loopOf n (codeOf Tryz.f22)).getD .skip
noncomputable def ct22(L:Lp)(R:Rp)(n:Nat):Kt:=contOf E22 G22 L n (codeOf Tryz.f22) (endK E22 Tryz.f22.results.toList R)
noncomputable def rk22(L:Lp)(R:Rp)(n:Nat)(N:St→Prop):Kt:=rk (jof E22 (lp22 n)) N (ct22 L R n)
noncomputable def LOOP22(L:Lp)(R:Rp)(n:Nat)(st:St):Prop:=L (lp22 n) st (ct22 L R n)
theorem hg22:HG Tryz.prog G22:=(hg_cons h39 (hg_cons h72 (hg_cons h73 (hg_cons h74 hg_nil))))
theorem okf22:Ok Tryz.prog E22:=okf.of Tryz.f22
theorem e22(L:Lp)(R:Rp)(x:Int)(s:List (Elem kc))(d p:List (Elem k3))(b:Bool)(f:List (Elem ki))(n m:Int):(bodyP Ef G22 L Tryz.f22 [coreAV x s d p b f n,.val (.int .i64 m)] [] R)=(
    br (smB' (x,s,d,p,b,f,n)) (br (!coreOk (x,s,d,p,b,f,n).1 (x,s,d,p,b,f,n).2.1 (x,s,d,p,b,f,n).2.2.1 (x,s,d,p,b,f,n).2.2.2.1 (x,s,d,p,b,f,n).2.2.2.2.2.1 (x,s,d,p,b,f,n).2.2.2.2.2.2) (R (some ⟨.tup [vI 0,vI 0,vI 0],[],[]⟩)) (br (decide (m > 120)) (R (some ⟨.tup [vI 0,vI 0,vI 0],[],[]⟩)) (LOOP22 L R 6 ⟨(vJ :: vI m :: .ptr 0 0 :: jn 4 (vI 0 :: vI 0 :: vI 13 :: jn 36 [])),[(0,.box [vI x,.rsl kc s,.rsl k3 d,.rsl k3 p,vB b,.rsl ki f,vI n])],1000000,[]⟩))) False):=by kernel_rfl
def st22(x:Int)(s:List (Elem kc))(d p:List (Elem k3))(b:Bool)(f:List (Elem ki))(n m:Int)(u v i:Int):St :=  ⟨(vJ :: vI m :: AV.ptr 0 0 :: jn 4 (.val (.int .i64 u) :: .val (.int .i64 v) :: .val (.int .i64 i) :: jn 36 [])),[(0,AO.box [vI x,AV.rsl kc s,AV.rsl k3 d,AV.rsl k3 p,vB b,AV.rsl ki f,vI n])],1000000,[]⟩
theorem b22(L:Lp)(R:Rp)(N:St→Prop)(x:Int)(s:List (Elem kc))(d p:List (Elem k3))(b:Bool)(f:List (Elem ki))(n m:Int)(u v i:Int):(evP E22 G22 L (lp22 6) (st22 x s d p b f n m u v i) (rk22 L R 6 N))=(
    br (decide (i < m)) (br (decide (d.length≤1048576)) (br (okD d i) (N (st22 x s d p b f n m (IntKind.i64.wrap (u+1)) v (IntKind.i64.wrap (i+1)))) (br (decide (f.length≤1048576)) (br (hasF f i) (N (st22 x s d p b f n m u (IntKind.i64.wrap (v+1)) (IntKind.i64.wrap (i+1)))) (N (st22 x s d p b f n m u v (IntKind.i64.wrap (i+1))))) False)) False) (br (smCo (x,s,d,p,b,f,n)&&decide (m≤120)) (R (some ⟨.tup [vI u,vI v,vI (↑(frL (x,s,d,p,b,f,n).2.2.1 (x,s,d,p,b,f,n).2.2.2.2.2.1 m).length:Int)],[],[]⟩)) False)):=by kernel_rfl
theorem h22:G1Ok Tryz.prog 22 g22:=by
  intro args obs k h
  unfold g22 at h
  split at h
  · rename_i k us m
    split at h
    rotate_left
    · exact h.elim
    rename_i c hc
    obtain rfl:=coreOf_inv hc
    obtain ⟨x,s,d,p,b,f,n⟩:=c
    obtain ⟨hp,h⟩:=br_and h
    have hp1:smCo (x,s,d,p,b,f,n)=true:=by
      unfold smB' at hp
      rw [Bool.and_eq_true] at hp
      exact hp.1
    have hdl:=smCo_d hp1
    have hfl:=smCo_f hp1
    refine ⟨_,ctr_fn okf hg22 Tryz.func22 (by kernel_rfl) (by kernel_rfl) (by kernel_rfl) fun C => ?_,h⟩
    show bodyP Ef G22 _ Tryz.f22 [coreAV x s d p b f n,.val (.int .i64 m)] [] _
    rw [e22]
    refine br_t hp (br_not (fun h1=>sm_f ?_) (fun h1=>br_dec (fun h2=>sm_f ?_) (fun h2 => ?_)))
    · unfold romB
      rw [h1]
      rfl
    · unfold romB
      rw [decide_eq_false (show ¬ m≤120 by omega),Bool.and_false]
    have hR:romB (x,s,d,p,b,f,n) m=true:=by
      unfold romB
      rw [h1,decide_eq_true (show m≤120 by omega)]
      rfl
    refine loopUp okf22 hg22 (fun i (a:Int × Int)=>st22 x s d p b f n m a.1 a.2 (13+i)) (m - 13).toNat (fun i a=>a=(((ctS d i:Nat):Int),((ctO d f i:Nat):Int))) (fun N i a hi ha next => ?_) (0,0) rfl
    subst ha
    show evP E22 G22 _ (lp22 6) (st22 x s d p b f n m ((ctS d i:Nat):Int) ((ctO d f i:Nat):Int) (13+(i:Int))) (rk22 _ _ 6 _)
    have l1:=ctS_le d i
    have l2:=ctO_le d f i
    rw [b22,wrap_id (n:=13+(i:Int)+1) (by omega) (by omega),show (13:Int)+(i:Int)+1=13+((i:Int)+1) from by omega,wrap_id (n:=((ctS d i:Nat):Int)+1) (by omega) (by omega),wrap_id (n:=((ctO d f i:Nat):Int)+1) (by omega) (by omega)]
    refine br_dec (fun h3=>br_yes hdl (br_intro (fun h4=>next (by omega) (_,_) ?_) (fun h4=>br_yes hfl (br_intro (fun h5=>next (by omega) (_,_) ?_) (fun h5=>next (by omega) (_,_) ?_))))) (fun h3=>br_t (by rw [hp1,decide_eq_true (show m≤120 by omega)]; rfl) ?_)
    · rw [ctS_y h4,ctO_n (.inl h4)]
      rfl
    · rw [ctS_n h4,ctO_y h4 h5]
      rfl
    · rw [ctS_n h4,ctO_n (.inr h5)]
    · have:i=(m - 13).toNat:=by omega
      rw [this]
      obtain ⟨q1,q2,q3⟩:=sm_t hR
      show _=some (⟨.tup [.val (.int .i64 (smS (x,s,d,p,b,f,n) m)),.val (.int .i64 (smO (x,s,d,p,b,f,n) m)),.val (.int .i64 (smF (x,s,d,p,b,f,n) m))],[],[]⟩:Res)
      rw [q1,q2,q3]
  · exact h.elim
noncomputable def E23:Env:=Ef.of Tryz.f23
noncomputable def G23:Gk:=gk [(70,g70),(75,g75),(76,g76)]
noncomputable def lp23(n:Nat):Code:=(loopOf n (codeOf Tryz.f23)).getD .skip
noncomputable def ct23(L:Lp)(R:Rp)(n:Nat):Kt:=contOf E23 G23 L n (codeOf Tryz.f23) (endK E23 Tryz.f23.results.toList R)
noncomputable def rk23(L:Lp)(R:Rp)(n:Nat)(N:St→Prop):Kt:=rk (jof E23 (lp23 n)) N (ct23 L R n)
noncomputable def LOOP23(L:Lp)(R:Rp)(n:Nat)(st:St):Prop:=L (lp23 n) st (ct23 L R n)
theorem hg23:HG Tryz.prog G23:=(hg_cons h70 (hg_cons h75 (hg_cons h76 hg_nil)))
theorem okf23:Ok Tryz.prog E23:=okf.of Tryz.f23
theorem e23(L:Lp)(R:Rp)(x:Int)(s:List (Elem kc))(d p:List (Elem k3))(b:Bool)(f:List (Elem ki))(n m:Int):(bodyP Ef G23 L Tryz.f23 [coreAV x s d p b f n,.val (.int .i64 m)] [] R)=(
    br (smB' (x,s,d,p,b,f,n)) (br (!romB (x,s,d,p,b,f,n) m) (R (some ⟨.tup [vI 0,vI 0,vI 0],[],[]⟩)) (LOOP23 L R 5 ⟨(vJ :: vI m :: .ptr 0 0 :: jn 4 (vI 0 :: vI 0 :: vI 0 :: vI 13 :: jn 33 [])),[(0,.box [vI x,.rsl kc s,.rsl k3 d,.rsl k3 p,vB b,.rsl ki f,vI n])],1000000,[]⟩)) False):=by kernel_rfl
def st23(x:Int)(s:List (Elem kc))(d p:List (Elem k3))(b:Bool)(f:List (Elem ki))(n m:Int)(u v w i:Int):St :=  ⟨(vJ :: vI m :: AV.ptr 0 0 :: jn 4 (.val (.int .i64 u) :: .val (.int .i64 v) :: .val (.int .i64 w) :: .val (.int .i64 i) :: jn 33 [])),[(0,AO.box [vI x,AV.rsl kc s,AV.rsl k3 d,AV.rsl k3 p,vB b,AV.rsl ki f,vI n])],1000000,[]⟩
theorem b23(L:Lp)(R:Rp)(N:St→Prop)(x:Int)(s:List (Elem kc))(d p:List (Elem k3))(b:Bool)(f:List (Elem ki))(n m:Int)(u v w i:Int):(evP E23 G23 L (lp23 5) (st23 x s d p b f n m u v w i) (rk23 L R 5 N))=(
    br (decide (i < m)) (br (decide (d.length≤1048576)) (br (bkD d i) (N (st23 x s d p b f n m (IntKind.i64.wrap (u+1)) v w (IntKind.i64.wrap (i+1)))) (br (okC (x,s,d,p,b,f,n)&&decide (0≤i∧i≤1000000)) (br (frB (x,s,d,p,b,f,n).2.2.1 (x,s,d,p,b,f,n).2.2.2.2.2.1 i) (N (st23 x s d p b f n m u v (IntKind.i64.wrap (w+1)) (IntKind.i64.wrap (i+1)))) (N (st23 x s d p b f n m u (IntKind.i64.wrap (v+1)) w (IntKind.i64.wrap (i+1))))) False)) False) (R (some ⟨.tup [vI u,vI v,vI w],[],[]⟩))):=by kernel_rfl
theorem h23:G1Ok Tryz.prog 23 g22:=by
  intro args obs k h
  unfold g22 at h
  split at h
  · rename_i k us m
    split at h
    rotate_left
    · exact h.elim
    rename_i c hc
    obtain rfl:=coreOf_inv hc
    obtain ⟨x,s,d,p,b,f,n⟩:=c
    obtain ⟨hp,h⟩:=br_and h
    have hp1:smCo (x,s,d,p,b,f,n)=true:=by
      unfold smB' at hp
      rw [Bool.and_eq_true] at hp
      exact hp.1
    have hdl:=smCo_d hp1
    have hfl:=smCo_f hp1
    refine ⟨_,ctr_fn okf hg23 Tryz.func23 (by kernel_rfl) (by kernel_rfl) (by kernel_rfl) fun C => ?_,h⟩
    show bodyP Ef G23 _ Tryz.f23 [coreAV x s d p b f n,.val (.int .i64 m)] [] _
    rw [e23]
    refine br_t hp (br_not (fun h1=>sm_f h1) (fun h1 => ?_))
    obtain ⟨hk,hm⟩:=rom_ok h1 hp
    have hdo:ddtOk d=true:=(cok_plc (rom_inv h1).1).1
    refine loopUp okf23 hg23 (fun i (a:Int × Int × Int)=>st23 x s d p b f n m a.1 a.2.1 a.2.2 (13+i)) (m - 13).toNat (fun i a=>a=(((ctS d i:Nat):Int),((ctO d f i:Nat):Int),(((frP d f i).length:Nat):Int))) (fun N i a hi ha next => ?_) (0,0,0) rfl
    subst ha
    show evP E23 G23 _ (lp23 5) (st23 x s d p b f n m ((ctS d i:Nat):Int) ((ctO d f i:Nat):Int) (((frP d f i).length:Nat):Int) (13+(i:Int))) (rk23 _ _ 5 _)
    have l1:=ctS_le d i
    have l2:=ctO_le d f i
    have l3:=frP_len d f i
    rw [b23,wrap_id (n:=13+(i:Int)+1) (by omega) (by omega),show (13:Int)+(i:Int)+1=13+((i:Int)+1) from by omega,wrap_id (n:=((ctS d i:Nat):Int)+1) (by omega) (by omega),wrap_id (n:=((ctO d f i:Nat):Int)+1) (by omega) (by omega),wrap_id (n:=(((frP d f i).length:Nat):Int)+1) (by omega) (by omega)]
    refine br_dec (fun h3=>br_yes hdl ?_) (fun h3 => ?_)
    · rw [bk_okD hdo (by omega) (by omega)]
      refine br_intro (fun h4=>next (by omega) (_,_,_) ?_) (fun h4=>br_t (by rw [hk,decide_eq_true (show 0≤13+(i:Int)∧13+(i:Int)≤1000000 by omega)]; rfl) (br_intro (fun h5=>next (by omega) (_,_,_) ?_) (fun h5=>next (by omega) (_,_,_) ?_)))
      · rw [ctS_y h4,ctO_n (.inl h4),frP_n (fr_o h4)]
        rfl
      · have h5:frB d f (13+(i:Int))=true:=h5
        have h6:hasF f (13+(i:Int))=false:=by
          cases hh:hasF f (13+(i:Int)) with
          | false=>rfl
          | true=>rw [fr_h hh] at h5; cases h5
        rw [ctS_n h4,ctO_n (.inr h6),frP_y h5]
        rfl
      · have h5:frB d f (13+(i:Int))=false:=h5
        have h6:hasF f (13+(i:Int))=true:=by
          cases hh:hasF f (13+(i:Int)) with
          | true=>rfl
          | false=>rw [fr_t h4 hh] at h5; cases h5
        rw [ctS_n h4,ctO_y h4 h6,frP_n h5]
        rfl
    · have:i=(m - 13).toNat:=by omega
      rw [this]
      obtain ⟨q1,q2,q3⟩:=sm_t h1
      show _=some (⟨.tup [.val (.int .i64 (smS (x,s,d,p,b,f,n) m)),.val (.int .i64 (smO (x,s,d,p,b,f,n) m)),.val (.int .i64 (smF (x,s,d,p,b,f,n) m))],[],[]⟩:Res)
      rw [q1,q2,q3]
      rfl
  · exact h.elim
def dcI(xs:List (Elem k3))(t:Int):Int:=match ddtOk xs&&bkD xs t with
  | true=>(at3 xs (bsD xs t)).2.2.1
  | false=>0
def g40:G1
  | [.rsl [.int .i64,.int .i64,.int .i64] xs,.val (.int .i64 t)],[],k=>br (decide (xs.length≤1048576)) (k ⟨.val (.int .i64 (dcI xs t)),[],[]⟩) False
  | _,_,_=>False
noncomputable def G40:Gk:=gk [(112,g112),(75,g75)]
theorem hg40:HG Tryz.prog G40:=(hg_cons h112 (hg_cons h75 hg_nil))
theorem e40(L:Lp)(R:Rp)(xs:List (Elem k3))(t:Int):(bodyP Ef G40 L Tryz.f40 [.rsl k3 xs,.val (.int .i64 t)] [] R)=(
    br (decide (xs.length≤1048576)) (br (!ddtOk xs) (R (some ⟨vI 0,[],[]⟩)) (br (decide (xs.length≤1048576)) (br (!bkD xs t) (R (some ⟨vI 0,[],[]⟩)) (br (decide (0≤(↑(bsD xs t):Int)∧(↑(bsD xs t):Int) < (↑xs.length:Int))) (R (some ⟨vI (xs.getD (↑(bsD xs t):Int).toNat (edflt k3)).2.2.1,[],[]⟩)) False)) False)) False):=by kernel_rfl
theorem h40:G1Ok Tryz.prog 40 g40:=by
  intro args obs k h
  unfold g40 at h
  split at h
  · rename_i k xs t
    obtain ⟨hl,h⟩:=br_and h
    refine ⟨_,ctr_fn okf hg40 Tryz.func40 (by kernel_rfl) (by kernel_rfl) (by kernel_rfl) fun C => ?_,h⟩
    rw [e40]
    unfold dcI
    refine br_t hl (br_not (fun h1 => ?_) (fun h1=>br_t hl (br_not (fun h2 => ?_) (fun h2=>br_yes ?_ ?_))))
    · rw [h1]
      rfl
    · rw [h1,h2]
      rfl
    · have:=bkD_lt h2
      omega
    · rw [h1,h2]
      rfl
  · exact h.elim
theorem dc_0{d:List (Elem k3)}{t:Int}(h:okD d t=false)(h0:0≤t)(h1:t≤1000000):dcI d t=0:=by
  unfold dcI
  cases hd:ddtOk d with
  | false=>rfl
  | true=>rw [bk_okD hd h0 h1,h]; rfl
theorem frP_mem{d:List (Elem k3)}{f:List (Elem ki)}{m:Nat}{e:Elem ki}(h:e∈frP d f m):(13≤(e.1:Int)∧(e.1:Int) < 13+m)∧okD d e.1=false∧hasF f e.1=false:=by
  unfold frP at h
  obtain ⟨h1,h2⟩:=List.mem_filter.1 h
  obtain ⟨q,h3,rfl⟩:=List.mem_map.1 h1
  have h3:=List.mem_range.1 h3
  unfold frB at h2
  rw [Bool.and_eq_true,Bool.not_eq_true',Bool.not_eq_true'] at h2
  exact ⟨⟨by show (13:Int)≤13+(q:Int); omega,by show (13:Int)+(q:Int) < _; omega⟩,h2⟩
theorem frP_pw(d:List (Elem k3))(f:List (Elem ki))(m:Nat):(frP d f m).Pairwise fun a b=>(a.1:Int) < b.1:=by
  unfold frP
  refine List.Pairwise.filter _ ?_
  rw [List.pairwise_map]
  refine List.pairwise_lt_range.imp fun {a b} h => ?_
  show (13:Int)+(a:Int) < 13+(b:Int)
  omega
theorem frP_at{d:List (Elem k3)}{f:List (Elem ki)}{m i:Nat}(h:i < (frP d f m).length):(13≤atI (frP d f m) i∧atI (frP d f m) i < 13+m)∧okD d (atI (frP d f m) i)=false∧hasF f (atI (frP d f m) i)=false:=by
  unfold atI
  rw [List.getD_eq_getElem?_getD,List.getElem?_eq_getElem h]
  exact frP_mem (List.getElem_mem h)
theorem frP_asc{d:List (Elem k3)}{f:List (Elem ki)}{m i j:Nat}(hij:i < j)(h:j < (frP d f m).length):atI (frP d f m) i < atI (frP d f m) j:=by
  unfold atI
  rw [List.getD_eq_getElem?_getD,List.getElem?_eq_getElem (show i < _ by omega),List.getD_eq_getElem?_getD,List.getElem?_eq_getElem h]
  exact List.pairwise_iff_getElem.1 (frP_pw d f m) i j (by omega) h hij
theorem cnt_all(d:List (Elem k3))(f:List (Elem ki)) : ∀ m:Nat,ctS d m+ctO d f m+(frP d f m).length=m
  | 0=>rfl
  | m+1=>by
    have ih:=cnt_all d f m
    cases h1:okD d (13+(m:Int)) with
    | true=>rw [ctS_y h1,ctO_n (.inl h1),frP_n (fr_o h1)]; omega
    | false =>
      cases h2:hasF f (13+(m:Int)) with
      | true=>rw [ctS_n h1,ctO_y h1 h2,frP_n (fr_h h2)]; omega
      | false=>rw [ctS_n h1,ctO_n (.inr h2),frP_y (fr_t h1 h2)]; omega
theorem rm_len{c:Co}{n:Int}(h:rmM c n=true):((frL c.2.2.1 c.2.2.2.2.2.1 n).length:Int) > 16:=by
  unfold rmM mayB at h
  simp only [Bool.and_eq_true,decide_eq_true_eq] at h
  have:=h.2.1
  omega
end Go.Proofs.YtkjnijddbiconaaGreatDoor.Ev