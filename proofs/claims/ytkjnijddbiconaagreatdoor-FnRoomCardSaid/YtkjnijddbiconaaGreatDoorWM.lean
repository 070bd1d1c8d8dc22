/- A store that is played: a block of a set that is turned. -/
import Derived.Test.YtkjnijddbiconaaGreatDoorSK
namespace Go.Proofs.YtkjnijddbiconaaGreatDoor.Ev
open Go
set_option linter.unusedVariables false
set_option linter.unusedSimpArgs false
set_option maxRecDepth 100000
structure Tn where
  ok:Bool
  code:Int
  wr:Bool
  u:List (Elem ks)
  v:List (Elem ks)
  w:List (Elem kl)
  s:List (Elem kc)
  d:List (Elem k3)
  b:Bool
instance:Inhabited Tn:=⟨⟨false,0,false,[],[],[],[],[],false⟩⟩
abbrev vj:AV := .cel
abbrev fmTF(y:Tn):Res:=⟨.tup [.agg [vj,vj,vj],.agg [vj,vj,vj,vj,vj,vj,vj],.val (.int .i64 y.code)],[],[]⟩
abbrev fmT0(a b0:List (Elem ks))(c0:List (Elem kl))(x:Int)(p:List (Elem k3))(f:List (Elem ki))(n:Int)(y:Tn):Res:=⟨.tup [.agg [.rsl ks a,.rsl ks b0,.rsl kl c0],coreOwn x y.b n 0 1 2 3,.val (.int .i64 0)],[.row kc y.s,.row k3 y.d,.row k3 p,.row ki f],[]⟩
abbrev fmT1(x:Int)(p:List (Elem k3))(f:List (Elem ki))(n:Int)(y:Tn):Res:=⟨.tup [.agg [.ows 0,.ows 1,.ows 2],coreOwn x y.b n 3 4 5 6,.val (.int .i64 0)],[.row ks y.u,.row ks y.v,.row kl y.w,.row kc y.s,.row k3 y.d,.row k3 p,.row ki f],[]⟩
def fmT(a b0:List (Elem ks))(c0:List (Elem kl))(x:Int)(p:List (Elem k3))(f:List (Elem ki))(n:Int)(y:Tn):Res:=match y.ok with
  | false=>fmTF y
  | true=>match y.wr with
    | false=>fmT0 a b0 c0 x p f n y
    | true=>fmT1 x p f n y
structure qTn (s:List (Elem kc)) (y:Tn):Prop where
  fit:fitD y.u y.v y.w
  sl:y.s.length=s.length
  ss:smCs y.s=true
  dl:y.d.length≤100
  cd:y.ok=false→(y.code != 0)=true
theorem qTn_no{s:List (Elem kc)}(hs:smCs s=true){q:Int}(hq:(q != 0)=true):qTn s ⟨false,q,false,[],[],[],s,[],false⟩:=⟨fitD_nil,rfl,hs,by simp,fun _=>hq⟩
theorem upS{s:List (Elem kc)}(hs:smCs s=true){q:Int}(hq:0≤q∧q < (s.length:Int)){o:Nat}(ho : ∀ (e:Elem kc) (a b c:Int),smC (putV kc o [.int .i64 a,.int .i64 b,.int .i64 c] e)=smC e)(a b c:Int) :
    (updR kc (updR kc s q.toNat o [.int .i64 a,.int .i64 b,.int .i64 c]) q.toNat 30 [.bool true]).length=s.length∧smCs (updR kc (updR kc s q.toNat o [.int .i64 a,.int .i64 b,.int .i64 c]) q.toNat 30 [.bool true])=true:=by
  have hi:q.toNat < s.length:=by omega
  refine ⟨by rw [updR_l,updR_l],?_⟩
  unfold updR
  have h1:=smCs_set hs q.toNat (e:=putV kc o [.int .i64 a,.int .i64 b,.int .i64 c] (s.getD q.toNat (edflt kc))) (by rw [ho]; exact smCs_at hs hi)
  refine smCs_set h1 q.toNat ?_
  rw [smC_30]
  exact smCs_at h1 (by rw [List.length_set]; exact hi)
theorem tnE{o:Nat}{o1 o2 o3:Int}{a b0:List (Elem ks)}{c0:List (Elem kl)}{x:Int}{s:List (Elem kc)}{d p:List (Elem k3)}{b:Bool}{f:List (Elem ki)}{n q:Int}{t:ByteArray}(hF:fitD a b0 c0)(hC:smCo (x,s,d,p,b,f,n)=true)(hd:d.length≤100)(ht:t.size≤4611686018427387904)(hs:smCs s=true)(hq:0≤q∧q < (s.length:Int))
    (ho : ∀ (e:Elem kc) (a b c:Int),smC (putV kc o [.int .i64 a,.int .i64 b,.int .i64 c] e)=smC e) :
    Got (qTn s) (fun C y=>rhs234 o o1 o2 o3 (fun r=>Wd r (fmT a b0 c0 x p f n y)) a b0 c0 x s d p b f n q t):=by
  unfold rhs234
  have no : ∀ {q:Int} (us:List AV) (vs:List AV) (os:List AO),us.length=3→allOne us=true→vs.length=7→allOne vs=true→(q != 0)=true→Got (qTn s) (fun C y=>Wd (some ⟨.tup [.agg us,.agg vs,.val (.int .i64 q)],os,[]⟩) (fmT a b0 c0 x p f n y)) :=
    fun us vs os h1 o1 h2 o2 hq=>ex_end (qTn_no hs hq) fun C=>wd_drop fun S σ v h=>tup3_drop (agg_cel h1 o1) (agg_cel h2 o2) val_drop v h
  have hbv:=bvF_ok hF hC (by omega) ht (x:=x) (s:=s) (p:=p) (b:=b) (f:=f) (n:=n)
  have hpre:(fitB a b0 c0&&(decide (d.length≤1048576)&&(decide (t.size≤4611686018427387904)&&smCo (x,s,d,p,b,f,n))))=true:=by
    rw [fitB_iff.2 hF,hC,decide_eq_true ht,decide_eq_true (by omega)]; rfl
  have hl : ∀ zs:List Int,zs.length=24→(decide (d.length≤1000)&&decide (zs.length=24))=true:=fun zs hz=>by rw [decide_eq_true hz,decide_eq_true (by omega)]; rfl
  have hA : ∀ zs:List Int,zs.length=24→(rzF x s d p b f n zs true).d.length≤100:=fun zs hz=>by
    have:=(rzF_ok (x:=x) (s:=s) (d0:=d) (p:=p) (b0:=b) (f:=f) (n:=n) hz true (by omega)).1
    omega
  have hB : ∀ zs os:List Int,zs.length=24→os.length=24→(rzF x s (rzF x s d p b f n zs true).d p (rzF x s d p b f n zs true).b f n os false).d.length≤100:=fun zs os hz hos=>by
    have h0:=hA zs hz
    have:=(rzF_ok (x:=x) (s:=s) (d0:=(rzF x s d p b f n zs true).d) (p:=p) (b0:=(rzF x s d p b f n zs true).b) (f:=f) (n:=n) hos false (by omega)).1
    omega
  have hl2 : ∀ zs os:List Int,zs.length=24→os.length=24→(decide ((rzA x s d p b f n zs).d.length≤1000)&&decide (os.length=24))=true:=fun zs os hz hos=>by
    have:=hA zs hz
    show (decide ((rzF x s d p b f n zs true).d.length≤1000)&&decide (os.length=24))=true
    rw [decide_eq_true hos,decide_eq_true (by omega)]; rfl
  have hu:=fun i j k=>upS hs hq ho i j k
  refine ex_t hC (ex_yes hq ?_)
  repeat' (first
    | exact no _ _ _ rfl rfl rfl rfl (by assumption)
    | exact no _ _ _ rfl rfl rfl rfl rfl
    | refine ex_end (x:=(⟨false,7,false,[],[],[],s,[],false⟩:Tn)) (qTn_no hs rfl) (fun C=>wd_rfl _)
    | exact ex_end (x:=(⟨true,0,true,_,_,_,_,_,_⟩:Tn)) ⟨hbv.1,rfl,hs,hd,fun h=>nomatch h⟩ (fun C=>wd_rfl _)
    | exact ex_end (x:=(⟨true,0,false,[],[],[],_,_,_⟩:Tn)) ⟨fitD_nil,rfl,hs,hd,fun h=>nomatch h⟩ (fun C=>wd_rfl _)
    | exact ex_end (x:=(⟨true,0,true,_,_,_,_,_,_⟩:Tn)) ⟨hbv.1,(hu _ _ _).1,(hu _ _ _).2,hB _ _ rfl rfl,fun h=>nomatch h⟩ (fun C=>wd_rfl _)
    | exact ex_end (x:=(⟨true,0,false,[],[],[],_,_,_⟩:Tn)) ⟨fitD_nil,(hu _ _ _).1,(hu _ _ _).2,hB _ _ rfl rfl,fun h=>nomatch h⟩ (fun C=>wd_rfl _)
    | refine ex_t hpre ?_
    | refine ex_t (hl _ rfl) ?_
    | refine ex_t (hl2 _ _ rfl rfl) ?_
    | refine ex_t (hl [] rfl) ?_
    | refine ex_yes ht ?_
    | refine ex_yes hq ?_
    | refine ex_yes (by rw [updR_l]; exact hq) ?_
    | refine ex_t (by rw [decide_eq_true (by omega)]; rfl) ?_
    | refine ex_intro (fun h => ?_) (fun h => ?_))
theorem ho0(e:Elem kc)(a b c:Int):smC (putV kc 3 [.int .i64 a,.int .i64 b,.int .i64 c] e)=smC e:=rfl
theorem ho1(e:Elem kc)(a b c:Int):smC (putV kc 6 [.int .i64 a,.int .i64 b,.int .i64 c] e)=smC e:=rfl
theorem ho2(e:Elem kc)(a b c:Int):smC (putV kc 9 [.int .i64 a,.int .i64 b,.int .i64 c] e)=smC e:=rfl
theorem ho3(e:Elem kc)(a b c:Int):smC (putV kc 12 [.int .i64 a,.int .i64 b,.int .i64 c] e)=smC e:=rfl
theorem ho4(e:Elem kc)(a b c:Int):smC (putV kc 15 [.int .i64 a,.int .i64 b,.int .i64 c] e)=smC e:=rfl
theorem ho5(e:Elem kc)(a b c:Int):smC (putV kc 18 [.int .i64 a,.int .i64 b,.int .i64 c] e)=smC e:=rfl
theorem ho6(e:Elem kc)(a b c:Int):smC (putV kc 21 [.int .i64 a,.int .i64 b,.int .i64 c] e)=smC e:=rfl
theorem ho7(e:Elem kc)(a b c:Int):smC (putV kc 24 [.int .i64 a,.int .i64 b,.int .i64 c] e)=smC e:=rfl
theorem tnC{a b0:List (Elem ks)}{c0:List (Elem kl)}{x:Int}{s:List (Elem kc)}{d p:List (Elem k3)}{b:Bool}{f:List (Elem ki)}{n q i:Int}{t:ByteArray}(hF:fitD a b0 c0)(hC:smCo (x,s,d,p,b,f,n)=true)(hd:d.length≤100)(ht:t.size≤4611686018427387904)(hs:smCs s=true)(hq:0≤q∧q < (s.length:Int))(hi:0≤i∧i≤7) :
    ∃ y,qTn s y∧Ctr Tryz.prog 234 [.agg [.rsl ks a,.rsl ks b0,.rsl kl c0],coreAV x s d p b f n,.val (.int .i64 q),.val (.int .i64 i),.val (.string t)] [] (fmT a b0 c0 x p f n y):=by
  have hi:i=0∨i=1∨i=2∨i=3∨i=4∨i=5∨i=6∨i=7:=by omega
  rcases hi with rfl | rfl | rfl | rfl | rfl | rfl | rfl | rfl <;>
    refine ex_ctrF (form:=fun y=>fmT a b0 c0 x p f n y) okr hg234 Tryz.func234 (by kernel_rfl) (by kernel_rfl) (by kernel_rfl) [0,1] ?_
  · simp only [e234_0]; exact tnE hF hC hd ht hs hq ho0
  · simp only [e234_1]; exact tnE hF hC hd ht hs hq ho1
  · simp only [e234_2]; exact tnE hF hC hd ht hs hq ho2
  · simp only [e234_3]; exact tnE hF hC hd ht hs hq ho3
  · simp only [e234_4]; exact tnE hF hC hd ht hs hq ho4
  · simp only [e234_5]; exact tnE hF hC hd ht hs hq ho5
  · simp only [e234_6]; exact tnE hF hC hd ht hs hq ho6
  · simp only [e234_7]; exact tnE hF hC hd ht hs hq ho7
noncomputable def tnF(a b0:List (Elem ks))(c0:List (Elem kl))(x:Int)(s:List (Elem kc))(d p:List (Elem k3))(b:Bool)(f:List (Elem ki))(n q i:Int)(t:ByteArray):Tn:=pick fun y:Tn=>qTn s y∧Ctr Tryz.prog 234 [.agg [.rsl ks a,.rsl ks b0,.rsl kl c0],coreAV x s d p b f n,.val (.int .i64 q),.val (.int .i64 i),.val (.string t)] [] (fmT a b0 c0 x p f n y)
theorem tnF_ok{a b0:List (Elem ks)}{c0:List (Elem kl)}{x:Int}{s:List (Elem kc)}{d p:List (Elem k3)}{b:Bool}{f:List (Elem ki)}{n q i:Int}{t:ByteArray}(hF:fitD a b0 c0)(hC:smCo (x,s,d,p,b,f,n)=true)(hd:d.length≤100)(ht:t.size≤4611686018427387904)(hs:smCs s=true)(hq:0≤q∧q < (s.length:Int))(hi:0≤i∧i≤7) :
    qTn s (tnF a b0 c0 x s d p b f n q i t)∧Ctr Tryz.prog 234 [.agg [.rsl ks a,.rsl ks b0,.rsl kl c0],coreAV x s d p b f n,.val (.int .i64 q),.val (.int .i64 i),.val (.string t)] [] (fmT a b0 c0 x p f n (tnF a b0 c0 x s d p b f n q i t)):=pick_ok (tnC hF hC hd ht hs hq hi)
noncomputable def g234:G1
  | [.agg [.rsl [.str] a,.rsl [.str] b0,.rsl [.int .i64,.int .i64,.str] c0],.agg us,.val (.int .i64 q),.val (.int .i64 i),.val (.string t)],[],k=>match coreOf us with
    | some (x,s,d,p,b,f,n)=>br (fitB a b0 c0&&(decide (d.length≤100)&&(decide (t.size≤4611686018427387904)&&(smCo (x,s,d,p,b,f,n)&&(smCs s&&(decide (0≤q∧q < (s.length:Int))&&decide (0≤i∧i≤7))))))) (br (tnF a b0 c0 x s d p b f n q i t).ok (br (tnF a b0 c0 x s d p b f n q i t).wr (k (fmT1 x p f n (tnF a b0 c0 x s d p b f n q i t))) (k (fmT0 a b0 c0 x p f n (tnF a b0 c0 x s d p b f n q i t)))) (k (fmTF (tnF a b0 c0 x s d p b f n q i t)))) False
    | none=>False
  | _,_,_=>False
theorem h234:G1Ok Tryz.prog 234 g234:=by
  intro args obs k h
  unfold g234 at h
  split at h
  · split at h
    rotate_left
    · exact h.elim
    rename_i hs
    cases coreOf_inv hs
    obtain ⟨hp,h⟩:=br_and h
    simp only [Bool.and_eq_true,decide_eq_true_eq] at hp
    obtain ⟨p1,p2,p3,p4,p5,p6,p7⟩:=hp
    refine ⟨_,(tnF_ok (fitB_iff.1 p1) p4 p2 p3 p5 p6 p7).2,?_⟩
    unfold fmT
    split
    · rename_i ho
      rw [ho] at h
      exact h
    · rename_i ho
      rw [ho] at h
      split
      · rename_i hw
        rw [hw] at h
        exact h
      · rename_i hw
        rw [hw] at h
        exact h
  · exact h.elim
def eD(e:Elem kc):Elem kc:=(e.fst,e.snd.fst,e.snd.snd.fst,e.snd.snd.snd.fst,e.snd.snd.snd.snd.fst,e.snd.snd.snd.snd.snd.fst,e.snd.snd.snd.snd.snd.snd.fst,e.snd.snd.snd.snd.snd.snd.snd.fst,e.snd.snd.snd.snd.snd.snd.snd.snd.fst,e.snd.snd.snd.snd.snd.snd.snd.snd.snd.fst,e.snd.snd.snd.snd.snd.snd.snd.snd.snd.snd.fst,e.snd.snd.snd.snd.snd.snd.snd.snd.snd.snd.snd.fst,e.snd.snd.snd.snd.snd.snd.snd.snd.snd.snd.snd.snd.fst,e.snd.snd.snd.snd.snd.snd.snd.snd.snd.snd.snd.snd.snd.fst,e.snd.snd.snd.snd.snd.snd.snd.snd.snd.snd.snd.snd.snd.snd.fst,e.snd.snd.snd.snd.snd.snd.snd.snd.snd.snd.snd.snd.snd.snd.snd.fst,e.snd.snd.snd.snd.snd.snd.snd.snd.snd.snd.snd.snd.snd.snd.snd.snd.fst,e.snd.snd.snd.snd.snd.snd.snd.snd.snd.snd.snd.snd.snd.snd.snd.snd.snd.fst,e.snd.snd.snd.snd.snd.snd.snd.snd.snd.snd.snd.snd.snd.snd.snd.snd.snd.snd.fst,e.snd.snd.snd.snd.snd.snd.snd.snd.snd.snd.snd.snd.snd.snd.snd.snd.snd.snd.snd.fst,e.snd.snd.snd.snd.snd.snd.snd.snd.snd.snd.snd.snd.snd.snd.snd.snd.snd.snd.snd.snd.fst,e.snd.snd.snd.snd.snd.snd.snd.snd.snd.snd.snd.snd.snd.snd.snd.snd.snd.snd.snd.snd.snd.fst,e.snd.snd.snd.snd.snd.snd.snd.snd.snd.snd.snd.snd.snd.snd.snd.snd.snd.snd.snd.snd.snd.snd.fst,e.snd.snd.snd.snd.snd.snd.snd.snd.snd.snd.snd.snd.snd.snd.snd.snd.snd.snd.snd.snd.snd.snd.snd.fst,e.snd.snd.snd.snd.snd.snd.snd.snd.snd.snd.snd.snd.snd.snd.snd.snd.snd.snd.snd.snd.snd.snd.snd.snd.fst,e.snd.snd.snd.snd.snd.snd.snd.snd.snd.snd.snd.snd.snd.snd.snd.snd.snd.snd.snd.snd.snd.snd.snd.snd.snd.fst,e.snd.snd.snd.snd.snd.snd.snd.snd.snd.snd.snd.snd.snd.snd.snd.snd.snd.snd.snd.snd.snd.snd.snd.snd.snd.snd.fst,e.snd.snd.snd.snd.snd.snd.snd.snd.snd.snd.snd.snd.snd.snd.snd.snd.snd.snd.snd.snd.snd.snd.snd.snd.snd.snd.snd.fst,e.snd.snd.snd.snd.snd.snd.snd.snd.snd.snd.snd.snd.snd.snd.snd.snd.snd.snd.snd.snd.snd.snd.snd.snd.snd.snd.snd.snd.fst,e.snd.snd.snd.snd.snd.snd.snd.snd.snd.snd.snd.snd.snd.snd.snd.snd.snd.snd.snd.snd.snd.snd.snd.snd.snd.snd.snd.snd.snd.fst,true,())
def z24(e:Elem kc):List Int := [e.snd.snd.snd.fst,e.snd.snd.snd.snd.fst,e.snd.snd.snd.snd.snd.fst,e.snd.snd.snd.snd.snd.snd.fst,e.snd.snd.snd.snd.snd.snd.snd.fst,e.snd.snd.snd.snd.snd.snd.snd.snd.fst,e.snd.snd.snd.snd.snd.snd.snd.snd.snd.fst,e.snd.snd.snd.snd.snd.snd.snd.snd.snd.snd.fst,e.snd.snd.snd.snd.snd.snd.snd.snd.snd.snd.snd.fst,e.snd.snd.snd.snd.snd.snd.snd.snd.snd.snd.snd.snd.fst,e.snd.snd.snd.snd.snd.snd.snd.snd.snd.snd.snd.snd.snd.fst,e.snd.snd.snd.snd.snd.snd.snd.snd.snd.snd.snd.snd.snd.snd.fst,e.snd.snd.snd.snd.snd.snd.snd.snd.snd.snd.snd.snd.snd.snd.snd.fst,e.snd.snd.snd.snd.snd.snd.snd.snd.snd.snd.snd.snd.snd.snd.snd.snd.fst,e.snd.snd.snd.snd.snd.snd.snd.snd.snd.snd.snd.snd.snd.snd.snd.snd.snd.fst,e.snd.snd.snd.snd.snd.snd.snd.snd.snd.snd.snd.snd.snd.snd.snd.snd.snd.snd.fst,e.snd.snd.snd.snd.snd.snd.snd.snd.snd.snd.snd.snd.snd.snd.snd.snd.snd.snd.snd.fst,e.snd.snd.snd.snd.snd.snd.snd.snd.snd.snd.snd.snd.snd.snd.snd.snd.snd.snd.snd.snd.fst,e.snd.snd.snd.snd.snd.snd.snd.snd.snd.snd.snd.snd.snd.snd.snd.snd.snd.snd.snd.snd.snd.fst,e.snd.snd.snd.snd.snd.snd.snd.snd.snd.snd.snd.snd.snd.snd.snd.snd.snd.snd.snd.snd.snd.snd.fst,e.snd.snd.snd.snd.snd.snd.snd.snd.snd.snd.snd.snd.snd.snd.snd.snd.snd.snd.snd.snd.snd.snd.snd.fst,e.snd.snd.snd.snd.snd.snd.snd.snd.snd.snd.snd.snd.snd.snd.snd.snd.snd.snd.snd.snd.snd.snd.snd.snd.fst,e.snd.snd.snd.snd.snd.snd.snd.snd.snd.snd.snd.snd.snd.snd.snd.snd.snd.snd.snd.snd.snd.snd.snd.snd.snd.fst,e.snd.snd.snd.snd.snd.snd.snd.snd.snd.snd.snd.snd.snd.snd.snd.snd.snd.snd.snd.snd.snd.snd.snd.snd.snd.snd.fst]
noncomputable def E272:Env:=Er.of Tryz.f272
noncomputable def G272:Gk:=gk [(273,g273s)]
noncomputable def lp272(n:Nat):Code:=(loopOf n (codeOf Tryz.f272)).getD .skip
noncomputable def ct272(L:Lp)(R:Rp)(n:Nat):Kt:=contOf E272 G272 L n (codeOf Tryz.f272) (endK E272 Tryz.f272.results.toList R)
noncomputable def rk272(L:Lp)(R:Rp)(n:Nat)(N:St→Prop):Kt:=rk (jof E272 (lp272 n)) N (ct272 L R n)
noncomputable def LOOP272(L:Lp)(R:Rp)(n:Nat)(st:St):Prop:=L (lp272 n) st (ct272 L R n)
theorem hg272:HG Tryz.prog G272:=(hg_cons h273s hg_nil)
theorem okf272:Ok Tryz.prog E272:=okr.of Tryz.f272
theorem e272(L:Lp)(R:Rp)(x:Int)(s:List (Elem kc))(d p:List (Elem k3))(b:Bool)(f:List (Elem ki))(n:Int)(e:Elem kc):(bodyP Er G272 L Tryz.f272 [coreOwn x b n 0 1 2 3,.agg (setK e)] [.row kc s,.row k3 d,.row k3 p,.row ki f] R)=(
    LOOP272 L R 2 ⟨(vJ :: vJ :: .ptr 4 0 :: .ptr 5 0 :: .ptr 6 0 :: vJ :: vI 0 :: jn 42 []),[(0,.row kc s),(1,.row k3 d),(2,.row k3 p),(3,.row ki f),(4,.box [vI x,.ows 0,.ows 1,.ows 2,vB b,.ows 3,vI n]),(5,.box (setK e)),(6,.box [vI 0,.ows 7,.ows 8,.ows 9,vB false,.ows 10,vI 0]),(7,.row kc []),(8,.row k3 []),(9,.row k3 []),(10,.row ki [])],1000000,[some 0,some 1,some 2,some 3]⟩):=by kernel_rfl
noncomputable def st272(x:Int)(s:List (Elem kc))(d p:List (Elem k3))(b:Bool)(f:List (Elem ki))(n:Int)(e:Elem kc)(k:Int):St :=
  ⟨(AV.junk :: AV.junk :: AV.ptr 4 0 :: AV.ptr 5 0 :: AV.ptr 6 0 :: AV.junk :: .val (.int .i64 k) :: jn 42 []),
    [(0,AO.row [CK.str,CK.int IntKind.i64,CK.str,CK.int IntKind.i64,CK.int IntKind.i64,CK.int IntKind.i64,CK.int IntKind.i64,CK.int IntKind.i64,CK.int IntKind.i64,CK.int IntKind.i64,CK.int IntKind.i64,CK.int IntKind.i64,CK.int IntKind.i64,CK.int IntKind.i64,CK.int IntKind.i64,CK.int IntKind.i64,CK.int IntKind.i64,CK.int IntKind.i64,CK.int IntKind.i64,CK.int IntKind.i64,CK.int IntKind.i64,CK.int IntKind.i64,CK.int IntKind.i64,CK.int IntKind.i64,CK.int IntKind.i64,CK.int IntKind.i64,CK.int IntKind.i64,CK.int IntKind.i64,CK.int IntKind.i64,CK.int IntKind.i64,CK.bool] s),(1,AO.row [CK.int IntKind.i64,CK.int IntKind.i64,CK.int IntKind.i64] d),(2,AO.row [CK.int IntKind.i64,CK.int IntKind.i64,CK.int IntKind.i64] p),(3,AO.row [CK.int IntKind.i64] f),(4,AO.box [AV.val (Value.int IntKind.i64 x),AV.ows 0,AV.ows 1,AV.ows 2,AV.val (Value.bool b),AV.ows 3,AV.val (Value.int IntKind.i64 n)]),(5,AO.box [AV.val (Value.string e.fst),AV.val (Value.int IntKind.i64 e.snd.fst),AV.val (Value.string e.snd.snd.fst),AV.val (Value.int IntKind.i64 e.snd.snd.snd.fst),AV.val (Value.int IntKind.i64 e.snd.snd.snd.snd.fst),AV.val (Value.int IntKind.i64 e.snd.snd.snd.snd.snd.fst),AV.val (Value.int IntKind.i64 e.snd.snd.snd.snd.snd.snd.fst),AV.val (Value.int IntKind.i64 e.snd.snd.snd.snd.snd.snd.snd.fst),AV.val (Value.int IntKind.i64 e.snd.snd.snd.snd.snd.snd.snd.snd.fst),AV.val (Value.int IntKind.i64 e.snd.snd.snd.snd.snd.snd.snd.snd.snd.fst),AV.val (Value.int IntKind.i64 e.snd.snd.snd.snd.snd.snd.snd.snd.snd.snd.fst),AV.val (Value.int IntKind.i64 e.snd.snd.snd.snd.snd.snd.snd.snd.snd.snd.snd.fst),AV.val (Value.int IntKind.i64 e.snd.snd.snd.snd.snd.snd.snd.snd.snd.snd.snd.snd.fst),AV.val (Value.int IntKind.i64 e.snd.snd.snd.snd.snd.snd.snd.snd.snd.snd.snd.snd.snd.fst),AV.val (Value.int IntKind.i64 e.snd.snd.snd.snd.snd.snd.snd.snd.snd.snd.snd.snd.snd.snd.fst),AV.val (Value.int IntKind.i64 e.snd.snd.snd.snd.snd.snd.snd.snd.snd.snd.snd.snd.snd.snd.snd.fst),AV.val (Value.int IntKind.i64 e.snd.snd.snd.snd.snd.snd.snd.snd.snd.snd.snd.snd.snd.snd.snd.snd.fst),AV.val (Value.int IntKind.i64 e.snd.snd.snd.snd.snd.snd.snd.snd.snd.snd.snd.snd.snd.snd.snd.snd.snd.fst),AV.val (Value.int IntKind.i64 e.snd.snd.snd.snd.snd.snd.snd.snd.snd.snd.snd.snd.snd.snd.snd.snd.snd.snd.fst),AV.val (Value.int IntKind.i64 e.snd.snd.snd.snd.snd.snd.snd.snd.snd.snd.snd.snd.snd.snd.snd.snd.snd.snd.snd.fst),AV.val (Value.int IntKind.i64 e.snd.snd.snd.snd.snd.snd.snd.snd.snd.snd.snd.snd.snd.snd.snd.snd.snd.snd.snd.snd.fst),AV.val (Value.int IntKind.i64 e.snd.snd.snd.snd.snd.snd.snd.snd.snd.snd.snd.snd.snd.snd.snd.snd.snd.snd.snd.snd.snd.fst),AV.val (Value.int IntKind.i64 e.snd.snd.snd.snd.snd.snd.snd.snd.snd.snd.snd.snd.snd.snd.snd.snd.snd.snd.snd.snd.snd.snd.fst),AV.val (Value.int IntKind.i64 e.snd.snd.snd.snd.snd.snd.snd.snd.snd.snd.snd.snd.snd.snd.snd.snd.snd.snd.snd.snd.snd.snd.snd.fst),AV.val (Value.int IntKind.i64 e.snd.snd.snd.snd.snd.snd.snd.snd.snd.snd.snd.snd.snd.snd.snd.snd.snd.snd.snd.snd.snd.snd.snd.snd.fst),AV.val (Value.int IntKind.i64 e.snd.snd.snd.snd.snd.snd.snd.snd.snd.snd.snd.snd.snd.snd.snd.snd.snd.snd.snd.snd.snd.snd.snd.snd.snd.fst),AV.val (Value.int IntKind.i64 e.snd.snd.snd.snd.snd.snd.snd.snd.snd.snd.snd.snd.snd.snd.snd.snd.snd.snd.snd.snd.snd.snd.snd.snd.snd.snd.fst),AV.val (Value.int IntKind.i64 e.snd.snd.snd.snd.snd.snd.snd.snd.snd.snd.snd.snd.snd.snd.snd.snd.snd.snd.snd.snd.snd.snd.snd.snd.snd.snd.snd.fst),AV.val (Value.int IntKind.i64 e.snd.snd.snd.snd.snd.snd.snd.snd.snd.snd.snd.snd.snd.snd.snd.snd.snd.snd.snd.snd.snd.snd.snd.snd.snd.snd.snd.snd.fst),AV.val (Value.int IntKind.i64 e.snd.snd.snd.snd.snd.snd.snd.snd.snd.snd.snd.snd.snd.snd.snd.snd.snd.snd.snd.snd.snd.snd.snd.snd.snd.snd.snd.snd.snd.fst),AV.val (Value.bool e.snd.snd.snd.snd.snd.snd.snd.snd.snd.snd.snd.snd.snd.snd.snd.snd.snd.snd.snd.snd.snd.snd.snd.snd.snd.snd.snd.snd.snd.snd.fst)]),(6,AO.box [AV.val (Value.int IntKind.i64 0),AV.ows 7,AV.ows 8,AV.ows 9,AV.val (Value.bool false),AV.ows 10,AV.val (Value.int IntKind.i64 0)]),(7,AO.row [CK.str,CK.int IntKind.i64,CK.str,CK.int IntKind.i64,CK.int IntKind.i64,CK.int IntKind.i64,CK.int IntKind.i64,CK.int IntKind.i64,CK.int IntKind.i64,CK.int IntKind.i64,CK.int IntKind.i64,CK.int IntKind.i64,CK.int IntKind.i64,CK.int IntKind.i64,CK.int IntKind.i64,CK.int IntKind.i64,CK.int IntKind.i64,CK.int IntKind.i64,CK.int IntKind.i64,CK.int IntKind.i64,CK.int IntKind.i64,CK.int IntKind.i64,CK.int IntKind.i64,CK.int IntKind.i64,CK.int IntKind.i64,CK.int IntKind.i64,CK.int IntKind.i64,CK.int IntKind.i64,CK.int IntKind.i64,CK.int IntKind.i64,CK.bool] []),(8,AO.row [CK.int IntKind.i64,CK.int IntKind.i64,CK.int IntKind.i64] []),(9,AO.row [CK.int IntKind.i64,CK.int IntKind.i64,CK.int IntKind.i64] []),(10,AO.row [CK.int IntKind.i64] [])],1000000,[some 0,some 1,some 2,some 3]⟩
theorem b272(L:Lp)(R:Rp)(N:St→Prop)(x:Int)(s:List (Elem kc))(d p:List (Elem k3))(b:Bool)(f:List (Elem ki))(n:Int)(e:Elem kc)(k:Int):(evP E272 G272 L (lp272 2) (st272 x s d p b f n e k) (rk272 L R 2 N))=(
    br (decide (k < (↑s.length:Int))) (br (decide (0≤k∧k < (↑s.length:Int))) (br (strLt (s.getD k.toNat (edflt kc)).1 e.1) (N ⟨(vJ :: vJ :: .ptr 4 0 :: .ptr 5 0 :: .ptr 6 0 :: vJ :: vI (IntKind.i64.wrap (k+1)) :: jn 42 []),[(0,.row kc s),(1,.row k3 d),(2,.row k3 p),(3,.row ki f),(4,.box [vI x,.ows 0,.ows 1,.ows 2,vB b,.ows 3,vI n]),(5,.box (setK e)),(6,.box [vI 0,.ows 7,.ows 8,.ows 9,vB false,.ows 10,vI 0]),(7,.row kc []),(8,.row k3 []),(9,.row k3 []),(10,.row ki [])],1000000,[some 0,some 1,some 2,some 3]⟩) (br (decide (0≤k∧k≤(↑s.length:Int)∧(↑s.length:Int)≤(↑s.length:Int)∧(↑s.length:Int)≤(↑s.length:Int))) (br (decide ((0+(List.take ((↑s.length:Int) - k).toNat (List.drop k.toNat s)).length) * 264≤140737488355328)) (br (decide ((0:Int)≤0∧0≤k∧k≤(↑s.length:Int)∧(↑s.length:Int)≤(↑s.length:Int))) (br (decide (((List.take (k - 0).toNat (List.drop 0 s)).length + [(eD e)].length) * 264≤140737488355328)) (br (decide (((List.take (k - 0).toNat (List.drop 0 s) ++ [(eD e)]).length+([]++List.take ((↑s.length:Int) - k).toNat (List.drop k.toNat s)).length) * 264≤140737488355328)) (br (decide (d.length≤1000)&&decide ((z24 e).length=24)) (R (some ⟨.tup [.agg [vI x,.ows 0,.ows 1,.ows 2,vB (rzF x (List.take (k - 0).toNat (List.drop 0 s) ++ [(eD e)]++([]++List.take ((↑s.length:Int) - k).toNat (List.drop k.toNat s))) d p b f n (z24 e) true).b,.ows 3,vI n],vB (rzF x (List.take (k - 0).toNat (List.drop 0 s) ++ [(eD e)]++([]++List.take ((↑s.length:Int) - k).toNat (List.drop k.toNat s))) d p b f n (z24 e) true).o],[.row kc (List.take (k - 0).toNat (List.drop 0 s) ++ [(eD e)]++([]++List.take ((↑s.length:Int) - k).toNat (List.drop k.toNat s))),.row k3 (rzF x (List.take (k - 0).toNat (List.drop 0 s) ++ [(eD e)]++([]++List.take ((↑s.length:Int) - k).toNat (List.drop k.toNat s))) d p b f n (z24 e) true).d,.row k3 p,.row ki f],[none,none,none,none]⟩)) False) False) False) False) False) False)) False) (br (decide (0≤k∧k≤(↑s.length:Int)∧(↑s.length:Int)≤(↑s.length:Int)∧(↑s.length:Int)≤(↑s.length:Int))) (br (decide ((0+(List.take ((↑s.length:Int) - k).toNat (List.drop k.toNat s)).length) * 264≤140737488355328)) (br (decide ((0:Int)≤0∧0≤k∧k≤(↑s.length:Int)∧(↑s.length:Int)≤(↑s.length:Int))) (br (decide (((List.take (k - 0).toNat (List.drop 0 s)).length + [(eD e)].length) * 264≤140737488355328)) (br (decide (((List.take (k - 0).toNat (List.drop 0 s) ++ [(eD e)]).length+([]++List.take ((↑s.length:Int) - k).toNat (List.drop k.toNat s)).length) * 264≤140737488355328)) (br (decide (d.length≤1000)&&decide ((z24 e).length=24)) (R (some ⟨.tup [.agg [vI x,.ows 0,.ows 1,.ows 2,vB (rzF x (List.take (k - 0).toNat (List.drop 0 s) ++ [(eD e)]++([]++List.take ((↑s.length:Int) - k).toNat (List.drop k.toNat s))) d p b f n (z24 e) true).b,.ows 3,vI n],vB (rzF x (List.take (k - 0).toNat (List.drop 0 s) ++ [(eD e)]++([]++List.take ((↑s.length:Int) - k).toNat (List.drop k.toNat s))) d p b f n (z24 e) true).o],[.row kc (List.take (k - 0).toNat (List.drop 0 s) ++ [(eD e)]++([]++List.take ((↑s.length:Int) - k).toNat (List.drop k.toNat s))),.row k3 (rzF x (List.take (k - 0).toNat (List.drop 0 s) ++ [(eD e)]++([]++List.take ((↑s.length:Int) - k).toNat (List.drop k.toNat s))) d p b f n (z24 e) true).d,.row k3 p,.row ki f],[none,none,none,none]⟩)) False) False) False) False) False) False)):=by kernel_rfl
structure Nw where
  s:List (Elem kc)
  d:List (Elem k3)
  b:Bool
  o:Bool
instance:Inhabited Nw:=⟨⟨[],[],false,false⟩⟩
abbrev fmN(x:Int)(p:List (Elem k3))(f:List (Elem ki))(n:Int)(y:Nw):Res:=⟨.tup [coreOwn x y.b n 0 1 2 3,.val (.bool y.o)],[.row kc y.s,.row k3 y.d,.row k3 p,.row ki f],[none,none,none,none]⟩
structure qNw (m:Nat) (y:Nw):Prop where
  sl:y.s.length≤m
  ss:smCs y.s=true
  dl:y.d.length≤100
theorem smCs_mk{s:List (Elem kc)}(h : ∀ e∈s,smC e=true)(hl:s.length≤1048576):smCs s=true:=by
  unfold smCs
  rw [decide_eq_true hl,Bool.true_and,List.all_eq_true]
  exact h
theorem smCs_all{s:List (Elem kc)}(h:smCs s=true) : ∀ e∈s,smC e=true:=by
  unfold smCs at h
  rw [Bool.and_eq_true,List.all_eq_true] at h
  exact h.2
theorem smC_eD(e:Elem kc):smC (eD e)=smC e:=rfl
theorem smCs_ins{s:List (Elem kc)}(h:smCs s=true)(hl:s.length≤1000){e:Elem kc}(he:smC e=true)(i j k:Nat) :
    (((s.drop 0).take i ++ [eD e]++([]++(s.drop j).take k)).length≤i+1+(s.length - j))∧(i≤1000→smCs ((s.drop 0).take i ++ [eD e]++([]++(s.drop j).take k))=true):=by
  have hlen:((s.drop 0).take i ++ [eD e]++([]++(s.drop j).take k)).length≤i+1+(s.length - j):=by
    simp only [List.length_append,List.length_take,List.length_drop,List.length_cons,List.length_nil]
    omega
  refine ⟨hlen,fun hi=>smCs_mk (fun y hy => ?_) (by omega)⟩
  have ha:=smCs_all h
  simp only [List.mem_append,List.mem_singleton,List.nil_append] at hy
  rcases hy with (hy | rfl) | hy
  · exact ha y (List.mem_of_mem_drop (List.mem_of_mem_take hy))
  · rw [smC_eD]; exact he
  · exact ha y (List.mem_of_mem_drop (List.mem_of_mem_take hy))
theorem nwE{x:Int}{s:List (Elem kc)}{d p:List (Elem k3)}{b:Bool}{f:List (Elem ki)}{n:Int}{e:Elem kc}(hs:smCs s=true)(hl:s.length≤100)(hd:d.length≤100)(he:smC e=true) :
    ∃ y,qNw (s.length+1) y∧Ctr Tryz.prog 272 [coreOwn x b n 0 1 2 3,.agg (setK e)] [.row kc s,.row k3 d,.row k3 p,.row ki f] (fmN x p f n y):=by
  refine ex_ctr (form:=fun y:Nw=>fmN x p f n y) okr hg272 Tryz.func272 (by kernel_rfl) (by kernel_rfl) (by kernel_rfl) ?_
  simp only [e272]
  refine ex_loop okf272 hg272 (fun k:Nat=>st272 x s d p b f n e (k:Int)) (fun k=>s.length - k) (fun k=>k≤s.length) (fun k hk next => ?_) 0 (Nat.zero_le _)
  show Got _ (fun C q=>evP E272 G272 _ (lp272 2) (st272 x s d p b f n e (k:Int)) (rk272 _ _ 2 _))
  have hk:k≤s.length:=hk
  simp only [b272,wrap_id (n:=(k:Int)+1) (by omega) (by omega)]
  have e1:((k:Int) - 0).toNat=k:=by omega
  have e2:((s.length:Int) - (k:Int)).toNat=s.length - k:=by omega
  have e3:(k:Int).toNat=k:=by omega
  have t1:((s.drop k).take (s.length - k)).length≤s.length:=by rw [List.length_take,List.length_drop]; omega
  have t2:((s.drop 0).take k).length≤s.length:=by rw [List.length_take,List.length_drop]; omega
  simp only [e1,e2,e3]
  obtain ⟨g1,g2⟩:=smCs_ins hs (by omega) he k k (s.length - k)
  have fine : ∀ zs:List Int,zs.length=24→(rzF x ((s.drop 0).take k ++ [eD e]++([]++(s.drop k).take (s.length - k))) d p b f n zs true).d.length≤100:=fun zs hz=>by
    have:=(rzF_ok (x:=x) (s:=(s.drop 0).take k ++ [eD e]++([]++(s.drop k).take (s.length - k))) (d0:=d) (p:=p) (b0:=b) (f:=f) (n:=n) hz true (by omega)).1
    omega
  refine ex_dec (fun h1=>ex_yes ⟨by omega,h1⟩ (ex_intro (fun _=>next (k+1) (by omega) (by omega)) (fun _ => ?_))) (fun h1 => ?_)
  all_goals
    refine ex_yes ⟨by omega,by omega,by omega,by omega⟩ (ex_yes (by omega) (ex_yes ⟨by omega,by omega,by omega,by omega⟩ (ex_yes (by simp only [List.length_cons,List.length_nil]; omega) (ex_yes (by simp only [List.length_append,List.length_cons,List.length_nil]; omega) (ex_t (by rw [decide_eq_true (show d.length≤1000 by omega)]; rfl) ?_)))))
    exact ex_end (x:=((⟨_,_,_,_⟩:Nw),1)) ⟨Nat.le_trans g1 (by omega),g2 (by omega),fine _ rfl⟩ (fun C=>wk_rfl _)
noncomputable def nwF(x:Int)(s:List (Elem kc))(d p:List (Elem k3))(b:Bool)(f:List (Elem ki))(n:Int)(e:Elem kc):Nw:=pick fun y:Nw=>qNw (s.length+1) y∧Ctr Tryz.prog 272 [coreOwn x b n 0 1 2 3,.agg (setK e)] [.row kc s,.row k3 d,.row k3 p,.row ki f] (fmN x p f n y)
theorem nwF_ok{x:Int}{s:List (Elem kc)}{d p:List (Elem k3)}{b:Bool}{f:List (Elem ki)}{n:Int}{e:Elem kc}(hs:smCs s=true)(hl:s.length≤100)(hd:d.length≤100)(he:smC e=true) :
    qNw (s.length+1) (nwF x s d p b f n e)∧Ctr Tryz.prog 272 [coreOwn x b n 0 1 2 3,.agg (setK e)] [.row kc s,.row k3 d,.row k3 p,.row ki f] (fmN x p f n (nwF x s d p b f n e)):=pick_ok (nwE hs hl hd he)
noncomputable def g272:G1
  | [.agg [.val (.int .i64 x),.ows 0,.ows 1,.ows 2,.val (.bool b),.ows 3,.val (.int .i64 n)],.agg us],[.row cx s0,.row [.int .i64,.int .i64,.int .i64] d,.row [.int .i64,.int .i64,.int .i64] p,.row [.int .i64] f],k=>match castE kc cx s0,elemOf kc us with
    | some s,some e=>br (smCs s&&(decide (s.length≤100)&&(decide (d.length≤100)&&smC e))) (k (fmN x p f n (nwF x s d p b f n e))) False
    | _,_=>False
  | _,_,_=>False
theorem h272:G1Ok Tryz.prog 272 g272:=by
  intro args obs k h
  unfold g272 at h
  split at h
  · split at h
    rotate_left
    · exact h.elim
    rename_i s e hs he
    cases castE_inv hs
    obtain rfl:=elemOf_inv he
    obtain ⟨hp,h⟩:=br_and h
    simp only [Bool.and_eq_true,decide_eq_true_eq] at hp
    obtain ⟨p1,p2,p3,p4⟩:=hp
    exact ⟨_,(nwF_ok p1 p2 p3 p4).2,h⟩
  · exact h.elim
end Go.Proofs.YtkjnijddbiconaaGreatDoor.Ev