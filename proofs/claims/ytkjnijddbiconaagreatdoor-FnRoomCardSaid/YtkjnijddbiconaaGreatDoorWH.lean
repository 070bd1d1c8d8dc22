/- A store that is played: the blocks of a commit, all of them. -/
import Derived.Test.YtkjnijddbiconaaGreatDoorS8
import Derived.Test.YtkjnijddbiconaaGreatDoorWC
import Derived.Test.YtkjnijddbiconaaGreatDoorEvD
import Derived.Test.YtkjnijddbiconaaGreatDoorWF
import Derived.Test.YtkjnijddbiconaaGreatDoorShelf
namespace Go.Proofs.YtkjnijddbiconaaGreatDoor.Ev
open Go
set_option linter.unusedVariables false
set_option linter.unusedSimpArgs false
set_option maxRecDepth 100000
theorem smB_iff{x:Int}{s:List (Elem kc)}{d p:List (Elem k3)}{b:Bool}{f:List (Elem ki)}{n:Int}:smB' (x,s,d,p,b,f,n)=true↔(s.length≤1048576∧d.length≤1048576∧p.length≤1048576∧f.length≤1048576)∧smCs s=true:=by
  unfold smB' smCo
  simp only [Bool.and_eq_true,decide_eq_true_eq,and_assoc]
theorem smCs_set{s:List (Elem kc)}(h:smCs s=true)(i:Nat){e:Elem kc}(he:smC e=true):smCs (s.set i e)=true:=by
  unfold smCs at h ⊢
  rw [Bool.and_eq_true,List.all_eq_true] at h ⊢
  rw [List.length_set]
  refine ⟨h.1,fun y hy => ?_⟩
  rcases List.mem_or_eq_of_mem_set hy with hy | rfl
  · exact h.2 y hy
  · exact he
theorem smC_27(e:Elem kc)(a b c:Int):smC (putV kc 27 [.int .i64 a,.int .i64 b,.int .i64 c] e)=smC e:=rfl
theorem smC_30(e:Elem kc)(a:Bool):smC (putV kc 30 [.bool a] e)=smC e:=rfl
def upH(s:List (Elem kc))(i:Nat)(a b c:Int):List (Elem kc):=updR kc (updR kc s i 27 [.int .i64 a,.int .i64 b,.int .i64 c]) i 30 [.bool false]
theorem updR_l(s:List (Elem kc))(i j:Nat)(vs:List Value):(updR kc s i j vs).length=s.length:=List.length_set
theorem upH_len(s:List (Elem kc))(i:Nat)(a b c:Int):(upH s i a b c).length=s.length:=by
  unfold upH
  rw [updR_l,updR_l]
theorem upH_sm{s:List (Elem kc)}(h:smCs s=true){i:Nat}(hi:i < s.length)(a b c:Int):smCs (upH s i a b c)=true:=by
  unfold upH updR
  have h1:=smCs_set h i (e:=putV kc 27 [.int .i64 a,.int .i64 b,.int .i64 c] (s.getD i (edflt kc))) (by rw [smC_27]; exact smCs_at h hi)
  refine smCs_set h1 i ?_
  rw [smC_30]
  exact smCs_at h1 (by rw [List.length_set]; exact hi)
theorem upH_ne(s:List (Elem kc)){i j:Nat}(h:i≠j)(a b c:Int):(upH s i a b c).getD j (edflt kc)=s.getD j (edflt kc):=by
  unfold upH updR
  rw [List.getD_eq_getElem?_getD,List.getElem?_set_ne h,List.getElem?_set_ne h,← List.getD_eq_getElem?_getD]
theorem foldl_size{α:Type}(g:α→ByteArray)(m:Nat) : ∀ (xs:List α) (o:ByteArray),(∀ e∈xs,(g e).size≤m)→(xs.foldl (fun o e=>o++g e) o).size≤o.size+xs.length * m
  | [],o,_=>by simp
  | e :: xs,o,h=>by
    have ih:=foldl_size g m xs (o++g e) (fun y hy=>h y (by simp [hy]))
    have he:=h e (by simp)
    rw [ByteArray.size_append] at ih
    rw [List.foldl_cons,List.length_cons,Nat.add_mul]
    omega
theorem rootT_size{s:List (Elem kc)}(h:smCs s=true)(p:List (Elem k3)):(rootT s p).size≤4+s.length * 3000000+p.length * 1000010:=by
  unfold rootT
  cases hv:(allB s.length fun i=>setV (atC s i))&&(allB p.length fun i=>rOk (atP p i)) with
  | false=>exact Nat.zero_le _
  | true =>
    rw [Bool.and_eq_true] at hv
    have h1:(rtS s).size≤4+s.length * 3000000:=by
      unfold rtS
      refine foldl_size lnS 3000000 s _ (fun e he => ?_)
      obtain ⟨j,hj,rfl⟩:=List.getElem_of_mem he
      have hs:=allB_at hv.1 hj
      have hc:=smCs_at h hj
      unfold atC at hs hc
      rw [List.getD_eq_getElem?_getD,List.getElem?_eq_getElem hj] at hs hc
      obtain ⟨k,hk,⟨_,_,k3⟩,n1,n2,_,n3⟩:=setV_szs hs hc
      simp only [Option.getD_some] at hk n1 n2 n3
      have c1:(⟨#[10]⟩:ByteArray).size=1:=rfl
      have c2:(⟨#[32]⟩:ByteArray).size=1:=rfl
      unfold lnS
      rw [← hk]
      simp only [ByteArray.size_append,c1,c2]
      omega
    have h2:=foldl_size lnP 1000010 p (rtS s) (fun e _=>by
      have:=ptrT_size e.1 e.2.1 e.2.2.1
      have c3:(⟨#[10,46,32]⟩:ByteArray).size=3:=rfl
      unfold lnP
      rw [ByteArray.size_append,c3]
      omega)
    show (rtP s p).size≤_
    unfold rtP
    omega
structure Bx where
  u:List (Elem ks)
  v:List (Elem ks)
  w:List (Elem kl)
  q:Nat
  r:Nat
  o:Bool
  s:List (Elem kc)
  p:List (Elem k3)
  b:Bool
  r0:Int
  r1:Int
  r2:Int
instance:Inhabited Bx:=⟨⟨[],[],[],0,0,false,[],[],false,0,0,0⟩⟩
structure Sh where
  u:List (Elem ks)
  v:List (Elem ks)
  w:List (Elem kl)
  q:Nat
  r:Nat
  o:Bool
abbrev fmB(a b0:List (Elem ks))(c0:List (Elem kl))(x:Int)(d:List (Elem k3))(f:List (Elem ki))(n:Int)(y:Bx):Res :=
  ⟨.tup [.ptr 0 0,coreOwn x y.b n 5 6 7 8,.agg [.val (.int .i64 y.r0),.val (.int .i64 y.r1),.val (.int .i64 y.r2)]],
    [.box [.ows 1,.ows 2,.ows 3,.osl 4 y.q y.r,.val (.int .i64 (IntKind.i64.wrap (x+1))),.val (.bool y.o)],.row ks y.u,.row ks y.v,.row kl y.w,.row ki (frL d f (a.length:Int)),.row kc y.s,.row k3 d,.row k3 y.p,.row ki f,.row ks a,.row ks b0,.row kl c0],[some 9,some 10,some 11]⟩
abbrev qBx(s:List (Elem kc))(d p:List (Elem k3))(y:Bx):Prop:=fitD y.u y.v y.w∧(y.s.length=s.length∧smCs y.s=true)∧y.p.length≤p.length+d.length
def remS(N:Nat):Option Sh→Nat
  | none=>N
  | some z=>z.r
def fitS:Option Sh→Prop
  | none=>True
  | some z=>fitD z.u z.v z.w
noncomputable def stA(a b0:List (Elem ks))(c0:List (Elem kl))(x:Int)(d p:List (Elem k3))(b:Bool)(f:List (Elem ki))(n:Int)(y:Option Sh × List (Elem kc) × Nat):St:=match y.1 with
  | none=>st265 a b0 c0 x y.2.1 d p b f n (y.2.2:Int)
  | some z=>st265b a b0 c0 x y.2.1 d p b f n (y.2.2:Int) z.u z.v z.w (frL d f (a.length:Int)) z.q z.r z.o
noncomputable def spA(a b0:List (Elem ks))(c0:List (Elem kl))(x:Int)(s:List (Elem kc))(d:List (Elem k3))(b:Bool)(f:List (Elem ki))(n:Int)(y:Option Sh × List (Elem k3) × Nat):St:=match y.1 with
  | none=>sp265 a b0 c0 x s d y.2.1 b f n (y.2.2:Int)
  | some z=>sp265b a b0 c0 x s d y.2.1 b f n (y.2.2:Int) z.u z.v z.w (frL d f (a.length:Int)) z.q z.r z.o
theorem dN_t{s:List (Elem kc)}{i:Nat}(h:dirC (s.getD i (edflt kc))=true):dN s (i+1)=dN s i+1:=by
  show (match dirC (s.getD i (edflt kc)) with
    | true=>dN s i+1
    | false=>dN s i)=_
  rw [h]
theorem dN_f{s:List (Elem kc)}{i:Nat}(h:dirC (s.getD i (edflt kc))=false):dN s (i+1)=dN s i:=by
  show (match dirC (s.getD i (edflt kc)) with
    | true=>dN s i+1
    | false=>dN s i)=_
  rw [h]
theorem dN_mono(s:List (Elem kc)) : ∀ (m i:Nat),i≤m→dN s i≤dN s m
  | 0,i,h=>by rw [show i=0 by omega]; exact Nat.le_refl _
  | m+1,i,h=>by
    by_cases e:i=m+1
    · rw [e]; exact Nat.le_refl _
    · have:=dN_mono s m i (by omega)
      cases hd:dirC (s.getD m (edflt kc)) with
      | true=>rw [dN_t hd]; omega
      | false=>rw [dN_f hd]; omega
theorem cmC_size(e:Elem kc):(cmC e).size≤16000000:=by
  unfold cmC
  exact (cmF_ok _ _ _ _ _ _ _ _ _ _ _ _ _ _ _ _ _ _ _ _ _ _ _ _).1
set_option maxHeartbeats 1000000 in
theorem bxE{a b0:List (Elem ks)}{c0:List (Elem kl)}{x:Int}{s:List (Elem kc)}{d p:List (Elem k3)}{b:Bool}{f:List (Elem ki)}{n:Int}(hB:smB' (x,s,d,p,b,f,n)=true)(ha:a.length≤120)(hF:fitD a b0 c0)
    (hN:ndN s d b≤((frL d f (a.length:Int)).length:Int)) (hs:s.length≤100000) (hpd:p.length+d.length≤100000) :
    ∃ y:Bx,qBx s d p y∧Ctr Tryz.prog 265 [.agg [.ows 0,.ows 1,.ows 2],coreAV x s d p b f n] [.row ks a,.row ks b0,.row kl c0] (fmB a b0 c0 x d f n y):=by
  refine ex_ctr (form:=fun y:Bx=>fmB a b0 c0 x d f n y) okr hg265 Tryz.func265 (by kernel_rfl) (by kernel_rfl) (by kernel_rfl) ?_
  obtain ⟨⟨q1,q2,q3,q4⟩,hS⟩:=smB_iff.1 hB
  have hCo:smCo (x,s,d,p,b,f,n)=true:=by unfold smB' at hB; rw [Bool.and_eq_true] at hB; exact hB.1
  have hpt:=ptF_ok (d:=d) (decide_eq_true q2)
  have hD:=fitD_sm hF
  have hNf:1+dN s s.length≤(frL d f (a.length:Int)).length:=by
    unfold ndN at hN
    split at hN<;>omega
  have hNt:b=true→1+dN s s.length+(ptF d).length≤(frL d f (a.length:Int)).length:=fun e=>by
    unfold ndN at hN
    rw [e] at hN
    simp only at hN
    omega
  have hcm : ∀ e,(cmC e).size≤4611686018427387904:=fun e=>Nat.le_trans (cmC_size e) (by decide)
  have htx : ∀ j,((ptF d).getD j (edflt ks)).1.size≤4611686018427387904:=fun j=>by
    rw [List.getD_eq_getElem?_getD]
    cases hx:(ptF d)[j]? with
    | none=>exact Nat.zero_le _
    | some e=>exact Nat.le_trans (hpt.1.2 e (List.mem_of_getElem? hx)) (by decide)
  have hrt : ∀ (s':List (Elem kc)) (p':List (Elem k3)),smCs s'=true→s'.length=s.length→p'.length≤100000→(rootT s' p').size≤4611686018427387904:=fun s' p' g1 g2 g3=>by
    have:=rootT_size g1 p'
    omega
  have hsm : ∀ (s':List (Elem kc)) (p':List (Elem k3)) (b':Bool),smCs s'=true→s'.length=s.length→p'.length≤100000→smB' (x,s',d,p',b',f,n)=true:=fun s' p' b' g1 g2 g3=>smB_iff.2 ⟨⟨by omega,q2,by omega,q4⟩,g1⟩
  simp only [e265]
  refine ex_t hCo (ex_t (by rw [hCo]; exact decide_eq_true (by omega)) ?_)
  refine ex_loop okf265 hg265 (stA a b0 c0 x d p b f n) (fun y=>s.length - y.2.2) (fun y=>(y.2.1.length=s.length∧smCs y.2.1=true)∧(∀ j,y.2.2≤j→y.2.1.getD j (edflt kc)=s.getD j (edflt kc))∧(y.2.2≤s.length∧fitS y.1)∧remS (frL d f (a.length:Int)).length y.1+dN s y.2.2=(frL d f (a.length:Int)).length)
    (fun ⟨sh,s',i⟩ ⟨⟨h1,h2⟩,h3,⟨h4,h5⟩,h6⟩ next => ?_) (none,s,0) ⟨⟨rfl,hS⟩,fun j _=>rfl,⟨Nat.zero_le _,trivial⟩,rfl⟩
  have k1:s'.length=s.length:=h1
  have k2:smCs s'=true:=h2
  have k3 : ∀ j,i≤j→s'.getD j (edflt kc)=s.getD j (edflt kc):=h3
  have k4:i≤s.length:=h4
  have parts:b=true → ∀ (sh2:Option Sh),fitS sh2→remS (frL d f (a.length:Int)).length sh2+dN s s.length=(frL d f (a.length:Int)).length→Got (fun q:Bx × Nat=>qBx s d p q.1) (fun C q=>LoopOk Tryz.prog C (lp265 13) (spA a b0 c0 x s' d b f n (sh2,[],0)) (ct265 (LoopOk Tryz.prog C) (fun o=>Wk o (fmB a b0 c0 x d f n q.1)) 13)):=by
    intro hb2 sh2 hf2 hr2
    have hNb:=hNt hb2
    refine ex_loop okf265 hg265 (spA a b0 c0 x s' d b f n) (fun y=>(ptF d).length - y.2.2) (fun y=>y.2.1.length≤y.2.2∧(y.2.2≤(ptF d).length∧fitS y.1)∧remS (frL d f (a.length:Int)).length y.1+dN s s.length+y.2.2=(frL d f (a.length:Int)).length)
      (fun ⟨sh3,p',j⟩ ⟨g1,⟨g2,g3⟩,g4⟩ next2 => ?_) (sh2,[],0) ⟨Nat.zero_le _,⟨Nat.zero_le _,hf2⟩,hr2⟩
    have g1:p'.length≤j:=g1
    have g2:j≤(ptF d).length:=g2
    have hpl:=hpt.1.1
    cases sh3 with
    | none =>
      have g4:(frL d f (a.length:Int)).length+dN s s.length+j=(frL d f (a.length:Int)).length:=g4
      show Got _ (fun C q=>evP E265 G265 _ (lp265 13) (sp265 a b0 c0 x s' d p' b f n (j:Int)) (rk265 _ _ 13 _))
      simp only [bp265,Int.toNat_natCast,wrap_id (n:=(j:Int)+1) (by omega) (by omega)]
      refine ex_dec (fun g5 => ?_) (fun g5 => ?_)
      · refine ex_yes ⟨by omega,g5⟩ (ex_t (by rw [decide_eq_true (show 1≤(frL d f (a.length:Int)).length by omega),hD,decide_eq_true (htx j)]; rfl) (ex_yes ?_ ?_))
        · show (p'.length+1) * 24≤_
          omega
        · refine next2 (some ⟨_,_,_,_,_,_⟩,p' ++ [_],j+1) ⟨?_,⟨?_,bwX_fit hF _ _⟩,?_⟩ ?_
          · show (p' ++ [_]).length≤j+1
            rw [List.length_append]
            show p'.length+1≤_
            omega
          · show j+1≤_
            omega
          · show (frL d f (a.length:Int)).length - 1+dN s s.length+(j+1)=_
            omega
          · show (ptF d).length - (j+1) < (ptF d).length - j
            omega
      · refine ex_t (hsm _ _ _ k2 k1 (by omega)) (ex_t (by rw [decide_eq_true (show 1≤(frL d f (a.length:Int)).length by omega),hD]; exact decide_eq_true (hrt _ _ k2 k1 (by show p'.length≤_; omega))) ?_)
        exact ex_end (x:=(((⟨_,_,_,_,_,_,_,_,_,_,_,_⟩:Bx),0),0)) ⟨bwX_fit hF _ _,⟨k1,k2⟩,by show p'.length≤_; omega⟩ fun C=>wk_rfl _
    | some z =>
      have g4:z.r+dN s s.length+j=(frL d f (a.length:Int)).length:=g4
      show Got _ (fun C q=>evP E265 G265 _ (lp265 13) (sp265b a b0 c0 x s' d p' b f n (j:Int) z.u z.v z.w (frL d f (a.length:Int)) z.q z.r z.o) (rk265 _ _ 13 _))
      simp only [bp265b,Int.toNat_natCast,wrap_id (n:=(j:Int)+1) (by omega) (by omega)]
      refine ex_dec (fun g5 => ?_) (fun g5 => ?_)
      · refine ex_yes ⟨by omega,g5⟩ (ex_t (by rw [decide_eq_true (show 1≤z.r by omega),fitD_sm g3,decide_eq_true (htx j)]; rfl) (ex_yes ?_ ?_))
        · show (p'.length+1) * 24≤_
          omega
        · refine next2 (some ⟨_,_,_,_,_,_⟩,p' ++ [_],j+1) ⟨?_,⟨?_,bwX_fit g3 _ _⟩,?_⟩ ?_
          · show (p' ++ [_]).length≤j+1
            rw [List.length_append]
            show p'.length+1≤_
            omega
          · show j+1≤_
            omega
          · show z.r - 1+dN s s.length+(j+1)=_
            omega
          · show (ptF d).length - (j+1) < (ptF d).length - j
            omega
      · refine ex_t (hsm _ _ _ k2 k1 (by omega)) (ex_t (by rw [decide_eq_true (show 1≤z.r by omega),fitD_sm g3]; exact decide_eq_true (hrt _ _ k2 k1 (by show p'.length≤_; omega))) ?_)
        exact ex_end (x:=(((⟨_,_,_,_,_,_,_,_,_,_,_,_⟩:Bx),0),0)) ⟨bwX_fit g3 _ _,⟨k1,k2⟩,by show p'.length≤_; omega⟩ fun C=>wk_rfl _
  cases sh with
  | none =>
    have h6:(frL d f (a.length:Int)).length+dN s i=(frL d f (a.length:Int)).length:=h6
    show Got _ (fun C q=>evP E265 G265 _ (lp265 4) (st265 a b0 c0 x s' d p b f n (i:Int)) (rk265 _ _ 4 _))
    simp only [b265,Int.toNat_natCast,wrap_id (n:=(i:Int)+1) (by omega) (by omega)]
    have mono:=dN_mono s s.length i k4
    refine ex_dec (fun h7 => ?_) (fun h7 => ?_)
    · have hi:i < s'.length:=by omega
      have hb:0≤(i:Int)∧(i:Int) < s'.length:=by omega
      refine ex_yes hb (ex_intro (fun h8 => ?_) (fun h8 => ?_))
      · have h8:dirC (s'.getD i (edflt kc))=true:=h8
        rw [k3 i (Nat.le_refl _)] at h8
        have hm:=dN_t h8
        have hmm:=dN_mono s s.length (i+1) (by omega)
        refine ex_yes hb (ex_t (by rw [decide_eq_true (show 1≤(frL d f (a.length:Int)).length by omega),hD,decide_eq_true (hcm _)]; rfl) (ex_yes hb (ex_yes (by rw [updR_l]; exact hb) ?_)))
        refine next (some ⟨_,_,_,_,_,_⟩,upH s' i _ _ _,i+1) ⟨⟨?_,upH_sm k2 hi _ _ _⟩,fun j hj => ?_,⟨?_,bwX_fit hF _ _⟩,?_⟩ ?_
        · show (upH s' i _ _ _).length=_
          rw [upH_len]
          exact k1
        · show (upH s' i _ _ _).getD j _=_
          have hj:i+1≤j:=hj
          rw [upH_ne s' (show i≠j by omega)]
          exact k3 j (by omega)
        · show i+1≤_
          omega
        · show (frL d f (a.length:Int)).length - 1+dN s (i+1)=_
          omega
        · show s.length - (i+1) < s.length - i
          omega
      · have h8:dirC (s'.getD i (edflt kc))=false:=h8
        rw [k3 i (Nat.le_refl _)] at h8
        have hm:=dN_f h8
        refine next (none,s',i+1) ⟨⟨k1,k2⟩,fun j hj=>k3 j (by have hj:i+1≤j:=hj; omega),⟨by show i+1≤_; omega,trivial⟩,?_⟩ (by show s.length - (i+1) < s.length - i; omega)
        show (frL d f (a.length:Int)).length+dN s (i+1)=_
        omega
    · have hie:i=s.length:=by omega
      rw [hie] at h6
      refine ex_intro (fun h8=>ex_yes q2 ?_) (fun h8 => ?_)
      · exact parts h8 none trivial h6
      · refine ex_t (hsm _ _ _ k2 k1 (by omega)) (ex_t (by rw [decide_eq_true (show 1≤(frL d f (a.length:Int)).length by omega),hD]; exact decide_eq_true (hrt _ _ k2 k1 (by show p.length≤_; omega))) ?_)
        exact ex_end (x:=((⟨_,_,_,_,_,_,_,_,_,_,_,_⟩:Bx),0)) ⟨bwX_fit hF _ _,⟨k1,k2⟩,by show p.length≤_; omega⟩ fun C=>wk_rfl _
  | some z =>
    have h6:z.r+dN s i=(frL d f (a.length:Int)).length:=h6
    show Got _ (fun C q=>evP E265 G265 _ (lp265 4) (st265b a b0 c0 x s' d p b f n (i:Int) z.u z.v z.w (frL d f (a.length:Int)) z.q z.r z.o) (rk265 _ _ 4 _))
    simp only [b265b,Int.toNat_natCast,wrap_id (n:=(i:Int)+1) (by omega) (by omega)]
    have mono:=dN_mono s s.length i k4
    refine ex_dec (fun h7 => ?_) (fun h7 => ?_)
    · have hi:i < s'.length:=by omega
      have hb:0≤(i:Int)∧(i:Int) < s'.length:=by omega
      refine ex_yes hb (ex_intro (fun h8 => ?_) (fun h8 => ?_))
      · have h8:dirC (s'.getD i (edflt kc))=true:=h8
        rw [k3 i (Nat.le_refl _)] at h8
        have hm:=dN_t h8
        have hmm:=dN_mono s s.length (i+1) (by omega)
        refine ex_yes hb (ex_t (by rw [decide_eq_true (show 1≤z.r by omega),fitD_sm h5,decide_eq_true (hcm _)]; rfl) (ex_yes hb (ex_yes (by rw [updR_l]; exact hb) ?_)))
        refine next (some ⟨_,_,_,_,_,_⟩,upH s' i _ _ _,i+1) ⟨⟨?_,upH_sm k2 hi _ _ _⟩,fun j hj => ?_,⟨?_,bwX_fit h5 _ _⟩,?_⟩ ?_
        · show (upH s' i _ _ _).length=_
          rw [upH_len]
          exact k1
        · show (upH s' i _ _ _).getD j _=_
          have hj:i+1≤j:=hj
          rw [upH_ne s' (show i≠j by omega)]
          exact k3 j (by omega)
        · show i+1≤_
          omega
        · show z.r - 1+dN s (i+1)=_
          omega
        · show s.length - (i+1) < s.length - i
          omega
      · have h8:dirC (s'.getD i (edflt kc))=false:=h8
        rw [k3 i (Nat.le_refl _)] at h8
        have hm:=dN_f h8
        refine next ((some z),s',i+1) ⟨⟨k1,k2⟩,fun j hj=>k3 j (by have hj:i+1≤j:=hj; omega),⟨by show i+1≤_; omega,h5⟩,?_⟩ (by show s.length - (i+1) < s.length - i; omega)
        show z.r+dN s (i+1)=_
        omega
    · have hie:i=s.length:=by omega
      rw [hie] at h6
      refine ex_intro (fun h8=>ex_yes q2 ?_) (fun h8 => ?_)
      · exact parts h8 (some z) h5 h6
      · refine ex_t (hsm _ _ _ k2 k1 (by omega)) (ex_t (by rw [decide_eq_true (show 1≤z.r by omega),fitD_sm h5]; exact decide_eq_true (hrt _ _ k2 k1 (by show p.length≤_; omega))) ?_)
        exact ex_end (x:=((⟨_,_,_,_,_,_,_,_,_,_,_,_⟩:Bx),0)) ⟨bwX_fit h5 _ _,⟨k1,k2⟩,by show p.length≤_; omega⟩ fun C=>wk_rfl _
def E1:Env:=⟨tt,[17,18,32,33,66,67,68,89,90,91,161],E0.eqs,.skip,[]⟩
noncomputable def E18:Env:=E1.of Tryz.f18
noncomputable def G18:Gk:=gk []
noncomputable def lp18(n:Nat):Code:=(loopOf n (codeOf Tryz.f18)).getD .skip
noncomputable def ct18(L:Lp)(R:Rp)(n:Nat):Kt:=contOf E18 G18 L n (codeOf Tryz.f18) (endK E18 Tryz.f18.results.toList R)
noncomputable def rk18(L:Lp)(R:Rp)(n:Nat)(N:St→Prop):Kt:=rk (jof E18 (lp18 n)) N (ct18 L R n)
def st18(xs:List (Elem ki))(n i:Int):St :=  ⟨(AV.ows 0 :: .val (.int .i64 n) :: vU :: vU :: vI 0 :: .val (.int .i64 i) :: jn 12 ([vU])),[(0,.row ki xs)],1000000,[some 0]⟩
theorem b18(L:Lp)(R:Rp)(N:St→Prop)(xs:List (Elem ki))(n i:Int):(evP E18 G18 L (lp18 2) (st18 xs n i) (rk18 L R 2 N))=(
    br (decide (i < (↑xs.length:Int))) (br (decide (0≤i∧i < (↑xs.length:Int))) (N (st18 (xs.set i.toNat (n,())) (IntKind.i64.wrap (n+1)) (IntKind.i64.wrap (i+1)))) False) (R (some ⟨vI n,[.row ki xs],[some 0]⟩))):=by kernel_rfl
noncomputable def E19:Env:=E1.of Tryz.f19
noncomputable def G19:Gk:=gk []
noncomputable def lp19(n:Nat):Code:=(loopOf n (codeOf Tryz.f19)).getD .skip
noncomputable def ct19(L:Lp)(R:Rp)(n:Nat):Kt:=contOf E19 G19 L n (codeOf Tryz.f19) (endK E19 Tryz.f19.results.toList R)
noncomputable def rk19(L:Lp)(R:Rp)(n:Nat)(N:St→Prop):Kt:=rk (jof E19 (lp19 n)) N (ct19 L R n)
def st19(xs:List (Elem ki))(n i:Int):St :=  ⟨(AV.rsl ki xs :: .val (.int .i64 n) :: vU :: vU :: vI 0 :: .val (.int .i64 i) :: jn 14 ([vU])),[],1000000,[]⟩
theorem b19(L:Lp)(R:Rp)(N:St→Prop)(xs:List (Elem ki))(n i:Int):(evP E19 G19 L (lp19 2) (st19 xs n i) (rk19 L R 2 N))=(
    br (decide (i < (↑xs.length:Int))) (br (decide (0≤i∧i < (↑xs.length:Int))) (br ((xs.getD i.toNat (edflt ki)).1 != n) (R (some ⟨vI (-1),[],[]⟩)) (N (st19 xs (IntKind.i64.wrap (n+1)) (IntKind.i64.wrap (i+1))))) False) (R (some ⟨vI n,[],[]⟩))):=by kernel_rfl
set_option maxHeartbeats 1000000
def E2:Env:=⟨tt,[1000000,17,18,59,61,62,66,67,68,125],E0.eqs,.skip,[]⟩
def kI(xs:List (Elem ki))(t:Int):Nat:=ln (fun i=>decide (atI xs i < t)) xs.length
def addI(xs:List (Elem ki))(t:Int):List (Elem ki):=match decide (t < 13) || hasF xs t with
  | true=>xs
  | false=>xs.take (kI xs t) ++ [(t,())]++xs.drop (kI xs t)
def g125:G1
  | [.ows 0,.val (.int .i64 t)],[.row [.int .i64] xs],k=>br (decide (xs.length≤1048576)) (k ⟨.ows 0,[.row [.int .i64] (addI xs t)],[none]⟩) False
  | _,_,_=>False
def rchS(c:Co)(r:Int):List (Elem ki):=c.2.2.2.1.foldl (fun o e=>addI o e.1) (c.2.1.foldl (fun o e=>addI o (hom e).1) (c.2.2.1.foldl (fun o e=>addI o e.2.1) (addI [] r)))
def g53:G1
  | [.agg us,.val (.int .i64 n)],[],k=>match coreOf us with
    | some c=>br (decide (c.2.1.length+c.2.2.1.length+c.2.2.2.1.length≤1000)) (k ⟨.ows 0,[.row [.int .i64] (rchS c n)],[]⟩) False
    | none=>False
  | _,_,_=>False
def rch(c:Co)(r:Int):List (Elem ki):=match coreOk c.1 c.2.1 c.2.2.1 c.2.2.2.1 c.2.2.2.2.2.1 c.2.2.2.2.2.2 with
  | true=>rchS c r
  | false => []
def g12:G1
  | [.agg us,.val (.int .i64 n)],[],k=>match coreOf us with
    | some c=>br (smB' c) (k ⟨.ows 0,[.row [.int .i64] (rch c n)],[]⟩) False
    | none=>False
  | _,_,_=>False
theorem ok2:Ok Tryz.prog E2:=⟨ttOK,eqsOK,by kernel_rfl⟩
abbrev ltI(a b:Int):Bool:=decide (a < b)
theorem addI_len(xs:List (Elem ki))(t:Int):(addI xs t).length≤xs.length+1:=by
  unfold addI
  split
  · omega
  · simp only [List.length_append,List.length_cons,List.length_nil,List.length_take,List.length_drop]
    omega
theorem fold_len{β:Type}(g:β→Int) : ∀ (l:List β) (o:List (Elem ki)),(l.foldl (fun o e=>addI o (g e)) o).length≤o.length+l.length
  | [],o=>Nat.le_refl _
  | e :: l,o=>by
    have h1:=fold_len g l (addI o (g e))
    have h2:=addI_len o (g e)
    simp only [List.foldl_cons,List.length_cons]
    omega
theorem fold_next{β:Type}(g:β→Int)(l:List β)(dd:β)(o:List (Elem ki)){i:Nat}(hi:i < l.length):(l.take (i+1)).foldl (fun o e=>addI o (g e)) o=addI ((l.take i).foldl (fun o e=>addI o (g e)) o) (g (l.getD i dd)):=by
  rw [take_next l dd hi,List.foldl_append]
  rfl
def rfL(c:Co)(n:Int):List (Elem ki):=match romB c n with
  | true=>frL c.2.2.1 c.2.2.2.2.2.1 n
  | false => []
def g24:G1
  | [.agg us,.val (.int .i64 n)],[],k=>match coreOf us with
    | some c=>br (smB' c) (k ⟨.ows 0,[.row [.int .i64] (rfL c n)],[]⟩) False
    | none=>False
  | _,_,_=>False
theorem rf_f{c:Co}{m:Int}(h:romB c m=false):rfL c m = []:=by unfold rfL; rw [h]
theorem rf_t{x:Int}{s:List (Elem kc)}{d p:List (Elem k3)}{b:Bool}{f:List (Elem ki)}{n m:Int}(h:romB (x,s,d,p,b,f,n) m=true):rfL (x,s,d,p,b,f,n) m=frL d f m:=by unfold rfL; rw [h]
noncomputable def G24:Gk:=gk [(39,g39),(74,g74)]
theorem hg24:HG Tryz.prog G24:=(hg_cons h39 (hg_cons h74 hg_nil))
theorem e24(L:Lp)(R:Rp)(x:Int)(s:List (Elem kc))(d p:List (Elem k3))(b:Bool)(f:List (Elem ki))(n m:Int):(bodyP Ef G24 L Tryz.f24 [coreAV x s d p b f n,.val (.int .i64 m)] [] R)=(
    br (smB' (x,s,d,p,b,f,n)) (br (!coreOk (x,s,d,p,b,f,n).1 (x,s,d,p,b,f,n).2.1 (x,s,d,p,b,f,n).2.2.1 (x,s,d,p,b,f,n).2.2.2.1 (x,s,d,p,b,f,n).2.2.2.2.2.1 (x,s,d,p,b,f,n).2.2.2.2.2.2) (R (some ⟨.ows 0,[.row ki []],[]⟩)) (br (decide (m > 120)) (R (some ⟨.ows 0,[.row ki []],[]⟩)) (br (smCo (x,s,d,p,b,f,n)&&decide (m≤120)) (R (some ⟨.ows 0,[.row ki (frL (x,s,d,p,b,f,n).2.2.1 (x,s,d,p,b,f,n).2.2.2.2.2.1 m)],[]⟩)) False))) False):=by kernel_rfl
theorem h24:G1Ok Tryz.prog 24 g24:=by
  intro args obs k h
  unfold g24 at h
  split at h
  · rename_i k us m
    split at h
    rotate_left
    · exact h.elim
    rename_i c hc
    obtain rfl:=coreOf_inv hc
    obtain ⟨x,s,d,p,b,f,n⟩:=c
    obtain ⟨hp,h⟩:=br_and h
    have hp1:smCo (x,s,d,p,b,f,n)=true:=by
      unfold smB' at hp
      rw [Bool.and_eq_true] at hp
      exact hp.1
    refine ⟨_,ctr_fn okf hg24 Tryz.func24 (by kernel_rfl) (by kernel_rfl) (by kernel_rfl) fun C => ?_,h⟩
    show bodyP Ef G24 _ Tryz.f24 [coreAV x s d p b f n,.val (.int .i64 m)] [] _
    rw [e24]
    refine br_t hp (br_not (fun h1 => ?_) (fun h1=>br_dec (fun h2 => ?_) (fun h2=>br_t (by rw [hp1,decide_eq_true (show m≤120 by omega)]; rfl) ?_)))
    · show _=_
      rw [rf_f (c:=(x,s,d,p,b,f,n)) (m:=m) (by unfold romB; rw [h1]; rfl)]
    · show _=_
      rw [rf_f (c:=(x,s,d,p,b,f,n)) (m:=m) (by unfold romB; rw [decide_eq_false (show ¬ m≤120 by omega),Bool.and_false])]
    · show _=some (⟨.ows 0,[.row [.int .i64] (rfL (x,s,d,p,b,f,n) m)],[]⟩:Res)
      rw [rf_t (by unfold romB; rw [h1,decide_eq_true (show m≤120 by omega)]; rfl)]
  · exact h.elim
noncomputable def G25:Gk:=gk [(70,g70),(71,g71)]
theorem hg25:HG Tryz.prog G25:=(hg_cons h70 (hg_cons h71 hg_nil))
theorem e25(L:Lp)(R:Rp)(x:Int)(s:List (Elem kc))(d p:List (Elem k3))(b:Bool)(f:List (Elem ki))(n m:Int):(bodyP Ef G25 L Tryz.f25 [coreAV x s d p b f n,.val (.int .i64 m)] [] R)=(
    br (smB' (x,s,d,p,b,f,n)) (br (!romB (x,s,d,p,b,f,n) m) (R (some ⟨.ows 0,[.row ki []],[]⟩)) (br (okC (x,s,d,p,b,f,n)&&decide (m≤120)) (R (some ⟨.ows 0,[.row ki (frL (x,s,d,p,b,f,n).2.2.1 (x,s,d,p,b,f,n).2.2.2.2.2.1 m)],[]⟩)) False)) False):=by kernel_rfl
theorem h25:G1Ok Tryz.prog 25 g24:=by
  intro args obs k h
  unfold g24 at h
  split at h
  · rename_i k us m
    split at h
    rotate_left
    · exact h.elim
    rename_i c hc
    obtain rfl:=coreOf_inv hc
    obtain ⟨x,s,d,p,b,f,n⟩:=c
    obtain ⟨hp,h⟩:=br_and h
    have hp1:smCo (x,s,d,p,b,f,n)=true:=by
      unfold smB' at hp
      rw [Bool.and_eq_true] at hp
      exact hp.1
    refine ⟨_,ctr_fn okf hg25 Tryz.func25 (by kernel_rfl) (by kernel_rfl) (by kernel_rfl) fun C => ?_,h⟩
    show bodyP Ef G25 _ Tryz.f25 [coreAV x s d p b f n,.val (.int .i64 m)] [] _
    rw [e25]
    refine br_t hp (br_not (fun h1 => ?_) (fun h1 => ?_))
    · show _=_
      rw [rf_f h1]
    · obtain ⟨hk,hm⟩:=rom_ok h1 hp
      refine br_t (by rw [hk,decide_eq_true hm]; rfl) ?_
      show _=some (⟨.ows 0,[.row [.int .i64] (rfL (x,s,d,p,b,f,n) m)],[]⟩:Res)
      rw [rf_t h1]
  · exact h.elim
end Go.Proofs.YtkjnijddbiconaaGreatDoor.Ev