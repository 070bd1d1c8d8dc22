/- A store that is played: a commit that may begin. -/
import Derived.Test.YtkjnijddbiconaaGreatDoorWH
import Derived.Test.YtkjnijddbiconaaGreatDoorRC
import Derived.Test.YtkjnijddbiconaaGreatDoorWE
namespace Go.Proofs.YtkjnijddbiconaaGreatDoor.Ev
open Go
set_option linter.unusedVariables false
set_option linter.unusedSimpArgs false
set_option maxRecDepth 100000
def fitB(a b:List (Elem ks))(c:List (Elem kl)):Bool:=decide (a.length≤120)&&(decide (b.length≤1000)&&decide (c.length≤1000))
noncomputable def bxP(a b0:List (Elem ks))(c0:List (Elem kl))(c:Co):Bool:=smB' c&&(decide (a.length≤120)&&(fitB a b0 c0&&(decide (ndN c.2.1 c.2.2.1 c.2.2.2.2.1≤((frL c.2.2.1 c.2.2.2.2.2.1 (a.length:Int)).length:Int))&&(decide (c.2.1.length≤100000)&&decide (c.2.2.2.1.length+c.2.2.1.length≤100000)))))
theorem fitB_iff{a b:List (Elem ks)}{c:List (Elem kl)}:fitB a b c=true↔fitD a b c:=by
  unfold fitB fitD
  simp only [Bool.and_eq_true,decide_eq_true_eq]
noncomputable def bxF(a b0:List (Elem ks))(c0:List (Elem kl))(c:Co):Bx:=pick fun y:Bx=>qBx c.2.1 c.2.2.1 c.2.2.2.1 y∧Ctr Tryz.prog 265 [.agg [.ows 0,.ows 1,.ows 2],coreAV c.1 c.2.1 c.2.2.1 c.2.2.2.1 c.2.2.2.2.1 c.2.2.2.2.2.1 c.2.2.2.2.2.2] [.row ks a,.row ks b0,.row kl c0] (fmB a b0 c0 c.1 c.2.2.1 c.2.2.2.2.2.1 c.2.2.2.2.2.2 y)
theorem bxF_ok{a b0:List (Elem ks)}{c0:List (Elem kl)}{c:Co}(h:bxP a b0 c0 c=true):qBx c.2.1 c.2.2.1 c.2.2.2.1 (bxF a b0 c0 c)∧Ctr Tryz.prog 265 [.agg [.ows 0,.ows 1,.ows 2],coreAV c.1 c.2.1 c.2.2.1 c.2.2.2.1 c.2.2.2.2.1 c.2.2.2.2.2.1 c.2.2.2.2.2.2] [.row ks a,.row ks b0,.row kl c0] (fmB a b0 c0 c.1 c.2.2.1 c.2.2.2.2.2.1 c.2.2.2.2.2.2 (bxF a b0 c0 c)):=by
  obtain ⟨x,s,d,p,b,f,n⟩:=c
  unfold bxP at h
  simp only [Bool.and_eq_true,decide_eq_true_eq] at h
  obtain ⟨h1,h2,h3,h4,h5,h6⟩:=h
  exact pick_ok (bxE h1 h2 (fitB_iff.1 h3) h4 h5 h6)
noncomputable def g265:G1
  | [.agg [.ows 0,.ows 1,.ows 2],.agg us],[.row [.str] a,.row [.str] b0,.row [.int .i64,.int .i64,.str] c0],k=>match coreOf us with
    | some c=>br (bxP a b0 c0 c) (k (fmB a b0 c0 c.1 c.2.2.1 c.2.2.2.2.2.1 c.2.2.2.2.2.2 (bxF a b0 c0 c))) False
    | none=>False
  | _,_,_=>False
theorem h265:G1Ok Tryz.prog 265 g265:=by
  intro args obs k h
  unfold g265 at h
  split at h
  · rename_i k us a b0 c0
    split at h
    rotate_left
    · exact h.elim
    rename_i c hc
    obtain rfl:=coreOf_inv hc
    obtain ⟨hp,h⟩:=br_and h
    exact ⟨_,(bxF_ok hp).2,h⟩
  · exact h.elim
noncomputable def G229:Gk:=gk [(265,g265),(266,g266),(267,g267),(53,g53)]
theorem hg229:HG Tryz.prog G229:=(hg_cons h265 (hg_cons h266 (hg_cons h267 (hg_cons h53 hg_nil))))
theorem e229(L:Lp)(R:Rp)(a b0:List (Elem ks))(c0:List (Elem kl))(x:Int)(s:List (Elem kc))(d p:List (Elem k3))(b:Bool)(f:List (Elem ki))(n:Int):(bodyP Er G229 L Tryz.f229 [.agg [.ows 0,.ows 1,.ows 2],coreAV x s d p b f n] [.row ks a,.row ks b0,.row kl c0] R)=(
    br (bxP a b0 c0 (x,s,d,p,b,f,n)) (br (!(bxF a b0 c0 (x,s,d,p,b,f,n)).o) (R (some ⟨.tup [.agg [.ows 0,.ows 1,.ows 2],.agg [vI x,.ows 3,.ows 4,.ows 5,vB (bxF a b0 c0 (x,s,d,p,b,f,n)).b,.ows 6,vI n],vI 7],[.row ks a,.row ks b0,.row kl c0,.row kc (bxF a b0 c0 (x,s,d,p,b,f,n)).s,.row k3 d,.row k3 (bxF a b0 c0 (x,s,d,p,b,f,n)).p,.row ki f],[none,none,none]⟩)) (br (smD (bxF a b0 c0 (x,s,d,p,b,f,n)).u (bxF a b0 c0 (x,s,d,p,b,f,n)).v (bxF a b0 c0 (x,s,d,p,b,f,n)).w) (br (smD (flF (bxF a b0 c0 (x,s,d,p,b,f,n)).u (bxF a b0 c0 (x,s,d,p,b,f,n)).v (bxF a b0 c0 (x,s,d,p,b,f,n)).w).1 (flF (bxF a b0 c0 (x,s,d,p,b,f,n)).u (bxF a b0 c0 (x,s,d,p,b,f,n)).v (bxF a b0 c0 (x,s,d,p,b,f,n)).w).2 []) (br (!(rgX (flF (bxF a b0 c0 (x,s,d,p,b,f,n)).u (bxF a b0 c0 (x,s,d,p,b,f,n)).v (bxF a b0 c0 (x,s,d,p,b,f,n)).w).1 (flF (bxF a b0 c0 (x,s,d,p,b,f,n)).u (bxF a b0 c0 (x,s,d,p,b,f,n)).v (bxF a b0 c0 (x,s,d,p,b,f,n)).w).2 [] (IntKind.i64.wrap (x+1)) (bxF a b0 c0 (x,s,d,p,b,f,n)).r0 (bxF a b0 c0 (x,s,d,p,b,f,n)).r1 (bxF a b0 c0 (x,s,d,p,b,f,n)).r2).2) (R (some ⟨.tup [.agg [.ows 0,.ows 1,.ows 2],.agg [vI x,.ows 3,.ows 4,.ows 5,vB (bxF a b0 c0 (x,s,d,p,b,f,n)).b,.ows 6,vI n],vI 7],[.row ks a,.row ks b0,.row kl c0,.row kc (bxF a b0 c0 (x,s,d,p,b,f,n)).s,.row k3 d,.row k3 (bxF a b0 c0 (x,s,d,p,b,f,n)).p,.row ki f],[none,none,none]⟩)) (br (decide ((IntKind.i64.wrap (x+1),(bxF a b0 c0 (x,s,d,p,b,f,n)).s,d,(bxF a b0 c0 (x,s,d,p,b,f,n)).p,(bxF a b0 c0 (x,s,d,p,b,f,n)).b,(x,s,d,p,b,f,n).2.2.2.2.2).2.1.length+(IntKind.i64.wrap (x+1),(bxF a b0 c0 (x,s,d,p,b,f,n)).s,d,(bxF a b0 c0 (x,s,d,p,b,f,n)).p,(bxF a b0 c0 (x,s,d,p,b,f,n)).b,(x,s,d,p,b,f,n).2.2.2.2.2).2.2.1.length+(IntKind.i64.wrap (x+1),(bxF a b0 c0 (x,s,d,p,b,f,n)).s,d,(bxF a b0 c0 (x,s,d,p,b,f,n)).p,(bxF a b0 c0 (x,s,d,p,b,f,n)).b,(x,s,d,p,b,f,n).2.2.2.2.2).2.2.2.1.length≤1000)) (br (smD (rgX (flF (bxF a b0 c0 (x,s,d,p,b,f,n)).u (bxF a b0 c0 (x,s,d,p,b,f,n)).v (bxF a b0 c0 (x,s,d,p,b,f,n)).w).1 (flF (bxF a b0 c0 (x,s,d,p,b,f,n)).u (bxF a b0 c0 (x,s,d,p,b,f,n)).v (bxF a b0 c0 (x,s,d,p,b,f,n)).w).2 [] (IntKind.i64.wrap (x+1)) (bxF a b0 c0 (x,s,d,p,b,f,n)).r0 (bxF a b0 c0 (x,s,d,p,b,f,n)).r1 (bxF a b0 c0 (x,s,d,p,b,f,n)).r2).1.1 (rgX (flF (bxF a b0 c0 (x,s,d,p,b,f,n)).u (bxF a b0 c0 (x,s,d,p,b,f,n)).v (bxF a b0 c0 (x,s,d,p,b,f,n)).w).1 (flF (bxF a b0 c0 (x,s,d,p,b,f,n)).u (bxF a b0 c0 (x,s,d,p,b,f,n)).v (bxF a b0 c0 (x,s,d,p,b,f,n)).w).2 [] (IntKind.i64.wrap (x+1)) (bxF a b0 c0 (x,s,d,p,b,f,n)).r0 (bxF a b0 c0 (x,s,d,p,b,f,n)).r1 (bxF a b0 c0 (x,s,d,p,b,f,n)).r2).1.2.1 (rgX (flF (bxF a b0 c0 (x,s,d,p,b,f,n)).u (bxF a b0 c0 (x,s,d,p,b,f,n)).v (bxF a b0 c0 (x,s,d,p,b,f,n)).w).1 (flF (bxF a b0 c0 (x,s,d,p,b,f,n)).u (bxF a b0 c0 (x,s,d,p,b,f,n)).v (bxF a b0 c0 (x,s,d,p,b,f,n)).w).2 [] (IntKind.i64.wrap (x+1)) (bxF a b0 c0 (x,s,d,p,b,f,n)).r0 (bxF a b0 c0 (x,s,d,p,b,f,n)).r1 (bxF a b0 c0 (x,s,d,p,b,f,n)).r2).1.2.2) (R (some ⟨.tup [.agg [.ows 0,.ows 1,.ows 2],.agg [vI (IntKind.i64.wrap (x+1)),.ows 3,.ows 4,.ows 5,vB (bxF a b0 c0 (x,s,d,p,b,f,n)).b,.ows 6,vI 0],vI 0],[.row ks (flF (rgX (flF (bxF a b0 c0 (x,s,d,p,b,f,n)).u (bxF a b0 c0 (x,s,d,p,b,f,n)).v (bxF a b0 c0 (x,s,d,p,b,f,n)).w).1 (flF (bxF a b0 c0 (x,s,d,p,b,f,n)).u (bxF a b0 c0 (x,s,d,p,b,f,n)).v (bxF a b0 c0 (x,s,d,p,b,f,n)).w).2 [] (IntKind.i64.wrap (x+1)) (bxF a b0 c0 (x,s,d,p,b,f,n)).r0 (bxF a b0 c0 (x,s,d,p,b,f,n)).r1 (bxF a b0 c0 (x,s,d,p,b,f,n)).r2).1.1 (rgX (flF (bxF a b0 c0 (x,s,d,p,b,f,n)).u (bxF a b0 c0 (x,s,d,p,b,f,n)).v (bxF a b0 c0 (x,s,d,p,b,f,n)).w).1 (flF (bxF a b0 c0 (x,s,d,p,b,f,n)).u (bxF a b0 c0 (x,s,d,p,b,f,n)).v (bxF a b0 c0 (x,s,d,p,b,f,n)).w).2 [] (IntKind.i64.wrap (x+1)) (bxF a b0 c0 (x,s,d,p,b,f,n)).r0 (bxF a b0 c0 (x,s,d,p,b,f,n)).r1 (bxF a b0 c0 (x,s,d,p,b,f,n)).r2).1.2.1 (rgX (flF (bxF a b0 c0 (x,s,d,p,b,f,n)).u (bxF a b0 c0 (x,s,d,p,b,f,n)).v (bxF a b0 c0 (x,s,d,p,b,f,n)).w).1 (flF (bxF a b0 c0 (x,s,d,p,b,f,n)).u (bxF a b0 c0 (x,s,d,p,b,f,n)).v (bxF a b0 c0 (x,s,d,p,b,f,n)).w).2 [] (IntKind.i64.wrap (x+1)) (bxF a b0 c0 (x,s,d,p,b,f,n)).r0 (bxF a b0 c0 (x,s,d,p,b,f,n)).r1 (bxF a b0 c0 (x,s,d,p,b,f,n)).r2).1.2.2).1,.row ks (flF (rgX (flF (bxF a b0 c0 (x,s,d,p,b,f,n)).u (bxF a b0 c0 (x,s,d,p,b,f,n)).v (bxF a b0 c0 (x,s,d,p,b,f,n)).w).1 (flF (bxF a b0 c0 (x,s,d,p,b,f,n)).u (bxF a b0 c0 (x,s,d,p,b,f,n)).v (bxF a b0 c0 (x,s,d,p,b,f,n)).w).2 [] (IntKind.i64.wrap (x+1)) (bxF a b0 c0 (x,s,d,p,b,f,n)).r0 (bxF a b0 c0 (x,s,d,p,b,f,n)).r1 (bxF a b0 c0 (x,s,d,p,b,f,n)).r2).1.1 (rgX (flF (bxF a b0 c0 (x,s,d,p,b,f,n)).u (bxF a b0 c0 (x,s,d,p,b,f,n)).v (bxF a b0 c0 (x,s,d,p,b,f,n)).w).1 (flF (bxF a b0 c0 (x,s,d,p,b,f,n)).u (bxF a b0 c0 (x,s,d,p,b,f,n)).v (bxF a b0 c0 (x,s,d,p,b,f,n)).w).2 [] (IntKind.i64.wrap (x+1)) (bxF a b0 c0 (x,s,d,p,b,f,n)).r0 (bxF a b0 c0 (x,s,d,p,b,f,n)).r1 (bxF a b0 c0 (x,s,d,p,b,f,n)).r2).1.2.1 (rgX (flF (bxF a b0 c0 (x,s,d,p,b,f,n)).u (bxF a b0 c0 (x,s,d,p,b,f,n)).v (bxF a b0 c0 (x,s,d,p,b,f,n)).w).1 (flF (bxF a b0 c0 (x,s,d,p,b,f,n)).u (bxF a b0 c0 (x,s,d,p,b,f,n)).v (bxF a b0 c0 (x,s,d,p,b,f,n)).w).2 [] (IntKind.i64.wrap (x+1)) (bxF a b0 c0 (x,s,d,p,b,f,n)).r0 (bxF a b0 c0 (x,s,d,p,b,f,n)).r1 (bxF a b0 c0 (x,s,d,p,b,f,n)).r2).1.2.2).2,.row kl [],.row kc (bxF a b0 c0 (x,s,d,p,b,f,n)).s,.row k3 d,.row k3 (bxF a b0 c0 (x,s,d,p,b,f,n)).p,.row ki (rchS (IntKind.i64.wrap (x+1),(bxF a b0 c0 (x,s,d,p,b,f,n)).s,d,(bxF a b0 c0 (x,s,d,p,b,f,n)).p,(bxF a b0 c0 (x,s,d,p,b,f,n)).b,(x,s,d,p,b,f,n).2.2.2.2.2) (bxF a b0 c0 (x,s,d,p,b,f,n)).r0),.row ks a,.row ks b0,.row kl c0],[some 7,some 8,some 9]⟩)) False) False)) False) False)) False):=by kernel_rfl
theorem rchS_len(c:Co)(r:Int):(rchS c r).length≤1+c.2.2.1.length+c.2.1.length+c.2.2.2.1.length:=by
  unfold rchS
  have h1:=fold_len (fun e:Elem k3=>(e.1:Int)) c.2.2.2.1 (c.2.1.foldl (fun o e=>addI o (hom e).1) (c.2.2.1.foldl (fun o e=>addI o e.2.1) (addI [] r)))
  have h2:=fold_len (fun e:Elem kc=>((hom e).1:Int)) c.2.1 (c.2.2.1.foldl (fun o e=>addI o e.2.1) (addI [] r))
  have h3:=fold_len (fun e:Elem k3=>(e.2.1:Int)) c.2.2.1 (addI [] r)
  have h4:=addI_len [] r
  simp only [List.length_nil] at h4
  omega
structure Dx where
  ok:Bool
  u:List (Elem ks)
  v:List (Elem ks)
  s:List (Elem kc)
  p:List (Elem k3)
  b:Bool
  f:List (Elem ki)
instance:Inhabited Dx:=⟨⟨false,[],[],[],[],false,[]⟩⟩
def fmD(a b0:List (Elem ks))(c0:List (Elem kl))(x:Int)(d:List (Elem k3))(f:List (Elem ki))(n:Int)(y:Dx):Res:=match y.ok with
  | false=>⟨.tup [.agg [.ows 0,.ows 1,.ows 2],coreOwn x y.b n 3 4 5 6,.val (.int .i64 7)],[.row ks a,.row ks b0,.row kl c0,.row kc y.s,.row k3 d,.row k3 y.p,.row ki f],[none,none,none]⟩
  | true=>⟨.tup [.agg [.ows 0,.ows 1,.ows 2],coreOwn (IntKind.i64.wrap (x+1)) y.b 0 3 4 5 6,.val (.int .i64 0)],[.row ks y.u,.row ks y.v,.row kl [],.row kc y.s,.row k3 d,.row k3 y.p,.row ki y.f,.row ks a,.row ks b0,.row kl c0],[some 7,some 8,some 9]⟩
abbrev qDx(c:Co)(y:Dx):Prop:=(y.u.length≤120∧y.v.length≤1000)∧(y.s.length=c.2.1.length∧smCs y.s=true)∧y.p.length≤c.2.2.2.1.length+c.2.2.1.length∧y.f.length≤1001
theorem dxE{a b0:List (Elem ks)}{c0:List (Elem kl)}{c:Co}(h:bxP a b0 c0 c=true)(hz:c.2.1.length+c.2.2.1.length+(c.2.2.2.1.length+c.2.2.1.length)≤1000) :
    ∃ y:Dx,qDx c y∧Ctr Tryz.prog 229 [.agg [.ows 0,.ows 1,.ows 2],coreAV c.1 c.2.1 c.2.2.1 c.2.2.2.1 c.2.2.2.2.1 c.2.2.2.2.2.1 c.2.2.2.2.2.2] [.row ks a,.row ks b0,.row kl c0] (fmD a b0 c0 c.1 c.2.2.1 c.2.2.2.2.2.1 c.2.2.2.2.2.2 y):=by
  obtain ⟨x,s,d,p,b,f,n⟩:=c
  refine ex_ctr (form:=fun y:Dx=>fmD a b0 c0 x d f n y) okr hg229 Tryz.func229 (by kernel_rfl) (by kernel_rfl) (by kernel_rfl) ?_
  have hq:=(bxF_ok h).1
  simp only [e229]
  generalize bxF a b0 c0 (x,s,d,p,b,f,n)=y at *
  obtain ⟨hq1,⟨hq2,hq3⟩,hq4⟩:=hq
  have hq2:y.s.length=s.length:=hq2
  have hq4:y.p.length≤p.length+d.length:=hq4
  have hz:s.length+d.length+(p.length+d.length)≤1000:=hz
  have hfl:=(flF_ok (fitD_sm hq1)).1
  generalize flF y.u y.v y.w=z at *
  have hz1:fitD z.1 z.2 []:=⟨Nat.le_trans hfl.1 hq1.1,Nat.le_trans hfl.2 hq1.2.1,Nat.zero_le _⟩
  have hr:fitD (rgX z.1 z.2 [] (IntKind.i64.wrap (x+1)) y.r0 y.r1 y.r2).1.1 (rgX z.1 z.2 [] (IntKind.i64.wrap (x+1)) y.r0 y.r1 y.r2).1.2.1 (rgX z.1 z.2 [] (IntKind.i64.wrap (x+1)) y.r0 y.r1 y.r2).1.2.2:=bwX_fit hz1 _ _
  generalize rgX z.1 z.2 [] (IntKind.i64.wrap (x+1)) y.r0 y.r1 y.r2=g at *
  have hfl2:=(flF_ok (fitD_sm hr)).1
  refine ex_t h (ex_not (fun h1 => ?_) (fun h1=>ex_t (fitD_sm hq1) (ex_t (fitD_sm hz1) (ex_not (fun h2 => ?_) (fun h2=>ex_yes ?_ (ex_t (fitD_sm hr) ?_))))))
  · exact ex_end (x:=(⟨false,[],[],y.s,y.p,y.b,[]⟩:Dx)) ⟨⟨Nat.zero_le _,Nat.zero_le _⟩,⟨hq2,hq3⟩,hq4,Nat.zero_le _⟩ fun C=>wk_rfl _
  · exact ex_end (x:=(⟨false,[],[],y.s,y.p,y.b,[]⟩:Dx)) ⟨⟨Nat.zero_le _,Nat.zero_le _⟩,⟨hq2,hq3⟩,hq4,Nat.zero_le _⟩ fun C=>wk_rfl _
  · show y.s.length+d.length+y.p.length≤1000
    omega
  · refine ex_end (x:=(⟨true,_,_,y.s,y.p,y.b,_⟩:Dx)) ⟨⟨Nat.le_trans hfl2.1 hr.1,Nat.le_trans hfl2.2 hr.2.1⟩,⟨hq2,hq3⟩,hq4,?_⟩ fun C=>wk_rfl _
    have:=rchS_len (IntKind.i64.wrap (x+1),y.s,d,y.p,y.b,f,n) y.r0
    have this:(rchS (IntKind.i64.wrap (x+1),y.s,d,y.p,y.b,f,n) y.r0).length≤1+d.length+y.s.length+y.p.length:=this
    refine Nat.le_trans this ?_
    omega
noncomputable def dxF(a b0:List (Elem ks))(c0:List (Elem kl))(c:Co):Dx:=pick fun y:Dx=>qDx c y∧Ctr Tryz.prog 229 [.agg [.ows 0,.ows 1,.ows 2],coreAV c.1 c.2.1 c.2.2.1 c.2.2.2.1 c.2.2.2.2.1 c.2.2.2.2.2.1 c.2.2.2.2.2.2] [.row ks a,.row ks b0,.row kl c0] (fmD a b0 c0 c.1 c.2.2.1 c.2.2.2.2.2.1 c.2.2.2.2.2.2 y)
theorem dxF_ok{a b0:List (Elem ks)}{c0:List (Elem kl)}{c:Co}(h:bxP a b0 c0 c=true)(hz:c.2.1.length+c.2.2.1.length+(c.2.2.2.1.length+c.2.2.1.length)≤1000):qDx c (dxF a b0 c0 c)∧Ctr Tryz.prog 229 [.agg [.ows 0,.ows 1,.ows 2],coreAV c.1 c.2.1 c.2.2.1 c.2.2.2.1 c.2.2.2.2.1 c.2.2.2.2.2.1 c.2.2.2.2.2.2] [.row ks a,.row ks b0,.row kl c0] (fmD a b0 c0 c.1 c.2.2.1 c.2.2.2.2.2.1 c.2.2.2.2.2.2 (dxF a b0 c0 c)):=pick_ok (dxE h hz)
noncomputable def g229:G1
  | [.agg [.ows 0,.ows 1,.ows 2],.agg us],[.row [.str] a,.row [.str] b0,.row [.int .i64,.int .i64,.str] c0],k=>match coreOf us with
    | some c=>br (bxP a b0 c0 c&&decide (c.2.1.length+c.2.2.1.length+(c.2.2.2.1.length+c.2.2.1.length)≤1000)) (br (dxF a b0 c0 c).ok
      (k ⟨.tup [.agg [.ows 0,.ows 1,.ows 2],coreOwn (IntKind.i64.wrap (c.1+1)) (dxF a b0 c0 c).b 0 3 4 5 6,.val (.int .i64 0)],[.row ks (dxF a b0 c0 c).u,.row ks (dxF a b0 c0 c).v,.row kl [],.row kc (dxF a b0 c0 c).s,.row k3 c.2.2.1,.row k3 (dxF a b0 c0 c).p,.row ki (dxF a b0 c0 c).f,.row ks a,.row ks b0,.row kl c0],[some 7,some 8,some 9]⟩)
      (k ⟨.tup [.agg [.ows 0,.ows 1,.ows 2],coreOwn c.1 (dxF a b0 c0 c).b c.2.2.2.2.2.2 3 4 5 6,.val (.int .i64 7)],[.row ks a,.row ks b0,.row kl c0,.row kc (dxF a b0 c0 c).s,.row k3 c.2.2.1,.row k3 (dxF a b0 c0 c).p,.row ki c.2.2.2.2.2.1],[none,none,none]⟩)) False
    | none=>False
  | _,_,_=>False
theorem h229:G1Ok Tryz.prog 229 g229:=by
  intro args obs k h
  unfold g229 at h
  split at h
  · rename_i k us a b0 c0
    split at h
    rotate_left
    · exact h.elim
    rename_i c hc
    obtain rfl:=coreOf_inv hc
    obtain ⟨hp,h⟩:=br_and h
    rw [Bool.and_eq_true] at hp
    refine ⟨_,(dxF_ok hp.1 (of_decide_eq_true hp.2)).2,?_⟩
    unfold fmD
    cases ho:(dxF a b0 c0 c).ok with
    | true=>rw [ho] at h; exact h
    | false=>rw [ho] at h; exact h
  · exact h.elim
noncomputable def G181:Gk:=gk [(79,g79),(39,g39),(226,g226),(227,g227),(228,g228),(229,g229)]
theorem hg181:HG Tryz.prog G181:=(hg_cons h79 (hg_cons h39 (hg_cons h226 (hg_cons h227 (hg_cons h228 (hg_cons h229 hg_nil))))))
theorem e181(L:Lp)(R:Rp)(a b0:List (Elem ks))(c0:List (Elem kl))(x:Int)(s:List (Elem kc))(d p:List (Elem k3))(b:Bool)(f:List (Elem ki))(n:Int):(bodyP Er G181 L Tryz.f181 [.agg [.rsl ks a,.rsl ks b0,.rsl kl c0],coreAV x s d p b f n] [] R)=(
    br (smD a b0 c0) (br (!dkOk a b0 c0) (R (some ⟨.tup [.agg [.ows 0,.ows 1,.ows 2],.agg [vI 0,.ows 3,.ows 4,.ows 5,vB false,.ows 6,vI 0],vI 5],[.row ks [],.row ks [],.row kl [],.row kc [],.row k3 [],.row k3 [],.row ki []],[]⟩)) (br (smB' (x,s,d,p,b,f,n)) (br (!coreOk x s d p f n) (R (some ⟨.tup [.agg [.ows 0,.ows 1,.ows 2],.agg [vI 0,.ows 3,.ows 4,.ows 5,vB false,.ows 6,vI 0],vI 5],[.row ks [],.row ks [],.row kl [],.row kc [],.row k3 [],.row k3 [],.row ki []],[]⟩)) (br (decide ((↑a.length:Int)≤13)) (R (some ⟨.tup [.agg [.ows 0,.ows 1,.ows 2],.agg [vI 0,.ows 3,.ows 4,.ows 5,vB false,.ows 6,vI 0],vI 5],[.row ks [],.row ks [],.row kl [],.row kc [],.row k3 [],.row k3 [],.row ki []],[]⟩)) (br (smCo (x,s,d,p,b,f,n)&&decide (a.length≤120)) (br (!myB x s d b f (↑a.length:Int)) (br (smD a b0 c0) (br (smCo (x,s,d,p,b,f,n)) (R (some ⟨.tup [.agg [.ows 0,.ows 1,.ows 2],.agg [vI x,.ows 3,.ows 4,.ows 5,vB b,.ows 6,vI n],vI 7],[.row ks a,.row ks b0,.row kl c0,.row kc s,.row k3 d,.row k3 p,.row ki f],[]⟩)) False) False) (br (smD a b0 c0) (br (bxP a b0 c0 (x,s,d,p,b,f,n)&&decide (s.length+d.length+(p.length+d.length)≤1000)) (br (dxF a b0 c0 (x,s,d,p,b,f,n)).ok (R (some ⟨.tup [.agg [.ows 0,.ows 1,.ows 2],.agg [vI (IntKind.i64.wrap (x+1)),.ows 3,.ows 4,.ows 5,vB (dxF a b0 c0 (x,s,d,p,b,f,n)).b,.ows 6,vI 0],vI 0],[.row ks (dxF a b0 c0 (x,s,d,p,b,f,n)).u,.row ks (dxF a b0 c0 (x,s,d,p,b,f,n)).v,.row kl [],.row kc (dxF a b0 c0 (x,s,d,p,b,f,n)).s,.row k3 d,.row k3 (dxF a b0 c0 (x,s,d,p,b,f,n)).p,.row ki (dxF a b0 c0 (x,s,d,p,b,f,n)).f],[]⟩)) (br (smD a b0 c0) (br (smCo (x,s,d,p,b,f,n)) (R (some ⟨.tup [.agg [.ows 0,.ows 1,.ows 2],.agg [vI x,.ows 3,.ows 4,.ows 5,vB b,.ows 6,vI n],vI 7],[.row ks a,.row ks b0,.row kl c0,.row kc s,.row k3 d,.row k3 p,.row ki f],[]⟩)) False) False)) False) False)) False))) False)) False):=by kernel_rfl
structure Sx where
  u:List (Elem ks)
  v:List (Elem ks)
  w:List (Elem kl)
  x:Int
  s:List (Elem kc)
  d:List (Elem k3)
  p:List (Elem k3)
  b:Bool
  f:List (Elem ki)
  n:Int
  code:Int
instance:Inhabited Sx:=⟨⟨[],[],[],0,[],[],[],false,[],0,0⟩⟩
def fcB(m:Nat)(c:Co):Bool:=decide (c.2.1.length≤m)&&(decide (c.2.2.1.length≤100)&&(decide (c.2.2.2.1.length≤100)&&(decide (c.2.2.2.2.2.1.length≤1001)&&smCs c.2.1)))
abbrev fmS(y:Sx):Res:=⟨.tup [.agg [.ows 0,.ows 1,.ows 2],coreOwn y.x y.b y.n 3 4 5 6,.val (.int .i64 y.code)],[.row ks y.u,.row ks y.v,.row kl y.w,.row kc y.s,.row k3 y.d,.row k3 y.p,.row ki y.f],[]⟩
theorem fcB_iff{m:Nat}{x:Int}{s:List (Elem kc)}{d p:List (Elem k3)}{b:Bool}{f:List (Elem ki)}{n:Int}:fcB m (x,s,d,p,b,f,n)=true↔s.length≤m∧d.length≤100∧p.length≤100∧f.length≤1001∧smCs s=true:=by
  unfold fcB
  simp only [Bool.and_eq_true,decide_eq_true_eq]
def fitS'(m:Nat)(y:Sx):Prop:=fitD y.u y.v y.w∧y.s.length≤m∧y.d.length≤100∧y.p.length≤100∧y.f.length≤1001∧smCs y.s=true
abbrev qSx(m:Nat)(y:Sx):Prop:=fitS' (max 6 m) y∧(y.code=0→y.s.length≤6∧y.s.length=m)
theorem smCs_nil:smCs []=true:=rfl
theorem cok_len{x:Int}{s:List (Elem kc)}{d p:List (Elem k3)}{f:List (Elem ki)}{n:Int}(h:coreOk x s d p f n=true):s.length≤6∧d.length≤48∧p.length≤8:=by
  unfold coreOk at h
  simp only [Bool.and_eq_true,decide_eq_true_eq] at h
  obtain ⟨_,h1,h2,_,_,_,_,h3,_⟩:=h
  refine ⟨?_,?_,by omega⟩
  · unfold bookOk at h3
    simp only [Bool.and_eq_true,decide_eq_true_eq] at h3
    have:=h3.1
    unfold bkS at this
    rw [List.length_map] at this
    omega
  · exact ddtOk_len h1
theorem dkOk_a{a b:List (Elem ks)}{c:List (Elem kl)}(h:dkOk a b c=true):a.length≤120:=by
  simp only [dkOk,Bool.and_eq_true,decide_eq_true_eq] at h
  exact h.1.1.1.1.1.2
theorem cdE{a b0:List (Elem ks)}{c0:List (Elem kl)}{c:Co}(hF:fitB a b0 c0=true)(hC:fcB 101 c=true) :
    ∃ y:Sx,qSx c.2.1.length y∧Ctr Tryz.prog 181 [.agg [.rsl ks a,.rsl ks b0,.rsl kl c0],coreAV c.1 c.2.1 c.2.2.1 c.2.2.2.1 c.2.2.2.2.1 c.2.2.2.2.2.1 c.2.2.2.2.2.2] [] (fmS y):=by
  obtain ⟨x,s,d,p,b,f,n⟩:=c
  obtain ⟨h1,h2,h3,h4,h5⟩:=fcB_iff.1 hC
  have hF':=fitB_iff.1 hF
  have hD:=fitD_sm hF'
  have hB:smB' (x,s,d,p,b,f,n)=true:=smB_iff.2 ⟨⟨by omega,by omega,by omega,by omega⟩,h5⟩
  have hCo:smCo (x,s,d,p,b,f,n)=true:=by unfold smB' at hB; rw [Bool.and_eq_true] at hB; exact hB.1
  refine ex_ctr (form:=fun y:Sx=>fmS y) okr hg181 Tryz.func181 (by kernel_rfl) (by kernel_rfl) (by kernel_rfl) ?_
  simp only [e181]
  have zero : ∀ k:Int,k≠0→qSx s.length ⟨[],[],[],0,[],[],[],false,[],0,k⟩:=fun k hk=>⟨⟨fitD_nil,Nat.zero_le _,Nat.zero_le _,Nat.zero_le _,Nat.zero_le _,smCs_nil⟩,fun e=>absurd e hk⟩
  have same : ∀ k:Int,k≠0→qSx s.length ⟨a,b0,c0,x,s,d,p,b,f,n,k⟩:=fun k hk=>⟨⟨hF',by show s.length≤max 6 s.length; omega,h2,h3,h4,h5⟩,fun e=>absurd e hk⟩
  refine ex_t hD (ex_not (fun g1=>ex_end (zero 5 (by decide)) fun C=>wk_rfl _) (fun g1=>ex_t hB (ex_not (fun g2=>ex_end (zero 5 (by decide)) fun C=>wk_rfl _) (fun g2=>ex_dec (fun g3=>ex_end (zero 5 (by decide)) fun C=>wk_rfl _) (fun g3 => ?_)))))
  have ha:=dkOk_a g1
  obtain ⟨l1,l2,l3⟩:=cok_len g2
  refine ex_t (by rw [hCo,decide_eq_true ha]; rfl) (ex_not (fun g4=>ex_t hD (ex_t hCo (ex_end (same 7 (by decide)) fun C=>wk_rfl _))) (fun g4=>ex_t hD ?_))
  have hP:bxP a b0 c0 (x,s,d,p,b,f,n)=true:=by
    unfold myB at g4
    rw [Bool.and_eq_true,decide_eq_true_eq,decide_eq_true_eq] at g4
    unfold bxP
    rw [hB,hF,decide_eq_true ha,decide_eq_true (show s.length≤100000 by omega),decide_eq_true (show p.length+d.length≤100000 by omega)]
    have g5:decide (ndN s d b≤((frL d f (a.length:Int)).length:Int))=true:=decide_eq_true g4.2
    show (true&&(true&&(true&&(decide (ndN s d b≤((frL d f (a.length:Int)).length:Int))&&(true&&true)))))=true
    rw [g5]
    rfl
  have hz:s.length+d.length+(p.length+d.length)≤1000:=by omega
  have hq:=(dxF_ok hP hz).1
  generalize dxF a b0 c0 (x,s,d,p,b,f,n)=y at *
  obtain ⟨⟨y1,y2⟩,⟨y3,y4⟩,y5,y6⟩:=hq
  have y3:y.s.length=s.length:=y3
  have y5:y.p.length≤p.length+d.length:=y5
  refine ex_t (by rw [hP,decide_eq_true hz]; rfl) (ex_intro (fun g5 => ?_) (fun g5=>ex_t hD (ex_t hCo (ex_end (same 7 (by decide)) fun C=>wk_rfl _))))
  exact ex_end (x:=(⟨_,_,_,_,_,_,_,_,_,_,_⟩:Sx)) ⟨⟨⟨y1,y2,Nat.zero_le _⟩,by show y.s.length≤max 6 s.length; omega,by show d.length≤_; omega,by show y.p.length≤_; omega,y6,y4⟩,fun _=>⟨by show y.s.length≤_; omega,y3⟩⟩ fun C=>wk_rfl _
noncomputable def cdF(a b0:List (Elem ks))(c0:List (Elem kl))(c:Co):Sx:=pick fun y:Sx=>qSx c.2.1.length y∧Ctr Tryz.prog 181 [.agg [.rsl ks a,.rsl ks b0,.rsl kl c0],coreAV c.1 c.2.1 c.2.2.1 c.2.2.2.1 c.2.2.2.2.1 c.2.2.2.2.2.1 c.2.2.2.2.2.2] [] (fmS y)
theorem cdF_ok{a b0:List (Elem ks)}{c0:List (Elem kl)}{c:Co}(hF:fitB a b0 c0=true)(hC:fcB 101 c=true):qSx c.2.1.length (cdF a b0 c0 c)∧Ctr Tryz.prog 181 [.agg [.rsl ks a,.rsl ks b0,.rsl kl c0],coreAV c.1 c.2.1 c.2.2.1 c.2.2.2.1 c.2.2.2.2.1 c.2.2.2.2.2.1 c.2.2.2.2.2.2] [] (fmS (cdF a b0 c0 c)):=pick_ok (cdE hF hC)
noncomputable def g181:G1
  | [.agg [.rsl [.str] a,.rsl [.str] b0,.rsl [.int .i64,.int .i64,.str] c0],.agg us],[],k=>match coreOf us with
    | some c=>br (fitB a b0 c0&&fcB 101 c) (k (fmS (cdF a b0 c0 c))) False
    | none=>False
  | _,_,_=>False
theorem h181:G1Ok Tryz.prog 181 g181:=by
  intro args obs k h
  unfold g181 at h
  split at h
  · rename_i k a b0 c0 us
    split at h
    rotate_left
    · exact h.elim
    rename_i c hc
    obtain rfl:=coreOf_inv hc
    obtain ⟨hp,h⟩:=br_and h
    rw [Bool.and_eq_true] at hp
    exact ⟨_,(cdF_ok hp.1 hp.2).2,h⟩
  · exact h.elim
noncomputable def G179:Gk:=gk [(187,g187),(181,g181)]
theorem hg179:HG Tryz.prog G179:=(hg_cons h187 (hg_cons h181 hg_nil))
theorem e179(L:Lp)(R:Rp)(n:Int):(bodyP Er G179 L Tryz.f179 [.val (.int .i64 n)] [] R)=(
    br (decide (1≤n∧n≤120)) (br (fitB (List.replicate n.toNat (edflt ks)) (List.replicate n.toNat (edflt ks)) []&&true) (R (some ⟨.tup [.agg [.ows 0,.ows 1,.ows 2],.agg [vI (cdF (List.replicate n.toNat (edflt ks)) (List.replicate n.toNat (edflt ks)) [] (0,[],[],[],false,[],0)).x,.ows 3,.ows 4,.ows 5,vB (cdF (List.replicate n.toNat (edflt ks)) (List.replicate n.toNat (edflt ks)) [] (0,[],[],[],false,[],0)).b,.ows 6,vI (cdF (List.replicate n.toNat (edflt ks)) (List.replicate n.toNat (edflt ks)) [] (0,[],[],[],false,[],0)).n],vB ((cdF (List.replicate n.toNat (edflt ks)) (List.replicate n.toNat (edflt ks)) [] (0,[],[],[],false,[],0)).code==0)],[.row ks (cdF (List.replicate n.toNat (edflt ks)) (List.replicate n.toNat (edflt ks)) [] (0,[],[],[],false,[],0)).u,.row ks (cdF (List.replicate n.toNat (edflt ks)) (List.replicate n.toNat (edflt ks)) [] (0,[],[],[],false,[],0)).v,.row kl (cdF (List.replicate n.toNat (edflt ks)) (List.replicate n.toNat (edflt ks)) [] (0,[],[],[],false,[],0)).w,.row kc (cdF (List.replicate n.toNat (edflt ks)) (List.replicate n.toNat (edflt ks)) [] (0,[],[],[],false,[],0)).s,.row k3 (cdF (List.replicate n.toNat (edflt ks)) (List.replicate n.toNat (edflt ks)) [] (0,[],[],[],false,[],0)).d,.row k3 (cdF (List.replicate n.toNat (edflt ks)) (List.replicate n.toNat (edflt ks)) [] (0,[],[],[],false,[],0)).p,.row ki (cdF (List.replicate n.toNat (edflt ks)) (List.replicate n.toNat (edflt ks)) [] (0,[],[],[],false,[],0)).f],[]⟩)) False) False):=by kernel_rfl
theorem cnF_ok0{n:Int}(hn:1≤n∧n≤120):fitB (List.replicate n.toNat (edflt ks)) (List.replicate n.toNat (edflt ks)) []=true:=by
  refine fitB_iff.2 ⟨?_,?_,Nat.zero_le _⟩
  · rw [List.length_replicate]; omega
  · rw [List.length_replicate]; omega
noncomputable def cnF(n:Int):Sx:=cdF (List.replicate n.toNat (edflt ks)) (List.replicate n.toNat (edflt ks)) [] (0,[],[],[],false,[],0)
noncomputable def g179:G1
  | [.val (.int .i64 n)],[],k=>br (decide (1≤n∧n≤120)) (k ⟨.tup [.agg [.ows 0,.ows 1,.ows 2],coreOwn (cnF n).x (cnF n).b (cnF n).n 3 4 5 6,.val (.bool ((cnF n).code==0))],[.row ks (cnF n).u,.row ks (cnF n).v,.row kl (cnF n).w,.row kc (cnF n).s,.row k3 (cnF n).d,.row k3 (cnF n).p,.row ki (cnF n).f],[]⟩) False
  | _,_,_=>False
theorem cnF_ok{n:Int}(hn:1≤n∧n≤120):fitS' 6 (cnF n):=(cdF_ok (c:=(0,[],[],[],false,[],0)) (cnF_ok0 hn) rfl).1.1
theorem h179:G1Ok Tryz.prog 179 g179:=by
  intro args obs k h
  unfold g179 at h
  split at h
  · rename_i k n
    obtain ⟨hn,h⟩:=brd h
    refine ⟨_,ctr_fn okr hg179 Tryz.func179 (by kernel_rfl) (by kernel_rfl) (by kernel_rfl) fun C => ?_,h⟩
    rw [e179]
    exact br_yes hn (br_t (by rw [cnF_ok0 hn]; rfl) rfl)
  · exact h.elim
def decE(e:Elem k3):Elem k3:=(e.1,e.2.1,IntKind.i64.wrap (e.2.2.1 - 1),())
def dropK(xs:List (Elem k3))(k:Nat):List (Elem k3):=match IntKind.i64.wrap ((at3 xs k).2.2.1 - 1)==0 with
  | true=>xs.take k++xs.drop (k+1)
  | false=>xs.set k (decE (at3 xs k))
def ddR(xs:List (Elem k3))(t:Int):List (Elem k3) × Bool:=match ddtOk xs with
  | false=>([],false)
  | true=>match okD xs t with
    | false=>(xs,false)
    | true=>(dropK xs (lnD xs t),true)
def g299:G1
  | [.rsl [.int .i64,.int .i64,.int .i64] xs,.val (.int .i64 t)],[],k=>br (decide (xs.length≤1048576)) (k ⟨.tup [.ows 0,.val (.bool (ddR xs t).2)],[.row k3 (ddR xs t).1],[]⟩) False
  | _,_,_=>False
theorem at_set{xs:List (Elem k3)}{k:Nat}(h:k < xs.length)(e:Elem k3):(xs.set k e).getD k (edflt k3)=e:=by
  rw [List.getD_eq_getElem?_getD,List.getElem?_set_self h]
  rfl
noncomputable def G299:Gk:=gk [(72,g72),(46,g112),(238,g238)]
theorem hg299:HG Tryz.prog G299:=(hg_cons h72 (hg_cons h46 (hg_cons h238 hg_nil)))
theorem e299(L:Lp)(R:Rp)(xs:List (Elem k3))(t:Int):(bodyP Ef G299 L Tryz.f299 [.rsl k3 xs,.val (.int .i64 t)] [] R)=(
    br (decide (xs.length≤1048576)) (br (!ddtOk xs) (R (some ⟨.tup [.ows 0,vB false],[.row k3 []],[]⟩)) (br (decide (xs.length≤1048576)) (br (decide (xs.length≤1048576)) (br (!okD xs t) (R (some ⟨.tup [.ows 0,vB false],[.row k3 xs],[]⟩)) (br (decide (0≤(↑(lnD xs t):Int)∧(↑(lnD xs t):Int) < (↑xs.length:Int))) (br (decide (0≤(↑(lnD xs t):Int)∧(↑(lnD xs t):Int) < (↑xs.length:Int))) (br (decide (0≤(↑(lnD xs t):Int)∧(↑(lnD xs t):Int) < (↑(xs.set (↑(lnD xs t):Int).toNat ((xs.getD (↑(lnD xs t):Int).toNat (edflt k3)).1,(xs.getD (↑(lnD xs t):Int).toNat (edflt k3)).2.1,IntKind.i64.wrap ((xs.getD (↑(lnD xs t):Int).toNat (edflt k3)).2.2.1 - 1),())).length:Int))) (br (((xs.set (↑(lnD xs t):Int).toNat ((xs.getD (↑(lnD xs t):Int).toNat (edflt k3)).1,(xs.getD (↑(lnD xs t):Int).toNat (edflt k3)).2.1,IntKind.i64.wrap ((xs.getD (↑(lnD xs t):Int).toNat (edflt k3)).2.2.1 - 1),())).getD (↑(lnD xs t):Int).toNat (edflt k3)).2.2.1==0) (br (decide ((0:Int)≤0∧0≤(↑(lnD xs t):Int)∧(↑(lnD xs t):Int)≤(↑xs.length:Int)∧(↑xs.length:Int)≤(↑xs.length:Int))) (br (decide ((List.drop 0 (List.take (↑(lnD xs t):Int).toNat xs)).length≤1048576)) (br (decide (0≤IntKind.i64.wrap ((↑(lnD xs t):Int)+1)∧IntKind.i64.wrap ((↑(lnD xs t):Int)+1)≤(↑xs.length:Int)∧(↑xs.length:Int)≤(↑xs.length:Int)∧(↑xs.length:Int)≤(↑xs.length:Int))) (br (decide (((List.drop 0 (List.take (↑(lnD xs t):Int).toNat xs)).length+(List.drop (IntKind.i64.wrap ((↑(lnD xs t):Int)+1)).toNat (List.take (↑xs.length:Int).toNat xs)).length) * 24≤140737488355328)) (R (some ⟨.tup [.ows 0,vB true],[.row k3 (List.drop 0 (List.take (↑(lnD xs t):Int).toNat xs)++List.drop (IntKind.i64.wrap ((↑(lnD xs t):Int)+1)).toNat (List.take (↑xs.length:Int).toNat xs))],[]⟩)) False) False) False) False) (R (some ⟨.tup [.ows 0,vB true],[.row k3 (xs.set (↑(lnD xs t):Int).toNat ((xs.getD (↑(lnD xs t):Int).toNat (edflt k3)).1,(xs.getD (↑(lnD xs t):Int).toNat (edflt k3)).2.1,IntKind.i64.wrap ((xs.getD (↑(lnD xs t):Int).toNat (edflt k3)).2.2.1 - 1),()))],[]⟩))) False) False) False)) False) False)) False):=by kernel_rfl
theorem h299:G1Ok Tryz.prog 299 g299:=by
  intro args obs k h
  unfold g299 at h
  split at h
  · rename_i k xs t
    obtain ⟨hl,h⟩:=br_and h
    have hl':=of_decide_eq_true hl
    refine ⟨_,ctr_fn okf hg299 Tryz.func299 (by kernel_rfl) (by kernel_rfl) (by kernel_rfl) fun C => ?_,h⟩
    rw [e299]
    rw [Int.toNat_natCast]
    unfold ddR
    refine br_t hl (br_not (fun h1 => ?_) (fun h1=>br_t hl (br_t hl (br_not (fun h2 => ?_) (fun h2 => ?_)))))
    · rw [h1]
    · rw [h1,h2]
    · have hlt:=okD_lt h2
      have hb:0≤(lnD xs t:Int)∧(lnD xs t:Int) < xs.length:=by omega
      have hw:IntKind.i64.wrap ((lnD xs t:Int)+1)=((lnD xs t+1:Nat):Int):=by rw [wrap_id (by omega) (by omega)]; omega
      rw [at_set hlt,hw,Int.toNat_natCast,Int.toNat_natCast,h1,h2]
      have e1:(xs.take (lnD xs t)).length≤xs.length:=by rw [List.length_take]; omega
      have e2:(xs.drop (lnD xs t+1)).length≤xs.length:=by rw [List.length_drop]; omega
      refine br_yes hb (br_yes hb (br_yes (by rw [List.length_set]; exact hb) (br_intro (fun h3 => ?_) (fun h3 => ?_))))
      · rw [List.drop_zero,List.take_of_length_le (Nat.le_refl xs.length)]
        refine br_yes ⟨by omega,by omega,by omega,by omega⟩ (br_yes (by omega) (br_yes ⟨by omega,by omega,by omega,by omega⟩ (br_yes (by omega) ?_)))
        unfold dropK
        have h3:(IntKind.i64.wrap ((at3 xs (lnD xs t)).2.2.1 - 1)==0)=true:=h3
        rw [h3]
      · unfold dropK
        have h3:(IntKind.i64.wrap ((at3 xs (lnD xs t)).2.2.1 - 1)==0)=false:=h3
        rw [h3]
        rfl
  · exact h.elim
theorem dropK_len(xs:List (Elem k3))(k:Nat):(dropK xs k).length≤xs.length:=by
  unfold dropK
  split
  · rw [List.length_append,List.length_take,List.length_drop]
    omega
  · rw [List.length_set]
    exact Nat.le_refl _
theorem ddR_len(xs:List (Elem k3))(t:Int):(ddR xs t).1.length≤xs.length:=by
  unfold ddR
  split
  · exact Nat.zero_le _
  · split
    · exact Nat.le_refl _
    · exact dropK_len xs _
theorem daR_len(xs:List (Elem k3))(s t:Int):(daR xs s t).1.length≤xs.length+1:=by
  have hk:=lnD_le xs t
  unfold daR
  repeat' split
  all_goals simp
  omega
theorem daR_49(xs:List (Elem k3))(s t:Int):(daR xs s t).1.length≤49:=by
  cases hd:ddtOk xs with
  | false =>
    unfold daR
    rw [hd]
    exact Nat.zero_le _
  | true =>
    have h48:xs.length≤48:=by
      unfold ddtOk at hd
      rw [Bool.and_eq_true] at hd
      exact of_decide_eq_true hd.1
    have:=daR_len xs s t
    omega
end Go.Proofs.YtkjnijddbiconaaGreatDoor.Ev