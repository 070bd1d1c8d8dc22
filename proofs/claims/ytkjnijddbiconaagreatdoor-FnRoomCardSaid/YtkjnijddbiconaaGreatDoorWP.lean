/- The law FnRoom. -/
import Derived.Test.YtkjnijddbiconaaGreatDoorLW
namespace Go.Proofs.YtkjnijddbiconaaGreatDoor.Ev
open Go
set_option linter.unusedVariables false
set_option linter.unusedSimpArgs false
set_option linter.constructorNameAsVariable false
set_option maxRecDepth 100000
noncomputable def si9(x:Int)(s:List (Elem kc))(d p:List (Elem k3))(y:Bool)(f:List (Elem ki))(n m:Int)(g:List (Elem ki))(i j:Int):St :=
  ⟨(AV.junk :: AV.junk :: AV.junk :: AV.ptr 0 0 :: .val (.int .i64 m) :: AV.ows 5 :: AV.ows 6 :: jn 6 (.val (.int .i64 i) :: .val (.int .i64 j) :: jn 176 [])),
    [(0,.box [.val (.int .i64 x),.ows 1,.ows 2,.ows 3,.val (.bool y),.ows 4,.val (.int .i64 n)]),(1,.row kc s),(2,.row k3 d),(3,.row k3 p),(4,.row ki f),(5,.row ki g),(6,.row ki g)],1000000,[]⟩
theorem c9i(L:Lp)(R:Rp)(N N2:St→Prop)(x:Int)(s:List (Elem kc))(d p:List (Elem k3))(y:Bool)(f:List (Elem ki))(n m:Int)(g:List (Elem ki))(i j:Int):(evP E9 G9 L (lp9 20) (si9 x s d p y f n m g i j) (rkn9 L R 15 N 20 N2))=(
    br (decide (j < (↑f.length:Int))) (br (decide (0≤j∧j < (↑f.length:Int))) (br (decide (0≤i∧i < (↑g.length:Int))) (br ((f.getD j.toNat (edflt ki)).1==(g.getD i.toNat (edflt ki)).1) (R (some ⟨vB false,[],[]⟩)) (N2 (si9 x s d p y f n m g i (IntKind.i64.wrap (j+1))))) False) False) (N (st9 x s d p y f n m g (IntKind.i64.wrap (i+1))))):=by kernel_rfl
theorem has_not{f:List (Elem ki)}{t:Int}(h:hasF f t=false){j:Nat}(hj:j < f.length):(atI f j==t)=false:=by
  cases e:atI f j==t with
  | false=>rfl
  | true =>
    have:hasF f t=true:=anyB_t (i:=j) hj e
    rw [this] at h
    cases h
theorem nm9 : ∀ j:Nat,0≤(([(0,()),(13,()),(14,()),(40,()),(60,()),(80,()),(120,()),(121,())]:List (Elem ki)).getD j (edflt ki)).1∧(([(0,()),(13,()),(14,()),(40,()),(60,()),(80,()),(120,()),(121,())]:List (Elem ki)).getD j (edflt ki)).1≤121
  | 0=>by decide
  | 1=>by decide
  | 2=>by decide
  | 3=>by decide
  | 4=>by decide
  | 5=>by decide
  | 6=>by decide
  | 7=>by decide
  | j+8=>⟨by show (0:Int)≤0; decide,by show (0:Int)≤121; decide⟩
theorem lw9(C:Cx){x:Int}{s:List (Elem kc)}{d p:List (Elem k3)}{y:Bool}{f:List (Elem ki)}{n m:Int}(hd:d.length≤1048576)(hf:f.length≤1048576)(hm0:0≤m)(hm1:m≤120) :
    LoopOk Tryz.prog C (lp9 15) (st9 x s d p y f n m (frL d f m) 0) (ct9 (LoopOk Tryz.prog C) (fun o=>o=some ⟨.val (.bool true),[],[]⟩) 15):=by
  have hlen:(frL d f m).length≤(m - 13).toNat:=frP_len d f _
  have hat : ∀ i,i < (frL d f m).length→(13≤atI (frL d f m) i∧atI (frL d f m) i < 13+((m - 13).toNat:Int))∧okD d (atI (frL d f m) i)=false∧hasF f (atI (frL d f m) i)=false:=fun i hi=>frP_at hi
  have hasc : ∀ i j,i < j→j < (frL d f m).length→atI (frL d f m) i < atI (frL d f m) j:=fun i j hij hj=>frP_asc hij hj
  generalize frL d f m=g at *
  refine loopUp okf9 hg9 (α:=Unit) (fun i _=>st9 x s d p y f n m g i) g.length (fun _ _=>True) (fun N i _ hi _ next => ?_) () trivial
  show evP E9 G9 _ (lp9 15) (st9 x s d p y f n m g i) (rk9 _ _ 15 _)
  rw [b9,Int.toNat_natCast]
  refine br_dec (fun h2 => ?_) (fun h2=>rfl)
  have hi':i < g.length:=by omega
  have hb:0≤(i:Int)∧(i:Int) < (g.length:Int):=⟨by omega,h2⟩
  obtain ⟨⟨a1,a2⟩,a3,a4⟩:=hat i hi'
  have hdc:dcI d (atI g i)=0:=dc_0 a3 (by omega) (by omega)
  have inner:LOOPN9 (LoopOk Tryz.prog C) (fun o=>o=some ⟨.val (.bool true),[],[]⟩) 15 N 20 (si9 x s d p y f n m g (i:Int) 0):=by
    refine loopUp okf9 hg9 (α:=Unit) (fun j _=>si9 x s d p y f n m g i j) f.length (fun _ _=>True) (fun N2 j _ hj _ next2 => ?_) () trivial
    show evP E9 G9 _ (lp9 20) (si9 x s d p y f n m g i j) (rkn9 _ _ 15 N 20 _)
    rw [c9i,Int.toNat_natCast,Int.toNat_natCast,wrap_id (n:=(j:Int)+1) (by omega) (by omega),wrap_id (n:=(i:Int)+1) (by omega) (by omega)]
    refine br_dec (fun h5=>br_yes ⟨by omega,h5⟩ (br_yes hb (br_f (has_not a4 (by omega)) (next2 (by omega) () trivial)))) (fun h5=>next hi' () trivial)
  refine br_yes hb (br_yes hb (br_f (by simp) (br_yes hb (br_no (show ¬ atI g i < 13 by omega) (br_yes hb (br_no (show ¬ atI g i≥m by omega) (br_dec (fun h3 => ?_) (fun h3 => ?_))))))))
  · have hw:IntKind.i64.wrap ((i:Int) - 1)=((i - 1:Nat):Int):=by rw [wrap_id (by omega) (by omega)]; omega
    rw [hw,Int.toNat_natCast]
    refine br_yes hb (br_yes ⟨by omega,by omega⟩ (br_no ?_ (br_yes hb (br_yes hd (br_no ?_ inner)))))
    · have:=hasc (i - 1) i (by omega) hi'
      show ¬ atI g i≤atI g (i - 1)
      omega
    · show ¬ dcI d (atI g i) > 0
      omega
  · refine br_yes hb (br_yes hd (br_no ?_ inner))
    show ¬ dcI d (atI g i) > 0
    omega
theorem cnt_fr(d:List (Elem k3))(f:List (Elem ki))(m:Int):ctS d (m - 13).toNat+ctO d f (m - 13).toNat+(frL d f m).length=(m - 13).toNat:=by
  unfold frL
  exact cnt_all d f _
theorem rm_fr{x:Int}{s:List (Elem kc)}{d p:List (Elem k3)}{y:Bool}{f:List (Elem ki)}{n m:Int}(h:rmM (x,s,d,p,y,f,n) m=true):((frL d f m).length:Int) > 16:=by
  have:=rm_len h
  exact this
theorem rom_t{x:Int}{s:List (Elem kc)}{d p:List (Elem k3)}{y:Bool}{f:List (Elem ki)}{n m:Int}(hk:coreOk x s d p f n=true)(hm:m≤120):romB (x,s,d,p,y,f,n) m=true:=by
  unfold romB
  rw [hk,decide_eq_true hm]
  rfl
theorem c9(b:List (Elem ku))(hb:okY b=true):Ctr Tryz.prog 9 [.rsl [.int .u8] b] [] ⟨.val (.bool true),[],[]⟩:=by
  refine ctr_fn okr hg9 Tryz.func9 (by kernel_rfl) (by kernel_rfl) (by kernel_rfl) fun C => ?_
  rw [e9]
  refine br_dec (fun _=>rfl) (fun h1 => ?_)
  have hl:b.length≤1048576:=by omega
  have hq:=drQ hb hl
  have hm:0≤drN b∧drN b≤121:=nm9 _
  have hbl:(okY b&&decide (b.length≤1048576))=true:=by rw [hb,decide_eq_true hl]; rfl
  generalize drN b=m at *
  generalize dwF (opB b) 0=z at *
  obtain ⟨u,v,w,x,s,d,p,y,f,n,r⟩:=z
  obtain ⟨q1,q2,q3,q4,q5,q6,q7⟩:=hq
  dsimp only at q1 q2 q3 q4 q5
  dsimp only
  have q1:s.length≤6:=q1
  have q2:d.length≤100:=q2
  have q3:p.length≤100:=q3
  have q4:f.length≤1002:=q4
  have q5:smCs s=true:=q5
  have sm:smB' (x,s,d,p,y,f,n)=true:=smB_iff.2 ⟨⟨by omega,by omega,by omega,by omega⟩,q5⟩
  have non:romB (x,s,d,p,y,f,n) m=false→br (((rfL (x,s,d,p,y,f,n) m).length:Int)==0) ((some ⟨vB (IntKind.i64.wrap (IntKind.i64.wrap (smS (x,s,d,p,y,f,n) m+smO (x,s,d,p,y,f,n) m)+smF (x,s,d,p,y,f,n) m)==0),[],[]⟩:Option Res)=some ⟨.val (.bool true),[],[]⟩) ((some ⟨vB false,[],[]⟩:Option Res)=some ⟨.val (.bool true),[],[]⟩):=fun h=>by
    rw [rf_f h]
    unfold smS smO smF
    rw [h]
    exact br_t rfl rfl
  refine br_t hbl ?_
  refine br_t sm ?_
  refine br_t sm ?_
  refine br_t sm ?_
  refine br_t sm ?_
  refine br_f (bne_self_eq_false _) ?_
  refine br_f (bne_self_eq_false _) ?_
  refine br_f (bne_self_eq_false _) ?_
  refine br_f (bne_self_eq_false _) ?_
  refine br_t sm ?_
  refine br_t sm ?_
  refine br_f (by cases rmM (x,s,d,p,y,f,n) m<;>rfl) ?_
  refine br_t sm ?_
  refine br_not (fun hk => ?_) (fun hk=>br_dec (fun h2 => ?_) (fun h2 => ?_))
  · refine non ?_
    unfold romB
    rw [hk]
    rfl
  · refine non ?_
    unfold romB
    rw [decide_eq_false (show ¬ m≤120 by omega),Bool.and_false]
  have hR:romB (x,s,d,p,y,f,n) m=true:=rom_t hk (by omega)
  obtain ⟨s1,s2,s3⟩:=sm_t hR
  have hrm:rmM (x,s,d,p,y,f,n) m=true→((frL d f m).length:Int) > 16:=rm_fr
  have hc:=cnt_fr d f m
  have lp:=lw9 C (x:=x) (s:=s) (p:=p) (y:=y) (n:=n) (d:=d) (f:=f) (m:=m) (by omega) (by omega) hm.1 (by omega)
  rw [s1,s2,s3,rf_t hR]
  refine br_dec (fun h3=>br_f ?_ (br_f (by simp) (br_t sm (br_intro (fun h4=>br_no (by have:=hrm h4; omega) lp) (fun h4=>lp))))) (fun h3=>br_f (by simp) (br_t sm (br_intro (fun h4=>br_no (by have:=hrm h4; omega) lp) (fun h4=>lp))))
  rw [wrap_id (n:=(ctS d (m - 13).toNat:Int)+(ctO d f (m - 13).toNat:Int)) (by omega) (by omega),wrap_id (n:=m - 13) (by omega) (by omega),wrap_id (by omega) (by omega)]
  have:(ctS d (m - 13).toNat:Int)+(ctO d f (m - 13).toNat:Int)+((frL d f m).length:Int)=m - 13:=by omega
  rw [this]
  simp
theorem okY_of{b:List (Elem ku)}(h : ∀ e∈b,elemOk ku e):okY b=true:=by
  unfold okY
  rw [List.all_eq_true]
  intro e he
  have h1:(decide (IntKind.u8.min≤(e.1:Int))&&decide ((e.1:Int)≤IntKind.u8.max))=true:=(h e he).1
  simp only [Bool.and_eq_true,decide_eq_true_eq] at h1
  have e0:IntKind.u8.min=0:=rfl
  have e1:IntKind.u8.max=255:=rfl
  have this:0≤(e.1:Int)∧(e.1:Int)≤255:=by
    rw [e0,e1] at h1
    exact h1
  exact decide_eq_true this
end Go.Proofs.YtkjnijddbiconaaGreatDoor.Ev