/- The law of RoomReach: the walks. -/
import Derived.Test.YtkjnijddbiconaaGreatDoorWH
namespace Go.Proofs.YtkjnijddbiconaaGreatDoor.Ev
open Go
set_option linter.unusedVariables false
set_option linter.unusedSimpArgs false
set_option maxRecDepth 100000
set_option maxHeartbeats 1000000
abbrev kpI(e:Elem ki):Bool := !decide ((e.1:Int) < 13)
noncomputable def E125:Env:=E2.of Tryz.f125
noncomputable def G125:Gk:=gk [(73,g73)]
noncomputable def lp125(n:Nat):Code:=(loopOf n (codeOf Tryz.f125)).getD .skip
noncomputable def ct125(L:Lp)(R:Rp)(n:Nat):Kt:=contOf E125 G125 L n (codeOf Tryz.f125) (endK E125 Tryz.f125.results.toList R)
noncomputable def rk125(L:Lp)(R:Rp)(n:Nat)(N:St→Prop):Kt:=rk (jof E125 (lp125 n)) N (ct125 L R n)
noncomputable def LOOP125(L:Lp)(R:Rp)(n:Nat)(st:St):Prop:=L (lp125 n) st (ct125 L R n)
theorem hg125:HG Tryz.prog G125:=(hg_cons h73 hg_nil)
theorem okf125:Ok Tryz.prog E125:=ok2.of Tryz.f125
theorem e125(L:Lp)(R:Rp)(xs:List (Elem ki))(t:Int):(bodyP E2 G125 L Tryz.f125 [.ows 0,.val (.int .i64 t)] [.row ki xs] R)=(
    br (decide (t < 13)) (R (some ⟨.ows 0,[.row ki xs],[none]⟩)) (br (decide (xs.length≤1048576)) (br (hasF xs t) (R (some ⟨.ows 0,[.row ki xs],[none]⟩)) (LOOP125 L R 4 ⟨(.ows 0 :: vI t :: vJ :: vJ :: vJ :: vI 0 :: jn 36 []),[(0,.row ki xs)],1000000,[some 0]⟩)) False)):=by kernel_rfl
def st125(xs:List (Elem ki))(t i:Int):St :=  ⟨(AV.ows 0 :: vI t :: vJ :: vJ :: vJ :: .val (.int .i64 i) :: jn 36 []),[(0,AO.row ki xs)],1000000,[some 0]⟩
theorem b125(L:Lp)(R:Rp)(N:St→Prop)(xs:List (Elem ki))(t i:Int):(evP E125 G125 L (lp125 4) (st125 xs t i) (rk125 L R 4 N))=(
    br (decide (i < (↑xs.length:Int))) (br (decide (0≤i∧i < (↑xs.length:Int))) (br (decide ((xs.getD i.toNat (edflt ki)).1 < t)) (N (st125 xs t (IntKind.i64.wrap (i+1)))) (br (decide (0≤i∧i≤(↑xs.length:Int)∧(↑xs.length:Int)≤(↑xs.length:Int)∧(↑xs.length:Int)≤(↑xs.length:Int))) (br (decide ((0+(List.take ((↑xs.length:Int) - i).toNat (List.drop i.toNat xs)).length) * 8≤140737488355328)) (br (decide ((0:Int)≤0∧0≤i∧i≤(↑xs.length:Int)∧(↑xs.length:Int)≤(↑xs.length:Int))) (br (decide (((List.take (i - 0).toNat (List.drop 0 xs)).length + [(t,())].length) * 8≤140737488355328)) (br (decide (((List.take (i - 0).toNat (List.drop 0 xs) ++ [(t,())]).length+([]++List.take ((↑xs.length:Int) - i).toNat (List.drop i.toNat xs)).length) * 8≤140737488355328)) (R (some ⟨.ows 0,[.row ki (List.take (i - 0).toNat (List.drop 0 xs) ++ [(t,())]++([]++List.take ((↑xs.length:Int) - i).toNat (List.drop i.toNat xs)))],[none]⟩)) False) False) False) False) False)) False) (br (decide (0≤i∧i≤(↑xs.length:Int)∧(↑xs.length:Int)≤(↑xs.length:Int)∧(↑xs.length:Int)≤(↑xs.length:Int))) (br (decide ((0+(List.take ((↑xs.length:Int) - i).toNat (List.drop i.toNat xs)).length) * 8≤140737488355328)) (br (decide ((0:Int)≤0∧0≤i∧i≤(↑xs.length:Int)∧(↑xs.length:Int)≤(↑xs.length:Int))) (br (decide (((List.take (i - 0).toNat (List.drop 0 xs)).length + [(t,())].length) * 8≤140737488355328)) (br (decide (((List.take (i - 0).toNat (List.drop 0 xs) ++ [(t,())]).length+([]++List.take ((↑xs.length:Int) - i).toNat (List.drop i.toNat xs)).length) * 8≤140737488355328)) (R (some ⟨.ows 0,[.row ki (List.take (i - 0).toNat (List.drop 0 xs) ++ [(t,())]++([]++List.take ((↑xs.length:Int) - i).toNat (List.drop i.toNat xs)))],[none]⟩)) False) False) False) False) False)):=by kernel_rfl
theorem h125:G1Ok Tryz.prog 125 g125:=by
  intro args obs k h
  unfold g125 at h
  split at h
  · rename_i k t xs
    obtain ⟨hl,h⟩:=brd h
    refine ⟨_,ctr_fn ok2 hg125 Tryz.func125 (by kernel_rfl) (by kernel_rfl) (by kernel_rfl) fun C => ?_,h⟩
    rw [e125]
    have yes:(decide (t < 13) || hasF xs t)=true→(some ⟨.ows 0,[.row ki xs],[none]⟩:Option Res)=some ⟨.ows 0,[.row [.int .i64] (addI xs t)],[none]⟩:=fun h=>by
      unfold addI
      rw [h]
    refine br_dec (fun h1=>yes (by rw [decide_eq_true h1]; rfl)) (fun h1=>br_yes hl (br_intro (fun h2=>yes (by rw [h2,Bool.or_true])) (fun h2 => ?_)))
    have no : ∀ i:Nat,i≤xs.length→kI xs t=i→(some ⟨.ows 0,[.row ki (List.take ((i:Int) - 0).toNat (List.drop 0 xs) ++ [(t,())]++([]++List.take ((xs.length:Int) - (i:Int)).toNat (List.drop (i:Int).toNat xs)))],[none]⟩:Option Res)=some ⟨.ows 0,[.row [.int .i64] (addI xs t)],[none]⟩:=by
      intro i hi hk
      unfold addI
      have e1:List.take (xs.length - i) (List.drop i xs)=List.drop i xs:=List.take_of_length_le (by rw [List.length_drop]; omega)
      rw [decide_eq_false h1,h2,hk,List.nil_append,List.drop_zero,show ((i:Int) - 0).toNat=i from by omega,Int.toNat_natCast,show ((xs.length:Int) - (i:Int)).toNat=xs.length - i from by omega,e1]
      rfl
    have sz : ∀ i:Nat,i≤xs.length→(0+(List.take ((xs.length:Int) - (i:Int)).toNat (List.drop (i:Int).toNat xs)).length) * 8≤140737488355328∧((List.take ((i:Int) - 0).toNat (List.drop 0 xs)).length + [(t,())].length) * 8≤140737488355328∧((List.take ((i:Int) - 0).toNat (List.drop 0 xs) ++ [(t,())]).length+([]++List.take ((xs.length:Int) - (i:Int)).toNat (List.drop (i:Int).toNat xs)).length) * 8≤140737488355328:=by
      intro i hi
      simp only [List.length_take,List.length_drop,List.length_append,List.length_cons,List.length_nil,Int.toNat_natCast]
      omega
    refine loopLn okf125 hg125 (fun i=>st125 xs t i) xs.length (fun i=>decide (atI xs i < t)) (by omega) (fun N i hi hw next stop done => ?_)
    show evP E125 G125 _ (lp125 4) (st125 xs t i) (rk125 _ _ 4 _)
    obtain ⟨s1,s2,s3⟩:=sz i hi
    rw [b125,hw]
    refine br_dec (fun h3=>br_yes ⟨by omega,h3⟩ ?_) (fun h3=>br_yes ⟨by omega,by omega,by omega,by omega⟩ (br_yes s1 (br_yes ⟨by omega,by omega,by omega,by omega⟩ (br_yes s2 (br_yes s3 ?_)))))
    · have hg:(xs.getD (i:Int).toNat (edflt ki)).1=atI xs i:=by rw [Int.toNat_natCast]
      refine br_dec (fun h4=>next (by omega) (decide_eq_true (by rw [← hg]; exact h4))) (fun h4=>br_yes ⟨by omega,by omega,by omega,by omega⟩ (br_yes s1 (br_yes ⟨by omega,by omega,by omega,by omega⟩ (br_yes s2 (br_yes s3 ?_)))))
      exact no i hi (stop (by omega) (decide_eq_false (by rw [← hg]; exact h4)))
    · exact no i hi (done (by omega))
  · exact h.elim
noncomputable def E53:Env:=E2.of Tryz.f53
noncomputable def G53:Gk:=gk [(125,g125)]
noncomputable def lp53(n:Nat):Code:=(loopOf n (codeOf Tryz.f53)).getD .skip
noncomputable def ct53(L:Lp)(R:Rp)(n:Nat):Kt:=contOf E53 G53 L n (codeOf Tryz.f53) (endK E53 Tryz.f53.results.toList R)
noncomputable def rk53(L:Lp)(R:Rp)(n:Nat)(N:St→Prop):Kt:=rk (jof E53 (lp53 n)) N (ct53 L R n)
noncomputable def LOOP53(L:Lp)(R:Rp)(n:Nat)(st:St):Prop:=L (lp53 n) st (ct53 L R n)
theorem hg53:HG Tryz.prog G53:=(hg_cons h125 hg_nil)
theorem okf53:Ok Tryz.prog E53:=ok2.of Tryz.f53
theorem e53(L:Lp)(R:Rp)(x:Int)(s:List (Elem kc))(d p:List (Elem k3))(b:Bool)(f:List (Elem ki))(n m:Int):(bodyP E2 G53 L Tryz.f53 [coreAV x s d p b f n,.val (.int .i64 m)] [] R)=(
    LOOP53 L R 3 ⟨(vJ :: vJ :: .ptr 0 0 :: vJ :: vJ :: .ows 1 :: vI 0 :: jn 52 []),[(0,.box [vI x,.rsl kc s,.rsl k3 d,.rsl k3 p,vB b,.rsl ki f,vI n]),(1,.row ki (addI [] m))],1000000,[]⟩):=by kernel_rfl
def sa53(x:Int)(s:List (Elem kc))(d p:List (Elem k3))(b:Bool)(f:List (Elem ki))(n m:Int)(i:Int)(ys:List (Elem ki)):St :=  ⟨(vJ :: vJ :: AV.ptr 0 0 :: vJ :: vJ :: AV.ows 1 :: .val (.int .i64 i) :: jn 52 []),[(0,AO.box [vI x,AV.rsl kc s,AV.rsl k3 d,AV.rsl k3 p,vB b,AV.rsl ki f,vI n]),(1,.row ki ys)],1000000,[]⟩
theorem ba53(L:Lp)(R:Rp)(N:St→Prop)(x:Int)(s:List (Elem kc))(d p:List (Elem k3))(b:Bool)(f:List (Elem ki))(n m:Int)(i:Int)(ys:List (Elem ki)):(evP E53 G53 L (lp53 3) (sa53 x s d p b f n m i ys) (rk53 L R 3 N))=(
    br (decide (i < (↑d.length:Int))) (br (decide (0≤i∧i < (↑d.length:Int))) (br (decide (ys.length≤1048576)) (N ⟨(vJ :: vJ :: .ptr 0 0 :: vJ :: vJ :: .ows 1 :: vI (IntKind.i64.wrap (i+1)) :: jn 52 []),[(0,.box [vI x,.rsl kc s,.rsl k3 d,.rsl k3 p,vB b,.rsl ki f,vI n]),(1,.row ki (addI ys (d.getD i.toNat (edflt k3)).2.1))],1000000,[]⟩) False) False) (LOOP53 L R 7 ⟨(vJ :: vJ :: .ptr 0 0 :: vJ :: vJ :: .ows 1 :: vJ :: vI 0 :: jn 51 []),[(0,.box [vI x,.rsl kc s,.rsl k3 d,.rsl k3 p,vB b,.rsl ki f,vI n]),(1,.row ki ys)],1000000,[]⟩)):=by kernel_rfl
def sb53(x:Int)(s:List (Elem kc))(d p:List (Elem k3))(b:Bool)(f:List (Elem ki))(n m:Int)(i:Int)(ys:List (Elem ki)):St :=  ⟨(vJ :: vJ :: AV.ptr 0 0 :: vJ :: vJ :: AV.ows 1 :: vJ :: .val (.int .i64 i) :: jn 51 []),[(0,AO.box [vI x,AV.rsl kc s,AV.rsl k3 d,AV.rsl k3 p,vB b,AV.rsl ki f,vI n]),(1,.row ki ys)],1000000,[]⟩
theorem bb53(L:Lp)(R:Rp)(N:St→Prop)(x:Int)(s:List (Elem kc))(d p:List (Elem k3))(b:Bool)(f:List (Elem ki))(n m:Int)(i:Int)(ys:List (Elem ki)):(evP E53 G53 L (lp53 7) (sb53 x s d p b f n m i ys) (rk53 L R 7 N))=(
    br (decide (i < (↑s.length:Int))) (br (decide (0≤i∧i < (↑s.length:Int))) (br (decide (ys.length≤1048576)) (N ⟨(vJ :: vJ :: .ptr 0 0 :: vJ :: vJ :: .ows 1 :: vJ :: vI (IntKind.i64.wrap (i+1)) :: jn 51 []),[(0,.box [vI x,.rsl kc s,.rsl k3 d,.rsl k3 p,vB b,.rsl ki f,vI n]),(1,.row ki (addI ys (s.getD i.toNat (edflt kc)).2.2.2.2.2.2.2.2.2.2.2.2.2.2.2.2.2.2.2.2.2.2.2.2.2.2.2.1))],1000000,[]⟩) False) False) (LOOP53 L R 11 ⟨(vJ :: vJ :: .ptr 0 0 :: vJ :: vJ :: .ows 1 :: vJ :: vJ :: vI 0 :: jn 50 []),[(0,.box [vI x,.rsl kc s,.rsl k3 d,.rsl k3 p,vB b,.rsl ki f,vI n]),(1,.row ki ys)],1000000,[]⟩)):=by kernel_rfl
def sc53(x:Int)(s:List (Elem kc))(d p:List (Elem k3))(b:Bool)(f:List (Elem ki))(n m:Int)(i:Int)(ys:List (Elem ki)):St :=  ⟨(vJ :: vJ :: AV.ptr 0 0 :: vJ :: vJ :: AV.ows 1 :: vJ :: vJ :: .val (.int .i64 i) :: jn 50 []),[(0,AO.box [vI x,AV.rsl kc s,AV.rsl k3 d,AV.rsl k3 p,vB b,AV.rsl ki f,vI n]),(1,.row ki ys)],1000000,[]⟩
theorem bc53(L:Lp)(R:Rp)(N:St→Prop)(x:Int)(s:List (Elem kc))(d p:List (Elem k3))(b:Bool)(f:List (Elem ki))(n m:Int)(i:Int)(ys:List (Elem ki)):(evP E53 G53 L (lp53 11) (sc53 x s d p b f n m i ys) (rk53 L R 11 N))=(
    br (decide (i < (↑p.length:Int))) (br (decide (0≤i∧i < (↑p.length:Int))) (br (decide (ys.length≤1048576)) (N ⟨(vJ :: vJ :: .ptr 0 0 :: vJ :: vJ :: .ows 1 :: vJ :: vJ :: vI (IntKind.i64.wrap (i+1)) :: jn 50 []),[(0,.box [vI x,.rsl kc s,.rsl k3 d,.rsl k3 p,vB b,.rsl ki f,vI n]),(1,.row ki (addI ys (p.getD i.toNat (edflt k3)).1))],1000000,[]⟩) False) False) (R (some ⟨.ows 0,[.row ki ys],[]⟩))):=by kernel_rfl
theorem h53:G1Ok Tryz.prog 53 g53:=by
  intro args obs k h
  unfold g53 at h
  split at h
  · rename_i k us m
    split at h
    rotate_left
    · exact h.elim
    rename_i c hc
    obtain rfl:=coreOf_inv hc
    obtain ⟨x,s,d,p,b,f,n⟩:=c
    obtain ⟨hl,h⟩:=brd h
    have hl:s.length+d.length+p.length≤1000:=hl
    refine ⟨_,ctr_fn ok2 hg53 Tryz.func53 (by kernel_rfl) (by kernel_rfl) (by kernel_rfl) fun C => ?_,h⟩
    show bodyP E2 G53 _ Tryz.f53 [coreAV x s d p b f n,.val (.int .i64 m)] [] _
    rw [e53]
    refine loopUp okf53 hg53 (fun i ys=>sa53 x s d p b f n m i ys) d.length (fun i ys=>ys=(d.take i).foldl (fun o e=>addI o e.2.1) (addI [] m)) (fun N i ys hi hy next => ?_) _ rfl
    show evP E53 G53 _ (lp53 3) (sa53 x s d p b f n m i ys) (rk53 _ _ 3 _)
    have y1:=fold_len (fun e:Elem k3=>(e.2.1:Int)) (d.take i) (addI [] m)
    have y0:=addI_len [] m
    rw [← hy,List.length_take] at y1
    simp only [List.length_nil] at y0
    rw [ba53,Int.toNat_natCast,wrap_id (n:=(i:Int)+1) (by omega) (by omega)]
    refine br_dec (fun h2=>br_yes ⟨by omega,h2⟩ (br_yes (by omega) (next (by omega) _ ?_))) (fun h2 => ?_)
    · rw [fold_next (fun e:Elem k3=>(e.2.1:Int)) d (edflt k3) _ (by omega),← hy]
    have hi':i=d.length:=by omega
    rw [hi',List.take_length] at hy
    refine loopUp okf53 hg53 (fun i ys=>sb53 x s d p b f n m i ys) s.length (fun i zs=>zs=(s.take i).foldl (fun o e=>addI o (hom e).1) ys) (fun N i zs hi hz next => ?_) _ rfl
    show evP E53 G53 _ (lp53 7) (sb53 x s d p b f n m i zs) (rk53 _ _ 7 _)
    have y2:=fold_len (fun e:Elem kc=>((hom e).1:Int)) (s.take i) ys
    rw [← hz,List.length_take] at y2
    rw [bb53,Int.toNat_natCast,wrap_id (n:=(i:Int)+1) (by omega) (by omega)]
    refine br_dec (fun h2=>br_yes ⟨by omega,h2⟩ (br_yes (by omega) (next (by omega) _ ?_))) (fun h2 => ?_)
    · rw [fold_next (fun e:Elem kc=>((hom e).1:Int)) s (edflt kc) _ (by omega),← hz]
      rfl
    have hi':i=s.length:=by omega
    rw [hi',List.take_length] at hz
    refine loopUp okf53 hg53 (fun i ys=>sc53 x s d p b f n m i ys) p.length (fun i qs=>qs=(p.take i).foldl (fun o e=>addI o e.1) zs) (fun N i qs hi hq next => ?_) _ rfl
    show evP E53 G53 _ (lp53 11) (sc53 x s d p b f n m i qs) (rk53 _ _ 11 _)
    have y3:=fold_len (fun e:Elem k3=>(e.1:Int)) (p.take i) zs
    rw [← hq,List.length_take] at y3
    rw [bc53,Int.toNat_natCast,wrap_id (n:=(i:Int)+1) (by omega) (by omega)]
    refine br_dec (fun h2=>br_yes ⟨by omega,h2⟩ (br_yes (by omega) (next (by omega) _ ?_))) (fun h2 => ?_)
    · rw [fold_next (fun e:Elem k3=>(e.1:Int)) p (edflt k3) _ (by omega),← hq]
    have hi':i=p.length:=by omega
    rw [hi',List.take_length] at hq
    show _=some (⟨.ows 0,[.row [.int .i64] (rchS (x,s,d,p,b,f,n) m)],[]⟩:Res)
    rw [hq,hz,hy]
    rfl
  · exact h.elim
noncomputable def G12:Gk:=gk [(39,g39),(53,g53)]
theorem hg12:HG Tryz.prog G12:=(hg_cons h39 (hg_cons h53 hg_nil))
theorem e12(L:Lp)(R:Rp)(x:Int)(s:List (Elem kc))(d p:List (Elem k3))(b:Bool)(f:List (Elem ki))(n m:Int):(bodyP E2 G12 L Tryz.f12 [coreAV x s d p b f n,.val (.int .i64 m)] [] R)=(
    br (smB' (x,s,d,p,b,f,n)) (br (!coreOk (x,s,d,p,b,f,n).1 (x,s,d,p,b,f,n).2.1 (x,s,d,p,b,f,n).2.2.1 (x,s,d,p,b,f,n).2.2.2.1 (x,s,d,p,b,f,n).2.2.2.2.2.1 (x,s,d,p,b,f,n).2.2.2.2.2.2) (R (some ⟨.ows 0,[.row ki []],[]⟩)) (br (decide ((x,s,d,p,b,f,n).2.1.length+(x,s,d,p,b,f,n).2.2.1.length+(x,s,d,p,b,f,n).2.2.2.1.length≤1000)) (R (some ⟨.ows 0,[.row ki (rchS (x,s,d,p,b,f,n) m)],[]⟩)) False)) False):=by kernel_rfl
theorem rch_f{c:Co}{m:Int}(h:coreOk c.1 c.2.1 c.2.2.1 c.2.2.2.1 c.2.2.2.2.2.1 c.2.2.2.2.2.2=false):rch c m = []:=by unfold rch; rw [h]
theorem rch_t{x:Int}{s:List (Elem kc)}{d p:List (Elem k3)}{b:Bool}{f:List (Elem ki)}{n m:Int}(h:coreOk x s d p f n=true):rch (x,s,d,p,b,f,n) m=rchS (x,s,d,p,b,f,n) m:=by unfold rch; rw [show coreOk (x,s,d,p,b,f,n).1 (x,s,d,p,b,f,n).2.1 (x,s,d,p,b,f,n).2.2.1 (x,s,d,p,b,f,n).2.2.2.1 (x,s,d,p,b,f,n).2.2.2.2.2.1 (x,s,d,p,b,f,n).2.2.2.2.2.2=true from h]
theorem cok_lens{x:Int}{s:List (Elem kc)}{d p:List (Elem k3)}{f:List (Elem ki)}{n:Int}(h:coreOk x s d p f n=true):s.length+d.length+p.length≤1000:=by
  have hd:=ddt_len (cok_plc h).1
  unfold coreOk at h
  simp only [Bool.and_eq_true,decide_eq_true_eq] at h
  have hp:=h.2.2.1
  have hb:=h.2.2.2.2.2.2.2.1
  unfold bookOk at hb
  simp only [Bool.and_eq_true,decide_eq_true_eq] at hb
  have hs:((bkS s).length:Int)≤6:=by first | exact hb.1 | exact hb.1.1
  have hs2:(bkS s).length=s.length:=by unfold bkS; rw [List.length_map]
  omega
theorem h12:G1Ok Tryz.prog 12 g12:=by
  intro args obs k h
  unfold g12 at h
  split at h
  · rename_i k us m
    split at h
    rotate_left
    · exact h.elim
    rename_i c hc
    obtain rfl:=coreOf_inv hc
    obtain ⟨x,s,d,p,b,f,n⟩:=c
    obtain ⟨hp,h⟩:=br_and h
    refine ⟨_,ctr_fn ok2 hg12 Tryz.func12 (by kernel_rfl) (by kernel_rfl) (by kernel_rfl) fun C => ?_,h⟩
    show bodyP E2 G12 _ Tryz.f12 [coreAV x s d p b f n,.val (.int .i64 m)] [] _
    rw [e12]
    refine br_t hp (br_not (fun h1 => ?_) (fun h1=>br_yes (cok_lens h1) ?_))
    · show _=_
      rw [rch_f (c:=(x,s,d,p,b,f,n)) h1]
    · show _=some (⟨.ows 0,[.row [.int .i64] (rch (x,s,d,p,b,f,n) m)],[]⟩:Res)
      rw [rch_t h1]
  · exact h.elim
end Go.Proofs.YtkjnijddbiconaaGreatDoor.Ev
