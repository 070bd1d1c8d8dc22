/- Counts of a core: contracts. -/
import Derived.Test.YtkjnijddbiconaaGreatDoorWD
namespace Go.Proofs.YtkjnijddbiconaaGreatDoor.Ev
open Go
set_option linter.unusedVariables false
set_option linter.unusedSimpArgs false
set_option maxRecDepth 100000
def ptsOf(s:List (Elem kc)):List (Elem k3):=s.flatMap mps
def refP(ps:List (Elem k3))(t:Int):Nat:=ps.countP fun p=>p.1==t&&decide (t > 0)
def g185:G1
  | [.agg us,.val (.int .i64 t)],[],k=>match coreOf us with
    | some c=>br (smCo c) (k ⟨.val (.int .i64 (refP (ptsOf c.2.1) t)),[],[]⟩) False
    | none=>False
  | _,_,_=>False
def cntK(d:List (Elem k3))(s:List (Elem kc))(i:Nat):Bool:=(refP (ptsOf s) (atP d i).2.1:Int)==(atP d i).2.2.1
def allC(d:List (Elem k3)):Int:=(d.map fun e=>e.2.2.1).sum
def liveP(ps:List (Elem k3)):Nat:=ps.countP fun p=>decide (p.1 > 0)
def cntS(d:List (Elem k3))(s:List (Elem kc)):Bool:=allB d.length (cntK d s)&&(allC d - liveP (ptsOf s)==0)
def g110:G1
  | [.agg us],[],k=>match coreOf us with
    | some c=>br (smCo c&&ddtOk c.2.2.1) (k ⟨.val (.bool (cntS c.2.2.1 c.2.1)),[],[]⟩) False
    | none=>False
  | _,_,_=>False
def sumK(d:List (Elem k3))(p:Elem k3):Bool := !(decide (p.1 > 0)) || (okD d p.1&&((atP d (lnD d p.1)).1==p.2.1))
def g111:G1
  | [.agg us],[],k=>match coreOf us with
    | some c=>br (smCo c) (k ⟨.val (.bool ((ptsOf c.2.1).all (sumK c.2.2.1))),[],[]⟩) False
    | none=>False
  | _,_,_=>False
def mapK(e:Elem kc):List AV := [.val (.int .i64 e.2.2.2.1),.val (.int .i64 e.2.2.2.2.1),.val (.int .i64 e.2.2.2.2.2.1),.val (.int .i64 e.2.2.2.2.2.2.1),.val (.int .i64 e.2.2.2.2.2.2.2.1),.val (.int .i64 e.2.2.2.2.2.2.2.2.1),.val (.int .i64 e.2.2.2.2.2.2.2.2.2.1),.val (.int .i64 e.2.2.2.2.2.2.2.2.2.2.1),.val (.int .i64 e.2.2.2.2.2.2.2.2.2.2.2.1),.val (.int .i64 e.2.2.2.2.2.2.2.2.2.2.2.2.1),.val (.int .i64 e.2.2.2.2.2.2.2.2.2.2.2.2.2.1),.val (.int .i64 e.2.2.2.2.2.2.2.2.2.2.2.2.2.2.1),.val (.int .i64 e.2.2.2.2.2.2.2.2.2.2.2.2.2.2.2.1),.val (.int .i64 e.2.2.2.2.2.2.2.2.2.2.2.2.2.2.2.2.1),.val (.int .i64 e.2.2.2.2.2.2.2.2.2.2.2.2.2.2.2.2.2.1),.val (.int .i64 e.2.2.2.2.2.2.2.2.2.2.2.2.2.2.2.2.2.2.1),.val (.int .i64 e.2.2.2.2.2.2.2.2.2.2.2.2.2.2.2.2.2.2.2.1),.val (.int .i64 e.2.2.2.2.2.2.2.2.2.2.2.2.2.2.2.2.2.2.2.2.1),.val (.int .i64 e.2.2.2.2.2.2.2.2.2.2.2.2.2.2.2.2.2.2.2.2.2.1),.val (.int .i64 e.2.2.2.2.2.2.2.2.2.2.2.2.2.2.2.2.2.2.2.2.2.2.1),.val (.int .i64 e.2.2.2.2.2.2.2.2.2.2.2.2.2.2.2.2.2.2.2.2.2.2.2.1),.val (.int .i64 e.2.2.2.2.2.2.2.2.2.2.2.2.2.2.2.2.2.2.2.2.2.2.2.2.1),.val (.int .i64 e.2.2.2.2.2.2.2.2.2.2.2.2.2.2.2.2.2.2.2.2.2.2.2.2.2.1),.val (.int .i64 e.2.2.2.2.2.2.2.2.2.2.2.2.2.2.2.2.2.2.2.2.2.2.2.2.2.2.1)]
theorem pts_len : ∀ (s:List (Elem kc)),(ptsOf s).length=8 * s.length
  | []=>rfl
  | e :: s=>by
    show (mps e++ptsOf s).length=_
    rw [List.length_append,pts_len s,List.length_cons]
    show 8+_=_
    omega
def preP(s:List (Elem kc))(i j:Nat):List (Elem k3):=ptsOf (s.take i)++(mps (atC s i)).take j
theorem pre_next(s:List (Elem kc))(i:Nat){j:Nat}(hj:j < 8):preP s i (j+1)=preP s i j ++ [atP (mps (atC s i)) j]:=by
  unfold preP
  have hl:j < (mps (atC s i)).length:=hj
  rw [List.take_add_one,List.append_assoc,List.getElem?_eq_getElem hl,atP,List.getD_eq_getElem?_getD,List.getElem?_eq_getElem hl]
  rfl
theorem pts_append(a c:List (Elem kc)):ptsOf (a++c)=ptsOf a++ptsOf c:=List.flatMap_append
theorem pts_one(e:Elem kc):ptsOf [e]=mps e:=by simp [ptsOf]
theorem take_next{α:Type}(s:List α)(dd:α){i:Nat}(hi:i < s.length):s.take (i+1)=s.take i ++ [s.getD i dd]:=by
  rw [List.take_add_one,List.getD_eq_getElem?_getD,List.getElem?_eq_getElem hi]
  rfl
theorem pre_end{s:List (Elem kc)}{i:Nat}(hi:i < s.length):preP s i 8=preP s (i+1) 0:=by
  unfold preP
  rw [take_next s (edflt kc) hi,pts_append,pts_one,List.take_zero,List.append_nil,List.take_of_length_le (Nat.le_of_eq (show (mps (atC s i)).length=8 from rfl))]
theorem pre_all(s:List (Elem kc)):preP s s.length 0=ptsOf s:=by
  unfold preP
  rw [List.take_length,List.take_zero,List.append_nil]
theorem pre_zero(s:List (Elem kc)):preP s 0 0 = []:=by
  unfold preP
  rw [List.take_zero,List.take_zero]
  rfl
theorem pre_len(s:List (Elem kc))(i j:Nat):(preP s i j).length≤8 * s.length+8:=by
  unfold preP
  rw [List.length_append,pts_len,List.length_take,List.length_take]
  show 8 * min i s.length+min j 8≤_
  omega
theorem pts_mem{s:List (Elem kc)}{i j:Nat}(hi:i < s.length)(hj:j < 8):atP (mps (atC s i)) j∈ptsOf s:=by
  unfold ptsOf
  rw [List.mem_flatMap]
  exact ⟨atC s i,getD_mem _ hi,getD_mem (xs:=mps (atC s i)) _ hj⟩
theorem refP_next(l:List (Elem k3))(e:Elem k3)(t:Int):refP (l ++ [e]) t=refP l t+if (e.1==t&&decide (t > 0))=true then 1 else 0:=by
  unfold refP
  rw [List.countP_append,List.countP_cons,List.countP_nil]
  simp
theorem liveP_next(l:List (Elem k3))(e:Elem k3):liveP (l ++ [e])=liveP l+if decide (e.1 > 0)=true then 1 else 0:=by
  unfold liveP
  rw [List.countP_append,List.countP_cons,List.countP_nil]
  simp
theorem refP_le(l:List (Elem k3))(t:Int):refP l t≤l.length:=List.countP_le_length
theorem liveP_le(l:List (Elem k3)):liveP l≤l.length:=List.countP_le_length
noncomputable def E185:Env:=Ef.of Tryz.f185
noncomputable def G185:Gk:=gk []
noncomputable def lp185(n:Nat):Code:=(loopOf n (codeOf Tryz.f185)).getD .skip
noncomputable def ct185(L:Lp)(R:Rp)(n:Nat):Kt:=contOf E185 G185 L n (codeOf Tryz.f185) (endK E185 Tryz.f185.results.toList R)
noncomputable def rk185(L:Lp)(R:Rp)(n:Nat)(N:St→Prop):Kt:=rk (jof E185 (lp185 n)) N (ct185 L R n)
noncomputable def rkn185(L:Lp)(R:Rp)(n:Nat)(N:St→Prop)(m:Nat)(N2:St→Prop):Kt:=rk (jof E185 (lp185 m)) N2 (contOf E185 G185 L m (lp185 n) (rk185 L R n N))
noncomputable def LOOPN185(L:Lp)(R:Rp)(n:Nat)(N:St→Prop)(m:Nat)(st:St):Prop:=L (lp185 m) st (contOf E185 G185 L m (lp185 n) (rk185 L R n N))
noncomputable def LOOP185(L:Lp)(R:Rp)(n:Nat)(st:St):Prop:=L (lp185 n) st (ct185 L R n)
theorem hg185:HG Tryz.prog G185:=hg_nil
theorem okf185:Ok Tryz.prog E185:=okf.of Tryz.f185
theorem e185(L:Lp)(R:Rp)(x:Int)(s:List (Elem kc))(d p:List (Elem k3))(b:Bool)(f:List (Elem ki))(n:Int)(t:Int):(bodyP Ef G185 L Tryz.f185 [coreAV x s d p b f n,.val (.int .i64 t)] [] R)=(
    LOOP185 L R 3 ⟨(vJ :: vI t :: .ptr 0 0 :: vJ :: vJ :: vI 0 :: vI 0 :: jn 30 []),[(0,.box [vI x,.rsl kc s,.rsl k3 d,.rsl k3 p,vB b,.rsl ki f,vI n])],1000000,[]⟩):=by kernel_rfl
def st185(x:Int)(s:List (Elem kc))(d p:List (Elem k3))(b:Bool)(f:List (Elem ki))(n:Int)(t m i:Int):St :=  ⟨(vJ :: vI t :: AV.ptr 0 0 :: vJ :: vJ :: .val (.int .i64 m) :: .val (.int .i64 i) :: jn 30 []),[(0,AO.box [vI x,AV.rsl kc s,AV.rsl k3 d,AV.rsl k3 p,vB b,AV.rsl ki f,vI n])],1000000,[]⟩
theorem b185(L:Lp)(R:Rp)(N:St→Prop)(x:Int)(s:List (Elem kc))(d p:List (Elem k3))(b:Bool)(f:List (Elem ki))(n:Int)(t m i:Int):(evP E185 G185 L (lp185 3) (st185 x s d p b f n t m i) (rk185 L R 3 N))=(
    br (decide (i < (↑s.length:Int))) (LOOPN185 L R 3 N 6 ⟨(vJ :: vI t :: .ptr 0 0 :: vJ :: vJ :: vI m :: vI i :: vI 0 :: jn 29 []),[(0,.box [vI x,.rsl kc s,.rsl k3 d,.rsl k3 p,vB b,.rsl ki f,vI n])],1000000,[]⟩) (R (some ⟨vI m,[],[]⟩))):=by kernel_rfl
def si185(x:Int)(s:List (Elem kc))(d p:List (Elem k3))(b:Bool)(f:List (Elem ki))(n:Int)(t m i j:Int):St :=  ⟨(vJ :: vI t :: AV.ptr 0 0 :: vJ :: vJ :: .val (.int .i64 m) :: .val (.int .i64 i) :: .val (.int .i64 j) :: jn 29 []),[(0,AO.box [vI x,AV.rsl kc s,AV.rsl k3 d,AV.rsl k3 p,vB b,AV.rsl ki f,vI n])],1000000,[]⟩
theorem bi185_0(L:Lp)(R:Rp)(N N2:St→Prop)(x:Int)(s:List (Elem kc))(d p:List (Elem k3))(b:Bool)(f:List (Elem ki))(n:Int)(t m q:Int):(evP E185 G185 L (lp185 6) (si185 x s d p b f n t m q 0) (rkn185 L R 3 N 6 N2))=(
    br (decide (0≤q∧q < (↑s.length:Int))) (br ((s.getD q.toNat (edflt kc)).2.2.2.1==t) (br (decide (t > 0)) (N2 (si185 x s d p b f n t (IntKind.i64.wrap (m+1)) q 1)) (N2 (si185 x s d p b f n t m q 1))) (N2 (si185 x s d p b f n t m q 1))) False):=by kernel_rfl
theorem bi185_1(L:Lp)(R:Rp)(N N2:St→Prop)(x:Int)(s:List (Elem kc))(d p:List (Elem k3))(b:Bool)(f:List (Elem ki))(n:Int)(t m q:Int):(evP E185 G185 L (lp185 6) (si185 x s d p b f n t m q 1) (rkn185 L R 3 N 6 N2))=(
    br (decide (0≤q∧q < (↑s.length:Int))) (br ((s.getD q.toNat (edflt kc)).2.2.2.2.2.2.1==t) (br (decide (t > 0)) (N2 (si185 x s d p b f n t (IntKind.i64.wrap (m+1)) q 2)) (N2 (si185 x s d p b f n t m q 2))) (N2 (si185 x s d p b f n t m q 2))) False):=by kernel_rfl
theorem bi185_2(L:Lp)(R:Rp)(N N2:St→Prop)(x:Int)(s:List (Elem kc))(d p:List (Elem k3))(b:Bool)(f:List (Elem ki))(n:Int)(t m q:Int):(evP E185 G185 L (lp185 6) (si185 x s d p b f n t m q 2) (rkn185 L R 3 N 6 N2))=(
    br (decide (0≤q∧q < (↑s.length:Int))) (br ((s.getD q.toNat (edflt kc)).2.2.2.2.2.2.2.2.2.1==t) (br (decide (t > 0)) (N2 (si185 x s d p b f n t (IntKind.i64.wrap (m+1)) q 3)) (N2 (si185 x s d p b f n t m q 3))) (N2 (si185 x s d p b f n t m q 3))) False):=by kernel_rfl
theorem bi185_3(L:Lp)(R:Rp)(N N2:St→Prop)(x:Int)(s:List (Elem kc))(d p:List (Elem k3))(b:Bool)(f:List (Elem ki))(n:Int)(t m q:Int):(evP E185 G185 L (lp185 6) (si185 x s d p b f n t m q 3) (rkn185 L R 3 N 6 N2))=(
    br (decide (0≤q∧q < (↑s.length:Int))) (br ((s.getD q.toNat (edflt kc)).2.2.2.2.2.2.2.2.2.2.2.2.1==t) (br (decide (t > 0)) (N2 (si185 x s d p b f n t (IntKind.i64.wrap (m+1)) q 4)) (N2 (si185 x s d p b f n t m q 4))) (N2 (si185 x s d p b f n t m q 4))) False):=by kernel_rfl
theorem bi185_4(L:Lp)(R:Rp)(N N2:St→Prop)(x:Int)(s:List (Elem kc))(d p:List (Elem k3))(b:Bool)(f:List (Elem ki))(n:Int)(t m q:Int):(evP E185 G185 L (lp185 6) (si185 x s d p b f n t m q 4) (rkn185 L R 3 N 6 N2))=(
    br (decide (0≤q∧q < (↑s.length:Int))) (br ((s.getD q.toNat (edflt kc)).2.2.2.2.2.2.2.2.2.2.2.2.2.2.2.1==t) (br (decide (t > 0)) (N2 (si185 x s d p b f n t (IntKind.i64.wrap (m+1)) q 5)) (N2 (si185 x s d p b f n t m q 5))) (N2 (si185 x s d p b f n t m q 5))) False):=by kernel_rfl
theorem bi185_5(L:Lp)(R:Rp)(N N2:St→Prop)(x:Int)(s:List (Elem kc))(d p:List (Elem k3))(b:Bool)(f:List (Elem ki))(n:Int)(t m q:Int):(evP E185 G185 L (lp185 6) (si185 x s d p b f n t m q 5) (rkn185 L R 3 N 6 N2))=(
    br (decide (0≤q∧q < (↑s.length:Int))) (br ((s.getD q.toNat (edflt kc)).2.2.2.2.2.2.2.2.2.2.2.2.2.2.2.2.2.2.1==t) (br (decide (t > 0)) (N2 (si185 x s d p b f n t (IntKind.i64.wrap (m+1)) q 6)) (N2 (si185 x s d p b f n t m q 6))) (N2 (si185 x s d p b f n t m q 6))) False):=by kernel_rfl
theorem bi185_6(L:Lp)(R:Rp)(N N2:St→Prop)(x:Int)(s:List (Elem kc))(d p:List (Elem k3))(b:Bool)(f:List (Elem ki))(n:Int)(t m q:Int):(evP E185 G185 L (lp185 6) (si185 x s d p b f n t m q 6) (rkn185 L R 3 N 6 N2))=(
    br (decide (0≤q∧q < (↑s.length:Int))) (br ((s.getD q.toNat (edflt kc)).2.2.2.2.2.2.2.2.2.2.2.2.2.2.2.2.2.2.2.2.2.1==t) (br (decide (t > 0)) (N2 (si185 x s d p b f n t (IntKind.i64.wrap (m+1)) q 7)) (N2 (si185 x s d p b f n t m q 7))) (N2 (si185 x s d p b f n t m q 7))) False):=by kernel_rfl
theorem bi185_7(L:Lp)(R:Rp)(N N2:St→Prop)(x:Int)(s:List (Elem kc))(d p:List (Elem k3))(b:Bool)(f:List (Elem ki))(n:Int)(t m q:Int):(evP E185 G185 L (lp185 6) (si185 x s d p b f n t m q 7) (rkn185 L R 3 N 6 N2))=(
    br (decide (0≤q∧q < (↑s.length:Int))) (br ((s.getD q.toNat (edflt kc)).2.2.2.2.2.2.2.2.2.2.2.2.2.2.2.2.2.2.2.2.2.2.2.2.1==t) (br (decide (t > 0)) (N2 (si185 x s d p b f n t (IntKind.i64.wrap (m+1)) q 8)) (N2 (si185 x s d p b f n t m q 8))) (N2 (si185 x s d p b f n t m q 8))) False):=by kernel_rfl
theorem bi185_8(L:Lp)(R:Rp)(N N2:St→Prop)(x:Int)(s:List (Elem kc))(d p:List (Elem k3))(b:Bool)(f:List (Elem ki))(n:Int)(t m q:Int):(evP E185 G185 L (lp185 6) (si185 x s d p b f n t m q 8) (rkn185 L R 3 N 6 N2))=(
    N (st185 x s d p b f n t m (IntKind.i64.wrap (q+1)))):=by kernel_rfl
theorem h185:G1Ok Tryz.prog 185 g185:=by
  intro args obs k h
  unfold g185 at h
  split at h
  · rename_i k us t
    split at h
    rotate_left
    · exact h.elim
    rename_i c hc
    obtain rfl:=coreOf_inv hc
    obtain ⟨x,s,d,p,b,f,n⟩:=c
    obtain ⟨hp,h⟩:=br_and h
    have hl:s.length≤1048576:=smCo_s hp
    refine ⟨_,ctr_fn okf hg185 Tryz.func185 (by kernel_rfl) (by kernel_rfl) (by kernel_rfl) fun C => ?_,h⟩
    show bodyP Ef G185 _ Tryz.f185 [coreAV x s d p b f n,.val (.int .i64 t)] [] _
    rw [e185]
    refine loopUp okf185 hg185 (fun i m=>st185 x s d p b f n t m i) s.length (fun i m=>m=(refP (preP s i 0) t:Int)) (fun N i m hi hm next => ?_) 0 (by rw [pre_zero]; rfl)
    show evP E185 G185 _ (lp185 3) (st185 x s d p b f n t m i) (rk185 _ _ 3 _)
    rw [b185]
    refine br_dec (fun h2 => ?_) (fun h2 => ?_)
    · refine loopUp okf185 hg185 (fun j m=>si185 x s d p b f n t m i j) 8 (fun j m=>m=(refP (preP s i j) t:Int)) (fun N2 j m hj hm next2 => ?_) m hm
      have hle:=refP_le (preP s i j) t
      have hle2:=pre_len s i j
      have cs:j=0∨j=1∨j=2∨j=3∨j=4∨j=5∨j=6∨j=7∨j=8:=by omega
      rcases cs with rfl | rfl | rfl | rfl | rfl | rfl | rfl | rfl | rfl
      · show evP E185 G185 _ (lp185 6) (si185 x s d p b f n t m i 0) (rkn185 _ _ 3 N 6 _)
        have hn:=refP_next (preP s i 0) (atP (mps (atC s i)) 0) t
        rw [← pre_next s i (j:=0) (by omega)] at hn
        rw [bi185_0,Int.toNat_natCast,wrap_id (n:=m+1) (by omega) (by omega)]
        refine br_yes ⟨by omega,h2⟩ (br_intro (fun h3=>br_intro (fun h4 => ?_) (fun h4 => ?_)) (fun h3 => ?_))
        · refine next2 (by omega) _ ?_
          rw [if_pos (by rw [show ((atP (mps (atC s i)) 0).1==t)=true from h3,h4]; rfl)] at hn
          rw [hn]
          omega
        · refine next2 (by omega) _ ?_
          rw [if_neg (by rw [h4,Bool.and_false]; exact Bool.false_ne_true)] at hn
          rw [hn]
          omega
        · refine next2 (by omega) _ ?_
          rw [if_neg (by rw [show ((atP (mps (atC s i)) 0).1==t)=false from h3]; exact Bool.false_ne_true)] at hn
          rw [hn]
          omega
      · show evP E185 G185 _ (lp185 6) (si185 x s d p b f n t m i 1) (rkn185 _ _ 3 N 6 _)
        have hn:=refP_next (preP s i 1) (atP (mps (atC s i)) 1) t
        rw [← pre_next s i (j:=1) (by omega)] at hn
        rw [bi185_1,Int.toNat_natCast,wrap_id (n:=m+1) (by omega) (by omega)]
        refine br_yes ⟨by omega,h2⟩ (br_intro (fun h3=>br_intro (fun h4 => ?_) (fun h4 => ?_)) (fun h3 => ?_))
        · refine next2 (by omega) _ ?_
          rw [if_pos (by rw [show ((atP (mps (atC s i)) 1).1==t)=true from h3,h4]; rfl)] at hn
          rw [hn]
          omega
        · refine next2 (by omega) _ ?_
          rw [if_neg (by rw [h4,Bool.and_false]; exact Bool.false_ne_true)] at hn
          rw [hn]
          omega
        · refine next2 (by omega) _ ?_
          rw [if_neg (by rw [show ((atP (mps (atC s i)) 1).1==t)=false from h3]; exact Bool.false_ne_true)] at hn
          rw [hn]
          omega
      · show evP E185 G185 _ (lp185 6) (si185 x s d p b f n t m i 2) (rkn185 _ _ 3 N 6 _)
        have hn:=refP_next (preP s i 2) (atP (mps (atC s i)) 2) t
        rw [← pre_next s i (j:=2) (by omega)] at hn
        rw [bi185_2,Int.toNat_natCast,wrap_id (n:=m+1) (by omega) (by omega)]
        refine br_yes ⟨by omega,h2⟩ (br_intro (fun h3=>br_intro (fun h4 => ?_) (fun h4 => ?_)) (fun h3 => ?_))
        · refine next2 (by omega) _ ?_
          rw [if_pos (by rw [show ((atP (mps (atC s i)) 2).1==t)=true from h3,h4]; rfl)] at hn
          rw [hn]
          omega
        · refine next2 (by omega) _ ?_
          rw [if_neg (by rw [h4,Bool.and_false]; exact Bool.false_ne_true)] at hn
          rw [hn]
          omega
        · refine next2 (by omega) _ ?_
          rw [if_neg (by rw [show ((atP (mps (atC s i)) 2).1==t)=false from h3]; exact Bool.false_ne_true)] at hn
          rw [hn]
          omega
      · show evP E185 G185 _ (lp185 6) (si185 x s d p b f n t m i 3) (rkn185 _ _ 3 N 6 _)
        have hn:=refP_next (preP s i 3) (atP (mps (atC s i)) 3) t
        rw [← pre_next s i (j:=3) (by omega)] at hn
        rw [bi185_3,Int.toNat_natCast,wrap_id (n:=m+1) (by omega) (by omega)]
        refine br_yes ⟨by omega,h2⟩ (br_intro (fun h3=>br_intro (fun h4 => ?_) (fun h4 => ?_)) (fun h3 => ?_))
        · refine next2 (by omega) _ ?_
          rw [if_pos (by rw [show ((atP (mps (atC s i)) 3).1==t)=true from h3,h4]; rfl)] at hn
          rw [hn]
          omega
        · refine next2 (by omega) _ ?_
          rw [if_neg (by rw [h4,Bool.and_false]; exact Bool.false_ne_true)] at hn
          rw [hn]
          omega
        · refine next2 (by omega) _ ?_
          rw [if_neg (by rw [show ((atP (mps (atC s i)) 3).1==t)=false from h3]; exact Bool.false_ne_true)] at hn
          rw [hn]
          omega
      · show evP E185 G185 _ (lp185 6) (si185 x s d p b f n t m i 4) (rkn185 _ _ 3 N 6 _)
        have hn:=refP_next (preP s i 4) (atP (mps (atC s i)) 4) t
        rw [← pre_next s i (j:=4) (by omega)] at hn
        rw [bi185_4,Int.toNat_natCast,wrap_id (n:=m+1) (by omega) (by omega)]
        refine br_yes ⟨by omega,h2⟩ (br_intro (fun h3=>br_intro (fun h4 => ?_) (fun h4 => ?_)) (fun h3 => ?_))
        · refine next2 (by omega) _ ?_
          rw [if_pos (by rw [show ((atP (mps (atC s i)) 4).1==t)=true from h3,h4]; rfl)] at hn
          rw [hn]
          omega
        · refine next2 (by omega) _ ?_
          rw [if_neg (by rw [h4,Bool.and_false]; exact Bool.false_ne_true)] at hn
          rw [hn]
          omega
        · refine next2 (by omega) _ ?_
          rw [if_neg (by rw [show ((atP (mps (atC s i)) 4).1==t)=false from h3]; exact Bool.false_ne_true)] at hn
          rw [hn]
          omega
      · show evP E185 G185 _ (lp185 6) (si185 x s d p b f n t m i 5) (rkn185 _ _ 3 N 6 _)
        have hn:=refP_next (preP s i 5) (atP (mps (atC s i)) 5) t
        rw [← pre_next s i (j:=5) (by omega)] at hn
        rw [bi185_5,Int.toNat_natCast,wrap_id (n:=m+1) (by omega) (by omega)]
        refine br_yes ⟨by omega,h2⟩ (br_intro (fun h3=>br_intro (fun h4 => ?_) (fun h4 => ?_)) (fun h3 => ?_))
        · refine next2 (by omega) _ ?_
          rw [if_pos (by rw [show ((atP (mps (atC s i)) 5).1==t)=true from h3,h4]; rfl)] at hn
          rw [hn]
          omega
        · refine next2 (by omega) _ ?_
          rw [if_neg (by rw [h4,Bool.and_false]; exact Bool.false_ne_true)] at hn
          rw [hn]
          omega
        · refine next2 (by omega) _ ?_
          rw [if_neg (by rw [show ((atP (mps (atC s i)) 5).1==t)=false from h3]; exact Bool.false_ne_true)] at hn
          rw [hn]
          omega
      · show evP E185 G185 _ (lp185 6) (si185 x s d p b f n t m i 6) (rkn185 _ _ 3 N 6 _)
        have hn:=refP_next (preP s i 6) (atP (mps (atC s i)) 6) t
        rw [← pre_next s i (j:=6) (by omega)] at hn
        rw [bi185_6,Int.toNat_natCast,wrap_id (n:=m+1) (by omega) (by omega)]
        refine br_yes ⟨by omega,h2⟩ (br_intro (fun h3=>br_intro (fun h4 => ?_) (fun h4 => ?_)) (fun h3 => ?_))
        · refine next2 (by omega) _ ?_
          rw [if_pos (by rw [show ((atP (mps (atC s i)) 6).1==t)=true from h3,h4]; rfl)] at hn
          rw [hn]
          omega
        · refine next2 (by omega) _ ?_
          rw [if_neg (by rw [h4,Bool.and_false]; exact Bool.false_ne_true)] at hn
          rw [hn]
          omega
        · refine next2 (by omega) _ ?_
          rw [if_neg (by rw [show ((atP (mps (atC s i)) 6).1==t)=false from h3]; exact Bool.false_ne_true)] at hn
          rw [hn]
          omega
      · show evP E185 G185 _ (lp185 6) (si185 x s d p b f n t m i 7) (rkn185 _ _ 3 N 6 _)
        have hn:=refP_next (preP s i 7) (atP (mps (atC s i)) 7) t
        rw [← pre_next s i (j:=7) (by omega)] at hn
        rw [bi185_7,Int.toNat_natCast,wrap_id (n:=m+1) (by omega) (by omega)]
        refine br_yes ⟨by omega,h2⟩ (br_intro (fun h3=>br_intro (fun h4 => ?_) (fun h4 => ?_)) (fun h3 => ?_))
        · refine next2 (by omega) _ ?_
          rw [if_pos (by rw [show ((atP (mps (atC s i)) 7).1==t)=true from h3,h4]; rfl)] at hn
          rw [hn]
          omega
        · refine next2 (by omega) _ ?_
          rw [if_neg (by rw [h4,Bool.and_false]; exact Bool.false_ne_true)] at hn
          rw [hn]
          omega
        · refine next2 (by omega) _ ?_
          rw [if_neg (by rw [show ((atP (mps (atC s i)) 7).1==t)=false from h3]; exact Bool.false_ne_true)] at hn
          rw [hn]
          omega
      · show evP E185 G185 _ (lp185 6) (si185 x s d p b f n t m i 8) (rkn185 _ _ 3 N 6 _)
        rw [bi185_8,wrap_id (n:=(i:Int)+1) (by omega) (by omega)]
        exact next (by omega) _ (by rw [hm,pre_end (by omega)])
    · show _=_
      have e:i=s.length:=by omega
      rw [hm,e,pre_all]
  · exact h.elim
noncomputable def E110:Env:=Ef.of Tryz.f110
noncomputable def G110:Gk:=gk [(185,g185)]
noncomputable def lp110(n:Nat):Code:=(loopOf n (codeOf Tryz.f110)).getD .skip
noncomputable def ct110(L:Lp)(R:Rp)(n:Nat):Kt:=contOf E110 G110 L n (codeOf Tryz.f110) (endK E110 Tryz.f110.results.toList R)
noncomputable def rk110(L:Lp)(R:Rp)(n:Nat)(N:St→Prop):Kt:=rk (jof E110 (lp110 n)) N (ct110 L R n)
noncomputable def rkn110(L:Lp)(R:Rp)(n:Nat)(N:St→Prop)(m:Nat)(N2:St→Prop):Kt:=rk (jof E110 (lp110 m)) N2 (contOf E110 G110 L m (lp110 n) (rk110 L R n N))
noncomputable def LOOPN110(L:Lp)(R:Rp)(n:Nat)(N:St→Prop)(m:Nat)(st:St):Prop:=L (lp110 m) st (contOf E110 G110 L m (lp110 n) (rk110 L R n N))
noncomputable def LOOP110(L:Lp)(R:Rp)(n:Nat)(st:St):Prop:=L (lp110 n) st (ct110 L R n)
theorem hg110:HG Tryz.prog G110:=(hg_cons h185 hg_nil)
theorem okf110:Ok Tryz.prog E110:=okf.of Tryz.f110
theorem e110(L:Lp)(R:Rp)(x:Int)(s:List (Elem kc))(d p:List (Elem k3))(b:Bool)(f:List (Elem ki))(n:Int):(bodyP Ef G110 L Tryz.f110 [coreAV x s d p b f n] [] R)=(
    LOOP110 L R 3 ⟨(vJ :: .ptr 0 0 :: vJ :: vI 0 :: vI 0 :: jn 57 []),[(0,.box [vI x,.rsl kc s,.rsl k3 d,.rsl k3 p,vB b,.rsl ki f,vI n])],1000000,[]⟩):=by kernel_rfl
def st110(x:Int)(s:List (Elem kc))(d p:List (Elem k3))(b:Bool)(f:List (Elem ki))(n:Int)(m i:Int):St :=  ⟨(vJ :: AV.ptr 0 0 :: vJ :: .val (.int .i64 m) :: .val (.int .i64 i) :: jn 57 []),[(0,AO.box [vI x,AV.rsl kc s,AV.rsl k3 d,AV.rsl k3 p,vB b,AV.rsl ki f,vI n])],1000000,[]⟩
theorem b110(L:Lp)(R:Rp)(N:St→Prop)(x:Int)(s:List (Elem kc))(d p:List (Elem k3))(b:Bool)(f:List (Elem ki))(n:Int)(m i:Int):(evP E110 G110 L (lp110 3) (st110 x s d p b f n m i) (rk110 L R 3 N))=(
    br (decide (i < (↑d.length:Int))) (br (decide (0≤i∧i < (↑d.length:Int))) (br (smCo (x,s,d,p,b,f,n)) (br (decide (0≤i∧i < (↑d.length:Int))) (br ((↑(refP (ptsOf (x,s,d,p,b,f,n).2.1) (d.getD i.toNat (edflt k3)).2.1):Int) != (d.getD i.toNat (edflt k3)).2.2.1) (R (some ⟨vB false,[],[]⟩)) (br (decide (0≤i∧i < (↑d.length:Int))) (N (st110 x s d p b f n (IntKind.i64.wrap (m+(d.getD i.toNat (edflt k3)).2.2.1)) (IntKind.i64.wrap (i+1)))) False)) False) False) False) (LOOP110 L R 9 ⟨(vJ :: .ptr 0 0 :: vJ :: vI m :: vJ :: vI 0 :: jn 56 []),[(0,.box [vI x,.rsl kc s,.rsl k3 d,.rsl k3 p,vB b,.rsl ki f,vI n])],1000000,[]⟩)):=by kernel_rfl
def so56(x:Int)(s:List (Elem kc))(d p:List (Elem k3))(b:Bool)(f:List (Elem ki))(n:Int)(m i:Int):St :=  ⟨(vJ :: AV.ptr 0 0 :: vJ :: .val (.int .i64 m) :: vJ :: .val (.int .i64 i) :: jn 56 []),[(0,AO.box [vI x,AV.rsl kc s,AV.rsl k3 d,AV.rsl k3 p,vB b,AV.rsl ki f,vI n])],1000000,[]⟩
theorem bo56(L:Lp)(R:Rp)(N:St→Prop)(x:Int)(s:List (Elem kc))(d p:List (Elem k3))(b:Bool)(f:List (Elem ki))(n:Int)(m i:Int):(evP E110 G110 L (lp110 9) (so56 x s d p b f n m i) (rk110 L R 9 N))=(
    br (decide (i < (↑s.length:Int))) (LOOPN110 L R 9 N 12 ⟨(vJ :: .ptr 0 0 :: vJ :: vI m :: vJ :: vI i :: vI 0 :: jn 55 []),[(0,.box [vI x,.rsl kc s,.rsl k3 d,.rsl k3 p,vB b,.rsl ki f,vI n])],1000000,[]⟩) (R (some ⟨vB (m==0),[],[]⟩))):=by kernel_rfl
def si110(x:Int)(s:List (Elem kc))(d p:List (Elem k3))(b:Bool)(f:List (Elem ki))(n:Int)(m i j:Int):St :=  ⟨(vJ :: AV.ptr 0 0 :: vJ :: .val (.int .i64 m) :: vJ :: .val (.int .i64 i) :: .val (.int .i64 j) :: jn 55 []),[(0,AO.box [vI x,AV.rsl kc s,AV.rsl k3 d,AV.rsl k3 p,vB b,AV.rsl ki f,vI n])],1000000,[]⟩
theorem bi110_0(L:Lp)(R:Rp)(N N2:St→Prop)(x:Int)(s:List (Elem kc))(d p:List (Elem k3))(b:Bool)(f:List (Elem ki))(n:Int)(m q:Int):(evP E110 G110 L (lp110 12) (si110 x s d p b f n m q 0) (rkn110 L R 9 N 12 N2))=(
    br (decide (0≤q∧q < (↑s.length:Int))) (br (decide ((s.getD q.toNat (edflt kc)).2.2.2.1 > 0)) (N2 (si110 x s d p b f n (IntKind.i64.wrap (m - 1)) q 1)) (N2 (si110 x s d p b f n m q 1))) False):=by kernel_rfl
theorem bi110_1(L:Lp)(R:Rp)(N N2:St→Prop)(x:Int)(s:List (Elem kc))(d p:List (Elem k3))(b:Bool)(f:List (Elem ki))(n:Int)(m q:Int):(evP E110 G110 L (lp110 12) (si110 x s d p b f n m q 1) (rkn110 L R 9 N 12 N2))=(
    br (decide (0≤q∧q < (↑s.length:Int))) (br (decide ((s.getD q.toNat (edflt kc)).2.2.2.2.2.2.1 > 0)) (N2 (si110 x s d p b f n (IntKind.i64.wrap (m - 1)) q 2)) (N2 (si110 x s d p b f n m q 2))) False):=by kernel_rfl
theorem bi110_2(L:Lp)(R:Rp)(N N2:St→Prop)(x:Int)(s:List (Elem kc))(d p:List (Elem k3))(b:Bool)(f:List (Elem ki))(n:Int)(m q:Int):(evP E110 G110 L (lp110 12) (si110 x s d p b f n m q 2) (rkn110 L R 9 N 12 N2))=(
    br (decide (0≤q∧q < (↑s.length:Int))) (br (decide ((s.getD q.toNat (edflt kc)).2.2.2.2.2.2.2.2.2.1 > 0)) (N2 (si110 x s d p b f n (IntKind.i64.wrap (m - 1)) q 3)) (N2 (si110 x s d p b f n m q 3))) False):=by kernel_rfl
theorem bi110_3(L:Lp)(R:Rp)(N N2:St→Prop)(x:Int)(s:List (Elem kc))(d p:List (Elem k3))(b:Bool)(f:List (Elem ki))(n:Int)(m q:Int):(evP E110 G110 L (lp110 12) (si110 x s d p b f n m q 3) (rkn110 L R 9 N 12 N2))=(
    br (decide (0≤q∧q < (↑s.length:Int))) (br (decide ((s.getD q.toNat (edflt kc)).2.2.2.2.2.2.2.2.2.2.2.2.1 > 0)) (N2 (si110 x s d p b f n (IntKind.i64.wrap (m - 1)) q 4)) (N2 (si110 x s d p b f n m q 4))) False):=by kernel_rfl
theorem bi110_4(L:Lp)(R:Rp)(N N2:St→Prop)(x:Int)(s:List (Elem kc))(d p:List (Elem k3))(b:Bool)(f:List (Elem ki))(n:Int)(m q:Int):(evP E110 G110 L (lp110 12) (si110 x s d p b f n m q 4) (rkn110 L R 9 N 12 N2))=(
    br (decide (0≤q∧q < (↑s.length:Int))) (br (decide ((s.getD q.toNat (edflt kc)).2.2.2.2.2.2.2.2.2.2.2.2.2.2.2.1 > 0)) (N2 (si110 x s d p b f n (IntKind.i64.wrap (m - 1)) q 5)) (N2 (si110 x s d p b f n m q 5))) False):=by kernel_rfl
theorem bi110_5(L:Lp)(R:Rp)(N N2:St→Prop)(x:Int)(s:List (Elem kc))(d p:List (Elem k3))(b:Bool)(f:List (Elem ki))(n:Int)(m q:Int):(evP E110 G110 L (lp110 12) (si110 x s d p b f n m q 5) (rkn110 L R 9 N 12 N2))=(
    br (decide (0≤q∧q < (↑s.length:Int))) (br (decide ((s.getD q.toNat (edflt kc)).2.2.2.2.2.2.2.2.2.2.2.2.2.2.2.2.2.2.1 > 0)) (N2 (si110 x s d p b f n (IntKind.i64.wrap (m - 1)) q 6)) (N2 (si110 x s d p b f n m q 6))) False):=by kernel_rfl
theorem bi110_6(L:Lp)(R:Rp)(N N2:St→Prop)(x:Int)(s:List (Elem kc))(d p:List (Elem k3))(b:Bool)(f:List (Elem ki))(n:Int)(m q:Int):(evP E110 G110 L (lp110 12) (si110 x s d p b f n m q 6) (rkn110 L R 9 N 12 N2))=(
    br (decide (0≤q∧q < (↑s.length:Int))) (br (decide ((s.getD q.toNat (edflt kc)).2.2.2.2.2.2.2.2.2.2.2.2.2.2.2.2.2.2.2.2.2.1 > 0)) (N2 (si110 x s d p b f n (IntKind.i64.wrap (m - 1)) q 7)) (N2 (si110 x s d p b f n m q 7))) False):=by kernel_rfl
theorem bi110_7(L:Lp)(R:Rp)(N N2:St→Prop)(x:Int)(s:List (Elem kc))(d p:List (Elem k3))(b:Bool)(f:List (Elem ki))(n:Int)(m q:Int):(evP E110 G110 L (lp110 12) (si110 x s d p b f n m q 7) (rkn110 L R 9 N 12 N2))=(
    br (decide (0≤q∧q < (↑s.length:Int))) (br (decide ((s.getD q.toNat (edflt kc)).2.2.2.2.2.2.2.2.2.2.2.2.2.2.2.2.2.2.2.2.2.2.2.2.1 > 0)) (N2 (si110 x s d p b f n (IntKind.i64.wrap (m - 1)) q 8)) (N2 (si110 x s d p b f n m q 8))) False):=by kernel_rfl
theorem bi110_8(L:Lp)(R:Rp)(N N2:St→Prop)(x:Int)(s:List (Elem kc))(d p:List (Elem k3))(b:Bool)(f:List (Elem ki))(n:Int)(m q:Int):(evP E110 G110 L (lp110 12) (si110 x s d p b f n m q 8) (rkn110 L R 9 N 12 N2))=(
    N (so56 x s d p b f n m (IntKind.i64.wrap (q+1)))):=by kernel_rfl
noncomputable def E111:Env:=Ef.of Tryz.f111
noncomputable def G111:Gk:=gk [(72,g72)]
noncomputable def lp111(n:Nat):Code:=(loopOf n (codeOf Tryz.f111)).getD .skip
noncomputable def ct111(L:Lp)(R:Rp)(n:Nat):Kt:=contOf E111 G111 L n (codeOf Tryz.f111) (endK E111 Tryz.f111.results.toList R)
noncomputable def rk111(L:Lp)(R:Rp)(n:Nat)(N:St→Prop):Kt:=rk (jof E111 (lp111 n)) N (ct111 L R n)
noncomputable def rkn111(L:Lp)(R:Rp)(n:Nat)(N:St→Prop)(m:Nat)(N2:St→Prop):Kt:=rk (jof E111 (lp111 m)) N2 (contOf E111 G111 L m (lp111 n) (rk111 L R n N))
noncomputable def LOOPN111(L:Lp)(R:Rp)(n:Nat)(N:St→Prop)(m:Nat)(st:St):Prop:=L (lp111 m) st (contOf E111 G111 L m (lp111 n) (rk111 L R n N))
noncomputable def LOOP111(L:Lp)(R:Rp)(n:Nat)(st:St):Prop:=L (lp111 n) st (ct111 L R n)
theorem hg111:HG Tryz.prog G111:=(hg_cons h72 hg_nil)
theorem okf111:Ok Tryz.prog E111:=okf.of Tryz.f111
theorem e111(L:Lp)(R:Rp)(x:Int)(s:List (Elem kc))(d p:List (Elem k3))(b:Bool)(f:List (Elem ki))(n:Int):(bodyP Ef G111 L Tryz.f111 [coreAV x s d p b f n] [] R)=(
    LOOP111 L R 2 ⟨(vJ :: .ptr 0 0 :: vJ :: vI 0 :: jn 49 []),[(0,.box [vI x,.rsl kc s,.rsl k3 d,.rsl k3 p,vB b,.rsl ki f,vI n])],1000000,[]⟩):=by kernel_rfl
def st111(x:Int)(s:List (Elem kc))(d p:List (Elem k3))(b:Bool)(f:List (Elem ki))(n:Int)(i:Int):St :=  ⟨(vJ :: AV.ptr 0 0 :: vJ :: .val (.int .i64 i) :: jn 49 []),[(0,AO.box [vI x,AV.rsl kc s,AV.rsl k3 d,AV.rsl k3 p,vB b,AV.rsl ki f,vI n])],1000000,[]⟩
theorem b111(L:Lp)(R:Rp)(N:St→Prop)(x:Int)(s:List (Elem kc))(d p:List (Elem k3))(b:Bool)(f:List (Elem ki))(n:Int)(i:Int):(evP E111 G111 L (lp111 2) (st111 x s d p b f n i) (rk111 L R 2 N))=(
    br (decide (i < (↑s.length:Int))) (LOOPN111 L R 2 N 5 ⟨(vJ :: .ptr 0 0 :: vJ :: vI i :: vI 0 :: jn 48 []),[(0,.box [vI x,.rsl kc s,.rsl k3 d,.rsl k3 p,vB b,.rsl ki f,vI n])],1000000,[]⟩) (R (some ⟨vB true,[],[]⟩))):=by kernel_rfl
def si111(x:Int)(s:List (Elem kc))(d p:List (Elem k3))(b:Bool)(f:List (Elem ki))(n:Int)(i j:Int):St :=  ⟨(vJ :: AV.ptr 0 0 :: vJ :: .val (.int .i64 i) :: .val (.int .i64 j) :: jn 48 []),[(0,AO.box [vI x,AV.rsl kc s,AV.rsl k3 d,AV.rsl k3 p,vB b,AV.rsl ki f,vI n])],1000000,[]⟩
theorem bi111_0(L:Lp)(R:Rp)(N N2:St→Prop)(x:Int)(s:List (Elem kc))(d p:List (Elem k3))(b:Bool)(f:List (Elem ki))(n:Int)(q:Int):(evP E111 G111 L (lp111 5) (si111 x s d p b f n q 0) (rkn111 L R 2 N 5 N2))=(
    br (decide (0≤q∧q < (↑s.length:Int))) (br (decide (d.length≤1048576)) (br (decide ((s.getD q.toNat (edflt kc)).2.2.2.1 > 0)) (br (!okD d (s.getD q.toNat (edflt kc)).2.2.2.1) (R (some ⟨vB false,[],[]⟩)) (br (decide (0≤(↑(lnD d (s.getD q.toNat (edflt kc)).2.2.2.1):Int)∧(↑(lnD d (s.getD q.toNat (edflt kc)).2.2.2.1):Int) < (↑d.length:Int))) (br ((d.getD (↑(lnD d (s.getD q.toNat (edflt kc)).2.2.2.1):Int).toNat (edflt k3)).1 != (s.getD q.toNat (edflt kc)).2.2.2.2.1) (R (some ⟨vB false,[],[]⟩)) (N2 (si111 x s d p b f n q 1))) False)) (N2 (si111 x s d p b f n q 1))) False) False):=by kernel_rfl
theorem bi111_1(L:Lp)(R:Rp)(N N2:St→Prop)(x:Int)(s:List (Elem kc))(d p:List (Elem k3))(b:Bool)(f:List (Elem ki))(n:Int)(q:Int):(evP E111 G111 L (lp111 5) (si111 x s d p b f n q 1) (rkn111 L R 2 N 5 N2))=(
    br (decide (0≤q∧q < (↑s.length:Int))) (br (decide (d.length≤1048576)) (br (decide ((s.getD q.toNat (edflt kc)).2.2.2.2.2.2.1 > 0)) (br (!okD d (s.getD q.toNat (edflt kc)).2.2.2.2.2.2.1) (R (some ⟨vB false,[],[]⟩)) (br (decide (0≤(↑(lnD d (s.getD q.toNat (edflt kc)).2.2.2.2.2.2.1):Int)∧(↑(lnD d (s.getD q.toNat (edflt kc)).2.2.2.2.2.2.1):Int) < (↑d.length:Int))) (br ((d.getD (↑(lnD d (s.getD q.toNat (edflt kc)).2.2.2.2.2.2.1):Int).toNat (edflt k3)).1 != (s.getD q.toNat (edflt kc)).2.2.2.2.2.2.2.1) (R (some ⟨vB false,[],[]⟩)) (N2 (si111 x s d p b f n q 2))) False)) (N2 (si111 x s d p b f n q 2))) False) False):=by kernel_rfl
theorem bi111_2(L:Lp)(R:Rp)(N N2:St→Prop)(x:Int)(s:List (Elem kc))(d p:List (Elem k3))(b:Bool)(f:List (Elem ki))(n:Int)(q:Int):(evP E111 G111 L (lp111 5) (si111 x s d p b f n q 2) (rkn111 L R 2 N 5 N2))=(
    br (decide (0≤q∧q < (↑s.length:Int))) (br (decide (d.length≤1048576)) (br (decide ((s.getD q.toNat (edflt kc)).2.2.2.2.2.2.2.2.2.1 > 0)) (br (!okD d (s.getD q.toNat (edflt kc)).2.2.2.2.2.2.2.2.2.1) (R (some ⟨vB false,[],[]⟩)) (br (decide (0≤(↑(lnD d (s.getD q.toNat (edflt kc)).2.2.2.2.2.2.2.2.2.1):Int)∧(↑(lnD d (s.getD q.toNat (edflt kc)).2.2.2.2.2.2.2.2.2.1):Int) < (↑d.length:Int))) (br ((d.getD (↑(lnD d (s.getD q.toNat (edflt kc)).2.2.2.2.2.2.2.2.2.1):Int).toNat (edflt k3)).1 != (s.getD q.toNat (edflt kc)).2.2.2.2.2.2.2.2.2.2.1) (R (some ⟨vB false,[],[]⟩)) (N2 (si111 x s d p b f n q 3))) False)) (N2 (si111 x s d p b f n q 3))) False) False):=by kernel_rfl
theorem bi111_3(L:Lp)(R:Rp)(N N2:St→Prop)(x:Int)(s:List (Elem kc))(d p:List (Elem k3))(b:Bool)(f:List (Elem ki))(n:Int)(q:Int):(evP E111 G111 L (lp111 5) (si111 x s d p b f n q 3) (rkn111 L R 2 N 5 N2))=(
    br (decide (0≤q∧q < (↑s.length:Int))) (br (decide (d.length≤1048576)) (br (decide ((s.getD q.toNat (edflt kc)).2.2.2.2.2.2.2.2.2.2.2.2.1 > 0)) (br (!okD d (s.getD q.toNat (edflt kc)).2.2.2.2.2.2.2.2.2.2.2.2.1) (R (some ⟨vB false,[],[]⟩)) (br (decide (0≤(↑(lnD d (s.getD q.toNat (edflt kc)).2.2.2.2.2.2.2.2.2.2.2.2.1):Int)∧(↑(lnD d (s.getD q.toNat (edflt kc)).2.2.2.2.2.2.2.2.2.2.2.2.1):Int) < (↑d.length:Int))) (br ((d.getD (↑(lnD d (s.getD q.toNat (edflt kc)).2.2.2.2.2.2.2.2.2.2.2.2.1):Int).toNat (edflt k3)).1 != (s.getD q.toNat (edflt kc)).2.2.2.2.2.2.2.2.2.2.2.2.2.1) (R (some ⟨vB false,[],[]⟩)) (N2 (si111 x s d p b f n q 4))) False)) (N2 (si111 x s d p b f n q 4))) False) False):=by kernel_rfl
theorem bi111_4(L:Lp)(R:Rp)(N N2:St→Prop)(x:Int)(s:List (Elem kc))(d p:List (Elem k3))(b:Bool)(f:List (Elem ki))(n:Int)(q:Int):(evP E111 G111 L (lp111 5) (si111 x s d p b f n q 4) (rkn111 L R 2 N 5 N2))=(
    br (decide (0≤q∧q < (↑s.length:Int))) (br (decide (d.length≤1048576)) (br (decide ((s.getD q.toNat (edflt kc)).2.2.2.2.2.2.2.2.2.2.2.2.2.2.2.1 > 0)) (br (!okD d (s.getD q.toNat (edflt kc)).2.2.2.2.2.2.2.2.2.2.2.2.2.2.2.1) (R (some ⟨vB false,[],[]⟩)) (br (decide (0≤(↑(lnD d (s.getD q.toNat (edflt kc)).2.2.2.2.2.2.2.2.2.2.2.2.2.2.2.1):Int)∧(↑(lnD d (s.getD q.toNat (edflt kc)).2.2.2.2.2.2.2.2.2.2.2.2.2.2.2.1):Int) < (↑d.length:Int))) (br ((d.getD (↑(lnD d (s.getD q.toNat (edflt kc)).2.2.2.2.2.2.2.2.2.2.2.2.2.2.2.1):Int).toNat (edflt k3)).1 != (s.getD q.toNat (edflt kc)).2.2.2.2.2.2.2.2.2.2.2.2.2.2.2.2.1) (R (some ⟨vB false,[],[]⟩)) (N2 (si111 x s d p b f n q 5))) False)) (N2 (si111 x s d p b f n q 5))) False) False):=by kernel_rfl
theorem bi111_5(L:Lp)(R:Rp)(N N2:St→Prop)(x:Int)(s:List (Elem kc))(d p:List (Elem k3))(b:Bool)(f:List (Elem ki))(n:Int)(q:Int):(evP E111 G111 L (lp111 5) (si111 x s d p b f n q 5) (rkn111 L R 2 N 5 N2))=(
    br (decide (0≤q∧q < (↑s.length:Int))) (br (decide (d.length≤1048576)) (br (decide ((s.getD q.toNat (edflt kc)).2.2.2.2.2.2.2.2.2.2.2.2.2.2.2.2.2.2.1 > 0)) (br (!okD d (s.getD q.toNat (edflt kc)).2.2.2.2.2.2.2.2.2.2.2.2.2.2.2.2.2.2.1) (R (some ⟨vB false,[],[]⟩)) (br (decide (0≤(↑(lnD d (s.getD q.toNat (edflt kc)).2.2.2.2.2.2.2.2.2.2.2.2.2.2.2.2.2.2.1):Int)∧(↑(lnD d (s.getD q.toNat (edflt kc)).2.2.2.2.2.2.2.2.2.2.2.2.2.2.2.2.2.2.1):Int) < (↑d.length:Int))) (br ((d.getD (↑(lnD d (s.getD q.toNat (edflt kc)).2.2.2.2.2.2.2.2.2.2.2.2.2.2.2.2.2.2.1):Int).toNat (edflt k3)).1 != (s.getD q.toNat (edflt kc)).2.2.2.2.2.2.2.2.2.2.2.2.2.2.2.2.2.2.2.1) (R (some ⟨vB false,[],[]⟩)) (N2 (si111 x s d p b f n q 6))) False)) (N2 (si111 x s d p b f n q 6))) False) False):=by kernel_rfl
theorem bi111_6(L:Lp)(R:Rp)(N N2:St→Prop)(x:Int)(s:List (Elem kc))(d p:List (Elem k3))(b:Bool)(f:List (Elem ki))(n:Int)(q:Int):(evP E111 G111 L (lp111 5) (si111 x s d p b f n q 6) (rkn111 L R 2 N 5 N2))=(
    br (decide (0≤q∧q < (↑s.length:Int))) (br (decide (d.length≤1048576)) (br (decide ((s.getD q.toNat (edflt kc)).2.2.2.2.2.2.2.2.2.2.2.2.2.2.2.2.2.2.2.2.2.1 > 0)) (br (!okD d (s.getD q.toNat (edflt kc)).2.2.2.2.2.2.2.2.2.2.2.2.2.2.2.2.2.2.2.2.2.1) (R (some ⟨vB false,[],[]⟩)) (br (decide (0≤(↑(lnD d (s.getD q.toNat (edflt kc)).2.2.2.2.2.2.2.2.2.2.2.2.2.2.2.2.2.2.2.2.2.1):Int)∧(↑(lnD d (s.getD q.toNat (edflt kc)).2.2.2.2.2.2.2.2.2.2.2.2.2.2.2.2.2.2.2.2.2.1):Int) < (↑d.length:Int))) (br ((d.getD (↑(lnD d (s.getD q.toNat (edflt kc)).2.2.2.2.2.2.2.2.2.2.2.2.2.2.2.2.2.2.2.2.2.1):Int).toNat (edflt k3)).1 != (s.getD q.toNat (edflt kc)).2.2.2.2.2.2.2.2.2.2.2.2.2.2.2.2.2.2.2.2.2.2.1) (R (some ⟨vB false,[],[]⟩)) (N2 (si111 x s d p b f n q 7))) False)) (N2 (si111 x s d p b f n q 7))) False) False):=by kernel_rfl
theorem bi111_7(L:Lp)(R:Rp)(N N2:St→Prop)(x:Int)(s:List (Elem kc))(d p:List (Elem k3))(b:Bool)(f:List (Elem ki))(n:Int)(q:Int):(evP E111 G111 L (lp111 5) (si111 x s d p b f n q 7) (rkn111 L R 2 N 5 N2))=(
    br (decide (0≤q∧q < (↑s.length:Int))) (br (decide (d.length≤1048576)) (br (decide ((s.getD q.toNat (edflt kc)).2.2.2.2.2.2.2.2.2.2.2.2.2.2.2.2.2.2.2.2.2.2.2.2.1 > 0)) (br (!okD d (s.getD q.toNat (edflt kc)).2.2.2.2.2.2.2.2.2.2.2.2.2.2.2.2.2.2.2.2.2.2.2.2.1) (R (some ⟨vB false,[],[]⟩)) (br (decide (0≤(↑(lnD d (s.getD q.toNat (edflt kc)).2.2.2.2.2.2.2.2.2.2.2.2.2.2.2.2.2.2.2.2.2.2.2.2.1):Int)∧(↑(lnD d (s.getD q.toNat (edflt kc)).2.2.2.2.2.2.2.2.2.2.2.2.2.2.2.2.2.2.2.2.2.2.2.2.1):Int) < (↑d.length:Int))) (br ((d.getD (↑(lnD d (s.getD q.toNat (edflt kc)).2.2.2.2.2.2.2.2.2.2.2.2.2.2.2.2.2.2.2.2.2.2.2.2.1):Int).toNat (edflt k3)).1 != (s.getD q.toNat (edflt kc)).2.2.2.2.2.2.2.2.2.2.2.2.2.2.2.2.2.2.2.2.2.2.2.2.2.1) (R (some ⟨vB false,[],[]⟩)) (N2 (si111 x s d p b f n q 8))) False)) (N2 (si111 x s d p b f n q 8))) False) False):=by kernel_rfl
theorem bi111_8(L:Lp)(R:Rp)(N N2:St→Prop)(x:Int)(s:List (Elem kc))(d p:List (Elem k3))(b:Bool)(f:List (Elem ki))(n:Int)(q:Int):(evP E111 G111 L (lp111 5) (si111 x s d p b f n q 8) (rkn111 L R 2 N 5 N2))=(
    N (st111 x s d p b f n (IntKind.i64.wrap (q+1)))):=by kernel_rfl
noncomputable def E135:Env:=Ef.of Tryz.f135
noncomputable def G135:Gk:=gk [(75,g75)]
noncomputable def lp135(n:Nat):Code:=(loopOf n (codeOf Tryz.f135)).getD .skip
noncomputable def ct135(L:Lp)(R:Rp)(n:Nat):Kt:=contOf E135 G135 L n (codeOf Tryz.f135) (endK E135 Tryz.f135.results.toList R)
noncomputable def rk135(L:Lp)(R:Rp)(n:Nat)(N:St→Prop):Kt:=rk (jof E135 (lp135 n)) N (ct135 L R n)
noncomputable def rkn135(L:Lp)(R:Rp)(n:Nat)(N:St→Prop)(m:Nat)(N2:St→Prop):Kt:=rk (jof E135 (lp135 m)) N2 (contOf E135 G135 L m (lp135 n) (rk135 L R n N))
noncomputable def LOOPN135(L:Lp)(R:Rp)(n:Nat)(N:St→Prop)(m:Nat)(st:St):Prop:=L (lp135 m) st (contOf E135 G135 L m (lp135 n) (rk135 L R n N))
noncomputable def LOOP135(L:Lp)(R:Rp)(n:Nat)(st:St):Prop:=L (lp135 n) st (ct135 L R n)
theorem hg135:HG Tryz.prog G135:=(hg_cons h75 hg_nil)
theorem okf135:Ok Tryz.prog E135:=okf.of Tryz.f135
theorem e135(L:Lp)(R:Rp)(x:Int)(s:List (Elem kc))(d p:List (Elem k3))(b:Bool)(f:List (Elem ki))(n:Int):(bodyP Ef G135 L Tryz.f135 [coreAV x s d p b f n] [] R)=(
    br (decide (0≤(↑d.length:Int)∧(↑d.length:Int)≤(↑d.length:Int)∧8 * (↑d.length:Int)≤281474976710656)) (LOOP135 L R 3 ⟨(vJ :: .ptr 0 0 :: vJ :: .ows 1 :: jn 13 (.rsl kc s :: vI (↑s.length:Int) :: vI 0 :: jn 56 [])),[(0,.box [vI x,.rsl kc s,.rsl k3 d,.rsl k3 p,vB b,.rsl ki f,vI n]),(1,.row ki (List.replicate (↑d.length:Int).toNat (edflt ki)))],1000000,[]⟩) False):=by kernel_rfl
def st135(x:Int)(s:List (Elem kc))(d p:List (Elem k3))(b:Bool)(f:List (Elem ki))(n:Int)(i:Int)(cs:List (Elem ki)):St :=  ⟨(vJ :: AV.ptr 0 0 :: vJ :: AV.ows 1 :: jn 13 (AV.rsl kc s :: vI (↑s.length:Int) :: .val (.int .i64 i) :: jn 56 [])),[(0,AO.box [vI x,AV.rsl kc s,AV.rsl k3 d,AV.rsl k3 p,vB b,AV.rsl ki f,vI n]),(1,.row ki cs)],1000000,[]⟩
theorem b135(L:Lp)(R:Rp)(N:St→Prop)(x:Int)(s:List (Elem kc))(d p:List (Elem k3))(b:Bool)(f:List (Elem ki))(n:Int)(i:Int)(cs:List (Elem ki)):(evP E135 G135 L (lp135 3) (st135 x s d p b f n i cs) (rk135 L R 3 N))=(
    br (decide (i < (↑s.length:Int))) (br (decide (0≤i∧i < (↑s.length:Int))) (LOOPN135 L R 3 N 6 ⟨(vJ :: .ptr 0 0 :: vJ :: .ows 1 :: jn 13 (.rsl kc s :: vI (↑s.length:Int) :: vI i :: jn 4 (.agg (mapK (s.getD i.toNat (edflt kc))) :: vI 0 :: jn 50 []))),[(0,.box [vI x,.rsl kc s,.rsl k3 d,.rsl k3 p,vB b,.rsl ki f,vI n]),(1,.row ki cs)],1000000,[]⟩) False) (LOOP135 L R 16 ⟨(vJ :: vJ :: vJ :: .ows 0 :: jn 57 (.rsl k3 d :: vI (↑d.length:Int) :: vI 0 :: jn 12 [])),[(0,.row ki cs)],1000000,[]⟩)):=by kernel_rfl
def si135(x:Int)(s:List (Elem kc))(d p:List (Elem k3))(b:Bool)(f:List (Elem ki))(n:Int)(i j:Int)(e:Elem kc)(cs:List (Elem ki)):St :=  ⟨(vJ :: AV.ptr 0 0 :: vJ :: AV.ows 1 :: jn 13 (AV.rsl kc s :: vI (↑s.length:Int) :: .val (.int .i64 i) :: jn 4 (.agg (mapK e) :: .val (.int .i64 j) :: jn 50 []))),[(0,AO.box [vI x,AV.rsl kc s,AV.rsl k3 d,AV.rsl k3 p,vB b,AV.rsl ki f,vI n]),(1,.row ki cs)],1000000,[]⟩
theorem bi135_0(L:Lp)(R:Rp)(N N2:St→Prop)(x:Int)(s:List (Elem kc))(d p:List (Elem k3))(b:Bool)(f:List (Elem ki))(n:Int)(q:Int)(e:Elem kc)(cs:List (Elem ki)):(evP E135 G135 L (lp135 6) (si135 x s d p b f n q 0 e cs) (rkn135 L R 3 N 6 N2))=(
    br (e.2.2.2.1==0) (N2 ⟨(vJ :: .ptr 0 0 :: vJ :: .ows 1 :: jn 13 (.rsl kc s :: vI (↑s.length:Int) :: vI q :: jn 4 (.agg (mapK e) :: vI 1 :: jn 50 []))),[(0,.box [vI x,.rsl kc s,.rsl k3 d,.rsl k3 p,vB b,.rsl ki f,vI n]),(1,.row ki cs)],1000000,[]⟩) (br (decide (d.length≤1048576)) (br (!bkD d e.2.2.2.1) (R (some ⟨vB false,[],[]⟩)) (br (decide (0≤(↑(bsD d e.2.2.2.1):Int)∧(↑(bsD d e.2.2.2.1):Int) < (↑d.length:Int))) (br ((d.getD (↑(bsD d e.2.2.2.1):Int).toNat (edflt k3)).1 != e.2.2.2.2.1) (R (some ⟨vB false,[],[]⟩)) (br (decide (0≤(↑(bsD d e.2.2.2.1):Int)∧(↑(bsD d e.2.2.2.1):Int) < (↑cs.length:Int))) (br (decide (0≤(↑(bsD d e.2.2.2.1):Int)∧(↑(bsD d e.2.2.2.1):Int) < (↑cs.length:Int))) (N2 ⟨(vJ :: .ptr 0 0 :: vJ :: .ows 1 :: jn 13 (.rsl kc s :: vI (↑s.length:Int) :: vI q :: jn 4 (.agg (mapK e) :: vI 1 :: jn 50 []))),[(0,.box [vI x,.rsl kc s,.rsl k3 d,.rsl k3 p,vB b,.rsl ki f,vI n]),(1,.row ki (cs.set (↑(bsD d e.2.2.2.1):Int).toNat (IntKind.i64.wrap ((cs.getD (↑(bsD d e.2.2.2.1):Int).toNat (edflt ki)).1+1),())))],1000000,[]⟩) False) False)) False)) False)):=by kernel_rfl
theorem bi135_1(L:Lp)(R:Rp)(N N2:St→Prop)(x:Int)(s:List (Elem kc))(d p:List (Elem k3))(b:Bool)(f:List (Elem ki))(n:Int)(q:Int)(e:Elem kc)(cs:List (Elem ki)):(evP E135 G135 L (lp135 6) (si135 x s d p b f n q 1 e cs) (rkn135 L R 3 N 6 N2))=(
    br (e.2.2.2.2.2.2.1==0) (N2 ⟨(vJ :: .ptr 0 0 :: vJ :: .ows 1 :: jn 13 (.rsl kc s :: vI (↑s.length:Int) :: vI q :: jn 4 (.agg (mapK e) :: vI 2 :: jn 50 []))),[(0,.box [vI x,.rsl kc s,.rsl k3 d,.rsl k3 p,vB b,.rsl ki f,vI n]),(1,.row ki cs)],1000000,[]⟩) (br (decide (d.length≤1048576)) (br (!bkD d e.2.2.2.2.2.2.1) (R (some ⟨vB false,[],[]⟩)) (br (decide (0≤(↑(bsD d e.2.2.2.2.2.2.1):Int)∧(↑(bsD d e.2.2.2.2.2.2.1):Int) < (↑d.length:Int))) (br ((d.getD (↑(bsD d e.2.2.2.2.2.2.1):Int).toNat (edflt k3)).1 != e.2.2.2.2.2.2.2.1) (R (some ⟨vB false,[],[]⟩)) (br (decide (0≤(↑(bsD d e.2.2.2.2.2.2.1):Int)∧(↑(bsD d e.2.2.2.2.2.2.1):Int) < (↑cs.length:Int))) (br (decide (0≤(↑(bsD d e.2.2.2.2.2.2.1):Int)∧(↑(bsD d e.2.2.2.2.2.2.1):Int) < (↑cs.length:Int))) (N2 ⟨(vJ :: .ptr 0 0 :: vJ :: .ows 1 :: jn 13 (.rsl kc s :: vI (↑s.length:Int) :: vI q :: jn 4 (.agg (mapK e) :: vI 2 :: jn 50 []))),[(0,.box [vI x,.rsl kc s,.rsl k3 d,.rsl k3 p,vB b,.rsl ki f,vI n]),(1,.row ki (cs.set (↑(bsD d e.2.2.2.2.2.2.1):Int).toNat (IntKind.i64.wrap ((cs.getD (↑(bsD d e.2.2.2.2.2.2.1):Int).toNat (edflt ki)).1+1),())))],1000000,[]⟩) False) False)) False)) False)):=by kernel_rfl
theorem bi135_2(L:Lp)(R:Rp)(N N2:St→Prop)(x:Int)(s:List (Elem kc))(d p:List (Elem k3))(b:Bool)(f:List (Elem ki))(n:Int)(q:Int)(e:Elem kc)(cs:List (Elem ki)):(evP E135 G135 L (lp135 6) (si135 x s d p b f n q 2 e cs) (rkn135 L R 3 N 6 N2))=(
    br (e.2.2.2.2.2.2.2.2.2.1==0) (N2 ⟨(vJ :: .ptr 0 0 :: vJ :: .ows 1 :: jn 13 (.rsl kc s :: vI (↑s.length:Int) :: vI q :: jn 4 (.agg (mapK e) :: vI 3 :: jn 50 []))),[(0,.box [vI x,.rsl kc s,.rsl k3 d,.rsl k3 p,vB b,.rsl ki f,vI n]),(1,.row ki cs)],1000000,[]⟩) (br (decide (d.length≤1048576)) (br (!bkD d e.2.2.2.2.2.2.2.2.2.1) (R (some ⟨vB false,[],[]⟩)) (br (decide (0≤(↑(bsD d e.2.2.2.2.2.2.2.2.2.1):Int)∧(↑(bsD d e.2.2.2.2.2.2.2.2.2.1):Int) < (↑d.length:Int))) (br ((d.getD (↑(bsD d e.2.2.2.2.2.2.2.2.2.1):Int).toNat (edflt k3)).1 != e.2.2.2.2.2.2.2.2.2.2.1) (R (some ⟨vB false,[],[]⟩)) (br (decide (0≤(↑(bsD d e.2.2.2.2.2.2.2.2.2.1):Int)∧(↑(bsD d e.2.2.2.2.2.2.2.2.2.1):Int) < (↑cs.length:Int))) (br (decide (0≤(↑(bsD d e.2.2.2.2.2.2.2.2.2.1):Int)∧(↑(bsD d e.2.2.2.2.2.2.2.2.2.1):Int) < (↑cs.length:Int))) (N2 ⟨(vJ :: .ptr 0 0 :: vJ :: .ows 1 :: jn 13 (.rsl kc s :: vI (↑s.length:Int) :: vI q :: jn 4 (.agg (mapK e) :: vI 3 :: jn 50 []))),[(0,.box [vI x,.rsl kc s,.rsl k3 d,.rsl k3 p,vB b,.rsl ki f,vI n]),(1,.row ki (cs.set (↑(bsD d e.2.2.2.2.2.2.2.2.2.1):Int).toNat (IntKind.i64.wrap ((cs.getD (↑(bsD d e.2.2.2.2.2.2.2.2.2.1):Int).toNat (edflt ki)).1+1),())))],1000000,[]⟩) False) False)) False)) False)):=by kernel_rfl
theorem bi135_3(L:Lp)(R:Rp)(N N2:St→Prop)(x:Int)(s:List (Elem kc))(d p:List (Elem k3))(b:Bool)(f:List (Elem ki))(n:Int)(q:Int)(e:Elem kc)(cs:List (Elem ki)):(evP E135 G135 L (lp135 6) (si135 x s d p b f n q 3 e cs) (rkn135 L R 3 N 6 N2))=(
    br (e.2.2.2.2.2.2.2.2.2.2.2.2.1==0) (N2 ⟨(vJ :: .ptr 0 0 :: vJ :: .ows 1 :: jn 13 (.rsl kc s :: vI (↑s.length:Int) :: vI q :: jn 4 (.agg (mapK e) :: vI 4 :: jn 50 []))),[(0,.box [vI x,.rsl kc s,.rsl k3 d,.rsl k3 p,vB b,.rsl ki f,vI n]),(1,.row ki cs)],1000000,[]⟩) (br (decide (d.length≤1048576)) (br (!bkD d e.2.2.2.2.2.2.2.2.2.2.2.2.1) (R (some ⟨vB false,[],[]⟩)) (br (decide (0≤(↑(bsD d e.2.2.2.2.2.2.2.2.2.2.2.2.1):Int)∧(↑(bsD d e.2.2.2.2.2.2.2.2.2.2.2.2.1):Int) < (↑d.length:Int))) (br ((d.getD (↑(bsD d e.2.2.2.2.2.2.2.2.2.2.2.2.1):Int).toNat (edflt k3)).1 != e.2.2.2.2.2.2.2.2.2.2.2.2.2.1) (R (some ⟨vB false,[],[]⟩)) (br (decide (0≤(↑(bsD d e.2.2.2.2.2.2.2.2.2.2.2.2.1):Int)∧(↑(bsD d e.2.2.2.2.2.2.2.2.2.2.2.2.1):Int) < (↑cs.length:Int))) (br (decide (0≤(↑(bsD d e.2.2.2.2.2.2.2.2.2.2.2.2.1):Int)∧(↑(bsD d e.2.2.2.2.2.2.2.2.2.2.2.2.1):Int) < (↑cs.length:Int))) (N2 ⟨(vJ :: .ptr 0 0 :: vJ :: .ows 1 :: jn 13 (.rsl kc s :: vI (↑s.length:Int) :: vI q :: jn 4 (.agg (mapK e) :: vI 4 :: jn 50 []))),[(0,.box [vI x,.rsl kc s,.rsl k3 d,.rsl k3 p,vB b,.rsl ki f,vI n]),(1,.row ki (cs.set (↑(bsD d e.2.2.2.2.2.2.2.2.2.2.2.2.1):Int).toNat (IntKind.i64.wrap ((cs.getD (↑(bsD d e.2.2.2.2.2.2.2.2.2.2.2.2.1):Int).toNat (edflt ki)).1+1),())))],1000000,[]⟩) False) False)) False)) False)):=by kernel_rfl
theorem bi135_4(L:Lp)(R:Rp)(N N2:St→Prop)(x:Int)(s:List (Elem kc))(d p:List (Elem k3))(b:Bool)(f:List (Elem ki))(n:Int)(q:Int)(e:Elem kc)(cs:List (Elem ki)):(evP E135 G135 L (lp135 6) (si135 x s d p b f n q 4 e cs) (rkn135 L R 3 N 6 N2))=(
    br (e.2.2.2.2.2.2.2.2.2.2.2.2.2.2.2.1==0) (N2 ⟨(vJ :: .ptr 0 0 :: vJ :: .ows 1 :: jn 13 (.rsl kc s :: vI (↑s.length:Int) :: vI q :: jn 4 (.agg (mapK e) :: vI 5 :: jn 50 []))),[(0,.box [vI x,.rsl kc s,.rsl k3 d,.rsl k3 p,vB b,.rsl ki f,vI n]),(1,.row ki cs)],1000000,[]⟩) (br (decide (d.length≤1048576)) (br (!bkD d e.2.2.2.2.2.2.2.2.2.2.2.2.2.2.2.1) (R (some ⟨vB false,[],[]⟩)) (br (decide (0≤(↑(bsD d e.2.2.2.2.2.2.2.2.2.2.2.2.2.2.2.1):Int)∧(↑(bsD d e.2.2.2.2.2.2.2.2.2.2.2.2.2.2.2.1):Int) < (↑d.length:Int))) (br ((d.getD (↑(bsD d e.2.2.2.2.2.2.2.2.2.2.2.2.2.2.2.1):Int).toNat (edflt k3)).1 != e.2.2.2.2.2.2.2.2.2.2.2.2.2.2.2.2.1) (R (some ⟨vB false,[],[]⟩)) (br (decide (0≤(↑(bsD d e.2.2.2.2.2.2.2.2.2.2.2.2.2.2.2.1):Int)∧(↑(bsD d e.2.2.2.2.2.2.2.2.2.2.2.2.2.2.2.1):Int) < (↑cs.length:Int))) (br (decide (0≤(↑(bsD d e.2.2.2.2.2.2.2.2.2.2.2.2.2.2.2.1):Int)∧(↑(bsD d e.2.2.2.2.2.2.2.2.2.2.2.2.2.2.2.1):Int) < (↑cs.length:Int))) (N2 ⟨(vJ :: .ptr 0 0 :: vJ :: .ows 1 :: jn 13 (.rsl kc s :: vI (↑s.length:Int) :: vI q :: jn 4 (.agg (mapK e) :: vI 5 :: jn 50 []))),[(0,.box [vI x,.rsl kc s,.rsl k3 d,.rsl k3 p,vB b,.rsl ki f,vI n]),(1,.row ki (cs.set (↑(bsD d e.2.2.2.2.2.2.2.2.2.2.2.2.2.2.2.1):Int).toNat (IntKind.i64.wrap ((cs.getD (↑(bsD d e.2.2.2.2.2.2.2.2.2.2.2.2.2.2.2.1):Int).toNat (edflt ki)).1+1),())))],1000000,[]⟩) False) False)) False)) False)):=by kernel_rfl
theorem bi135_5(L:Lp)(R:Rp)(N N2:St→Prop)(x:Int)(s:List (Elem kc))(d p:List (Elem k3))(b:Bool)(f:List (Elem ki))(n:Int)(q:Int)(e:Elem kc)(cs:List (Elem ki)):(evP E135 G135 L (lp135 6) (si135 x s d p b f n q 5 e cs) (rkn135 L R 3 N 6 N2))=(
    br (e.2.2.2.2.2.2.2.2.2.2.2.2.2.2.2.2.2.2.1==0) (N2 ⟨(vJ :: .ptr 0 0 :: vJ :: .ows 1 :: jn 13 (.rsl kc s :: vI (↑s.length:Int) :: vI q :: jn 4 (.agg (mapK e) :: vI 6 :: jn 50 []))),[(0,.box [vI x,.rsl kc s,.rsl k3 d,.rsl k3 p,vB b,.rsl ki f,vI n]),(1,.row ki cs)],1000000,[]⟩) (br (decide (d.length≤1048576)) (br (!bkD d e.2.2.2.2.2.2.2.2.2.2.2.2.2.2.2.2.2.2.1) (R (some ⟨vB false,[],[]⟩)) (br (decide (0≤(↑(bsD d e.2.2.2.2.2.2.2.2.2.2.2.2.2.2.2.2.2.2.1):Int)∧(↑(bsD d e.2.2.2.2.2.2.2.2.2.2.2.2.2.2.2.2.2.2.1):Int) < (↑d.length:Int))) (br ((d.getD (↑(bsD d e.2.2.2.2.2.2.2.2.2.2.2.2.2.2.2.2.2.2.1):Int).toNat (edflt k3)).1 != e.2.2.2.2.2.2.2.2.2.2.2.2.2.2.2.2.2.2.2.1) (R (some ⟨vB false,[],[]⟩)) (br (decide (0≤(↑(bsD d e.2.2.2.2.2.2.2.2.2.2.2.2.2.2.2.2.2.2.1):Int)∧(↑(bsD d e.2.2.2.2.2.2.2.2.2.2.2.2.2.2.2.2.2.2.1):Int) < (↑cs.length:Int))) (br (decide (0≤(↑(bsD d e.2.2.2.2.2.2.2.2.2.2.2.2.2.2.2.2.2.2.1):Int)∧(↑(bsD d e.2.2.2.2.2.2.2.2.2.2.2.2.2.2.2.2.2.2.1):Int) < (↑cs.length:Int))) (N2 ⟨(vJ :: .ptr 0 0 :: vJ :: .ows 1 :: jn 13 (.rsl kc s :: vI (↑s.length:Int) :: vI q :: jn 4 (.agg (mapK e) :: vI 6 :: jn 50 []))),[(0,.box [vI x,.rsl kc s,.rsl k3 d,.rsl k3 p,vB b,.rsl ki f,vI n]),(1,.row ki (cs.set (↑(bsD d e.2.2.2.2.2.2.2.2.2.2.2.2.2.2.2.2.2.2.1):Int).toNat (IntKind.i64.wrap ((cs.getD (↑(bsD d e.2.2.2.2.2.2.2.2.2.2.2.2.2.2.2.2.2.2.1):Int).toNat (edflt ki)).1+1),())))],1000000,[]⟩) False) False)) False)) False)):=by kernel_rfl
theorem bi135_6(L:Lp)(R:Rp)(N N2:St→Prop)(x:Int)(s:List (Elem kc))(d p:List (Elem k3))(b:Bool)(f:List (Elem ki))(n:Int)(q:Int)(e:Elem kc)(cs:List (Elem ki)):(evP E135 G135 L (lp135 6) (si135 x s d p b f n q 6 e cs) (rkn135 L R 3 N 6 N2))=(
    br (e.2.2.2.2.2.2.2.2.2.2.2.2.2.2.2.2.2.2.2.2.2.1==0) (N2 ⟨(vJ :: .ptr 0 0 :: vJ :: .ows 1 :: jn 13 (.rsl kc s :: vI (↑s.length:Int) :: vI q :: jn 4 (.agg (mapK e) :: vI 7 :: jn 50 []))),[(0,.box [vI x,.rsl kc s,.rsl k3 d,.rsl k3 p,vB b,.rsl ki f,vI n]),(1,.row ki cs)],1000000,[]⟩) (br (decide (d.length≤1048576)) (br (!bkD d e.2.2.2.2.2.2.2.2.2.2.2.2.2.2.2.2.2.2.2.2.2.1) (R (some ⟨vB false,[],[]⟩)) (br (decide (0≤(↑(bsD d e.2.2.2.2.2.2.2.2.2.2.2.2.2.2.2.2.2.2.2.2.2.1):Int)∧(↑(bsD d e.2.2.2.2.2.2.2.2.2.2.2.2.2.2.2.2.2.2.2.2.2.1):Int) < (↑d.length:Int))) (br ((d.getD (↑(bsD d e.2.2.2.2.2.2.2.2.2.2.2.2.2.2.2.2.2.2.2.2.2.1):Int).toNat (edflt k3)).1 != e.2.2.2.2.2.2.2.2.2.2.2.2.2.2.2.2.2.2.2.2.2.2.1) (R (some ⟨vB false,[],[]⟩)) (br (decide (0≤(↑(bsD d e.2.2.2.2.2.2.2.2.2.2.2.2.2.2.2.2.2.2.2.2.2.1):Int)∧(↑(bsD d e.2.2.2.2.2.2.2.2.2.2.2.2.2.2.2.2.2.2.2.2.2.1):Int) < (↑cs.length:Int))) (br (decide (0≤(↑(bsD d e.2.2.2.2.2.2.2.2.2.2.2.2.2.2.2.2.2.2.2.2.2.1):Int)∧(↑(bsD d e.2.2.2.2.2.2.2.2.2.2.2.2.2.2.2.2.2.2.2.2.2.1):Int) < (↑cs.length:Int))) (N2 ⟨(vJ :: .ptr 0 0 :: vJ :: .ows 1 :: jn 13 (.rsl kc s :: vI (↑s.length:Int) :: vI q :: jn 4 (.agg (mapK e) :: vI 7 :: jn 50 []))),[(0,.box [vI x,.rsl kc s,.rsl k3 d,.rsl k3 p,vB b,.rsl ki f,vI n]),(1,.row ki (cs.set (↑(bsD d e.2.2.2.2.2.2.2.2.2.2.2.2.2.2.2.2.2.2.2.2.2.1):Int).toNat (IntKind.i64.wrap ((cs.getD (↑(bsD d e.2.2.2.2.2.2.2.2.2.2.2.2.2.2.2.2.2.2.2.2.2.1):Int).toNat (edflt ki)).1+1),())))],1000000,[]⟩) False) False)) False)) False)):=by kernel_rfl
theorem bi135_7(L:Lp)(R:Rp)(N N2:St→Prop)(x:Int)(s:List (Elem kc))(d p:List (Elem k3))(b:Bool)(f:List (Elem ki))(n:Int)(q:Int)(e:Elem kc)(cs:List (Elem ki)):(evP E135 G135 L (lp135 6) (si135 x s d p b f n q 7 e cs) (rkn135 L R 3 N 6 N2))=(
    br (e.2.2.2.2.2.2.2.2.2.2.2.2.2.2.2.2.2.2.2.2.2.2.2.2.1==0) (N2 ⟨(vJ :: .ptr 0 0 :: vJ :: .ows 1 :: jn 13 (.rsl kc s :: vI (↑s.length:Int) :: vI q :: jn 4 (.agg (mapK e) :: vI 8 :: jn 50 []))),[(0,.box [vI x,.rsl kc s,.rsl k3 d,.rsl k3 p,vB b,.rsl ki f,vI n]),(1,.row ki cs)],1000000,[]⟩) (br (decide (d.length≤1048576)) (br (!bkD d e.2.2.2.2.2.2.2.2.2.2.2.2.2.2.2.2.2.2.2.2.2.2.2.2.1) (R (some ⟨vB false,[],[]⟩)) (br (decide (0≤(↑(bsD d e.2.2.2.2.2.2.2.2.2.2.2.2.2.2.2.2.2.2.2.2.2.2.2.2.1):Int)∧(↑(bsD d e.2.2.2.2.2.2.2.2.2.2.2.2.2.2.2.2.2.2.2.2.2.2.2.2.1):Int) < (↑d.length:Int))) (br ((d.getD (↑(bsD d e.2.2.2.2.2.2.2.2.2.2.2.2.2.2.2.2.2.2.2.2.2.2.2.2.1):Int).toNat (edflt k3)).1 != e.2.2.2.2.2.2.2.2.2.2.2.2.2.2.2.2.2.2.2.2.2.2.2.2.2.1) (R (some ⟨vB false,[],[]⟩)) (br (decide (0≤(↑(bsD d e.2.2.2.2.2.2.2.2.2.2.2.2.2.2.2.2.2.2.2.2.2.2.2.2.1):Int)∧(↑(bsD d e.2.2.2.2.2.2.2.2.2.2.2.2.2.2.2.2.2.2.2.2.2.2.2.2.1):Int) < (↑cs.length:Int))) (br (decide (0≤(↑(bsD d e.2.2.2.2.2.2.2.2.2.2.2.2.2.2.2.2.2.2.2.2.2.2.2.2.1):Int)∧(↑(bsD d e.2.2.2.2.2.2.2.2.2.2.2.2.2.2.2.2.2.2.2.2.2.2.2.2.1):Int) < (↑cs.length:Int))) (N2 ⟨(vJ :: .ptr 0 0 :: vJ :: .ows 1 :: jn 13 (.rsl kc s :: vI (↑s.length:Int) :: vI q :: jn 4 (.agg (mapK e) :: vI 8 :: jn 50 []))),[(0,.box [vI x,.rsl kc s,.rsl k3 d,.rsl k3 p,vB b,.rsl ki f,vI n]),(1,.row ki (cs.set (↑(bsD d e.2.2.2.2.2.2.2.2.2.2.2.2.2.2.2.2.2.2.2.2.2.2.2.2.1):Int).toNat (IntKind.i64.wrap ((cs.getD (↑(bsD d e.2.2.2.2.2.2.2.2.2.2.2.2.2.2.2.2.2.2.2.2.2.2.2.2.1):Int).toNat (edflt ki)).1+1),())))],1000000,[]⟩) False) False)) False)) False)):=by kernel_rfl
theorem bi135_8(L:Lp)(R:Rp)(N N2:St→Prop)(x:Int)(s:List (Elem kc))(d p:List (Elem k3))(b:Bool)(f:List (Elem ki))(n:Int)(q:Int)(e:Elem kc)(cs:List (Elem ki)):(evP E135 G135 L (lp135 6) (si135 x s d p b f n q 8 e cs) (rkn135 L R 3 N 6 N2))=(
    N ⟨(vJ :: .ptr 0 0 :: vJ :: .ows 1 :: jn 13 (.rsl kc s :: vI (↑s.length:Int) :: vI (IntKind.i64.wrap (q+1)) :: jn 56 [])),[(0,.box [vI x,.rsl kc s,.rsl k3 d,.rsl k3 p,vB b,.rsl ki f,vI n]),(1,.row ki cs)],1000000,[]⟩):=by kernel_rfl
def so72(d:List (Elem k3))(i:Int)(cs:List (Elem ki)):St :=  ⟨(vJ :: vJ :: vJ :: AV.ows 0 :: jn 57 (AV.rsl k3 d :: vI (↑d.length:Int) :: .val (.int .i64 i) :: jn 12 [])),[(0,.row ki cs)],1000000,[]⟩
theorem bo72(L:Lp)(R:Rp)(N:St→Prop)(d:List (Elem k3))(i:Int)(cs:List (Elem ki)):(evP E135 G135 L (lp135 16) (so72 d i cs) (rk135 L R 16 N))=(
    br (decide (i < (↑d.length:Int))) (br (decide (0≤i∧i < (↑d.length:Int))) (br (decide (0≤i∧i < (↑cs.length:Int))) (br ((d.getD i.toNat (edflt k3)).2.2.1 != (cs.getD i.toNat (edflt ki)).1) (R (some ⟨vB false,[],[]⟩)) (N ⟨(vJ :: vJ :: vJ :: .ows 0 :: jn 57 (.rsl k3 d :: vI (↑d.length:Int) :: vI (IntKind.i64.wrap (i+1)) :: jn 12 [])),[(0,.row ki cs)],1000000,[]⟩)) False) False) (R (some ⟨vB true,[],[]⟩))):=by kernel_rfl
end Go.Proofs.YtkjnijddbiconaaGreatDoor.Ev
