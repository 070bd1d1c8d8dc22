/- The law of BookOk. -/
import Derived.Test.YtkjnijddbiconaaGreatDoorD14
namespace Go.Proofs.YtkjnijddbiconaaGreatDoor.Ev
open Go
set_option linter.unusedVariables false
set_option linter.unusedSimpArgs false
set_option maxRecDepth 100000
def set1(xs:List (Elem kb))(i:Nat):Bool:=nameOk (atB xs i).1&&(i==0 || strLt (atB xs (i - 1)).1 (atB xs i).1)&&((atB xs i).2.1==1 || (atB xs i).2.1==2)&&allB 8 fun j=>decide (((at1 (bks (atB xs i)) j).size:Int)≤24)
def bookOk(xs:List (Elem kb)):Bool:=decide ((xs.length:Int)≤6)&&(allB xs.length (set1 xs)&&allB xs.length fun i=>rtB xs (xs.length+1) (atB xs i))
def smB(xs:List (Elem kb)):Bool:=decide (xs.length≤1048576)&&xs.all fun e=>decide (e.1.size≤1048576)
def g96:G1
  | [.agg [.rsl [.str,.int .i64,.str,.str,.str,.str,.str,.str,.str,.str,.str] xs]],[],k=>br (smB xs) (k ⟨.val (.bool (bookOk xs)),[],[]⟩) False
  | _,_,_=>False
def g175:G1
  | [.agg us,.rpt [.rsl [.str,.int .i64,.str,.str,.str,.str,.str,.str,.str,.str,.str] xs]],[],k=>match elemOf kb us with
    | some s=>br (decide (xs.length≤1048576)) (k ⟨.val (.bool (!ldB xs xs.length s)),[],[]⟩) False
    | none=>False
  | _,_,_=>False
def g223b:G1
  | [.rsl [.str,.int .i64,.str,.str,.str,.str,.str,.str,.str,.str,.str] xs,.fn 175 [.rpt [.rsl [.str,.int .i64,.str,.str,.str,.str,.str,.str,.str,.str,.str] ys]]],[],k=>br (decide (xs.length≤1048576)&&decide (ys.length≤1048576)) (k ⟨.val (.int .i64 (fIx xs.length fun i => !ldB ys ys.length (atB xs i))),[],[]⟩) False
  | _,_,_=>False
def g174:G1
  | [.rsl [.str,.int .i64,.str,.str,.str,.str,.str,.str,.str,.str,.str] xs,.fn 175 [.rpt [.rsl [.str,.int .i64,.str,.str,.str,.str,.str,.str,.str,.str,.str] ys]]],[],k=>br (decide (xs.length≤1048576)&&decide (ys.length≤1048576)) (k ⟨.val (.bool (anyB xs.length fun i => !ldB ys ys.length (atB xs i))),[],[]⟩) False
  | _,_,_=>False
noncomputable def G175:Gk:=gk [(176,g176)]
theorem hg175:HG Tryz.prog G175:=(hg_cons h176 hg_nil)
theorem e175(L:Lp)(R:Rp)(e:Elem kb)(xs:List (Elem kb)):(bodyP Ef G175 L Tryz.f175 [.agg (setC e),.rpt [.rsl kb xs]] [] R)=(
    br (decide (xs.length≤1048576)) (R (some ⟨vB !ldB xs xs.length e,[],[]⟩)) False):=by kernel_rfl
theorem h175:G1Ok Tryz.prog 175 g175:=by
  intro args obs k h
  unfold g175 at h
  split at h
  · rename_i k us xs
    split at h
    rotate_left
    · exact h.elim
    rename_i s hs
    obtain rfl:=elemOf_inv hs
    obtain ⟨hl,h⟩:=br_and h
    refine ⟨_,ctr_fn okf hg175 Tryz.func175 (by kernel_rfl) (by kernel_rfl) (by kernel_rfl) fun C => ?_,h⟩
    show bodyP Ef G175 _ Tryz.f175 [.agg (setC s),.rpt [.rsl kb xs]] [] _
    rw [e175]
    exact br_t hl rfl
  · exact h.elim
noncomputable def E223b:Env:=Ef.of Tryz.f223
noncomputable def G223b:Gk:=gk [(175,g175)]
noncomputable def lp223b(n:Nat):Code:=(loopOf n (codeOf Tryz.f223)).getD .skip
noncomputable def ct223b(L:Lp)(R:Rp)(n:Nat):Kt:=contOf E223b G223b L n (codeOf Tryz.f223) (endK E223b Tryz.f223.results.toList R)
noncomputable def rk223b(L:Lp)(R:Rp)(n:Nat)(N:St→Prop):Kt:=rk (jof E223b (lp223b n)) N (ct223b L R n)
noncomputable def LOOP223b(L:Lp)(R:Rp)(n:Nat)(st:St):Prop:=L (lp223b n) st (ct223b L R n)
theorem hg223b:HG Tryz.prog G223b:=(hg_cons h175 hg_nil)
theorem okf223b:Ok Tryz.prog E223b:=okf.of Tryz.f223
theorem e223b(L:Lp)(R:Rp)(xs ys:List (Elem kb)):(bodyP Ef G223b L Tryz.f223 [.rsl kb xs,.fn 175 [.rpt [.rsl kb ys]]] [] R)=(
    LOOP223b L R 2 ⟨[.rsl kb xs,.fn 175 [.rpt [.rsl kb ys]],vJ,vJ,vJ,vJ,vJ,vI (↑xs.length:Int),vI 0,vJ,vJ,vJ,vJ,vJ,vJ,vJ,vJ,vJ,vJ],[],1000000,[]⟩):=by kernel_rfl
def st223b(xs ys:List (Elem kb))(i:Int):St :=  ⟨[AV.rsl kb xs,AV.fn 175 [AV.rpt [AV.rsl kb ys]],vJ,vJ,vJ,vJ,vJ,vI (↑xs.length:Int),.val (.int .i64 i),vJ,vJ,vJ,vJ,vJ,vJ,vJ,vJ,vJ,vJ],[],1000000,[]⟩
theorem b223b(L:Lp)(R:Rp)(N:St→Prop)(xs ys:List (Elem kb))(i:Int):(evP E223b G223b L (lp223b 2) (st223b xs ys i) (rk223b L R 2 N))=(
    br (decide (i < (↑xs.length:Int))) (br (decide (0≤i∧i < (↑xs.length:Int))) (br (decide (ys.length≤1048576)) (br (!ldB ys ys.length (xs.getD i.toNat (edflt kb))) (R (some ⟨vI i,[],[]⟩)) (N ⟨[.rsl kb xs,.fn 175 [.rpt [.rsl kb ys]],vJ,vJ,vJ,vJ,vJ,vI (↑xs.length:Int),vI (IntKind.i64.wrap (i+1)),vJ,vJ,vJ,vJ,vJ,vJ,vJ,vJ,vJ,vJ],[],1000000,[]⟩)) False) False) (R (some ⟨vI (-1),[],[]⟩))):=by kernel_rfl
theorem h223b:G1Ok Tryz.prog 223 g223b:=by
  intro args obs k h
  unfold g223b at h
  split at h
  · rename_i k xs ys
    obtain ⟨hl,hm,h⟩:=brb2 h
    have hl':=of_decide_eq_true hl
    refine ⟨_,ctr_fn okf hg223b Tryz.func223 (by kernel_rfl) (by kernel_rfl) (by kernel_rfl) fun C => ?_,h⟩
    rw [e223b]
    refine loopFind okf223b hg223b (fun i=>st223b xs ys i) xs.length (fun i => !ldB ys ys.length (atB xs i)) (by omega) (fun N i hi hw next found none => ?_)
    show evP E223b G223b _ (lp223b 2) (st223b xs ys i) (rk223b _ _ 2 _)
    rw [b223b,hw,Int.toNat_natCast]
    refine br_dec (fun h2=>br_yes ⟨by omega,h2⟩ (br_t hm (br_intro (fun h3 => ?_) (fun h3 => ?_)))) (fun h2 => ?_)
    · show _=_
      rw [found (by omega) h3]
    · exact next (by omega) h3
    · show _=_
      rw [none (by omega)]
  · exact h.elim
noncomputable def G174:Gk:=gk [(223,g223b)]
theorem hg174:HG Tryz.prog G174:=(hg_cons h223b hg_nil)
theorem e174(L:Lp)(R:Rp)(xs ys:List (Elem kb)):(bodyP Ef G174 L Tryz.f174 [.rsl kb xs,.fn 175 [.rpt [.rsl kb ys]]] [] R)=(
    br (decide (xs.length≤1048576)&&decide (ys.length≤1048576)) (R (some ⟨vB (decide ((fIx xs.length fun i => !ldB ys ys.length (atB xs i))≥0)),[],[]⟩)) False):=by kernel_rfl
theorem h174:G1Ok Tryz.prog 174 g174:=by
  intro args obs k h
  unfold g174 at h
  split at h
  · rename_i k xs ys
    obtain ⟨hl,h⟩:=br_and h
    refine ⟨_,ctr_fn okf hg174 Tryz.func174 (by kernel_rfl) (by kernel_rfl) (by kernel_rfl) fun C => ?_,h⟩
    rw [e174]
    refine br_t hl ?_
    show _=_
    rw [fIx_ge]
  · exact h.elim
noncomputable def E96:Env:=Ef.of Tryz.f96
noncomputable def G96:Gk:=gk [(167,g167),(168,g168)]
noncomputable def lp96(n:Nat):Code:=(loopOf n (codeOf Tryz.f96)).getD .skip
noncomputable def ct96(L:Lp)(R:Rp)(n:Nat):Kt:=contOf E96 G96 L n (codeOf Tryz.f96) (endK E96 Tryz.f96.results.toList R)
noncomputable def rk96(L:Lp)(R:Rp)(n:Nat)(N:St→Prop):Kt:=rk (jof E96 (lp96 n)) N (ct96 L R n)
noncomputable def rkn96(L:Lp)(R:Rp)(n:Nat)(N:St→Prop)(m:Nat)(N2:St→Prop):Kt:=rk (jof E96 (lp96 m)) N2 (contOf E96 G96 L m (lp96 n) (rk96 L R n N))
noncomputable def LOOPN96(L:Lp)(R:Rp)(n:Nat)(N:St→Prop)(m:Nat)(st:St):Prop:=L (lp96 m) st (contOf E96 G96 L m (lp96 n) (rk96 L R n N))
noncomputable def LOOP96(L:Lp)(R:Rp)(n:Nat)(st:St):Prop:=L (lp96 n) st (ct96 L R n)
theorem hg96:HG Tryz.prog G96:=(hg_cons h167 (hg_cons h168 hg_nil))
theorem okf96:Ok Tryz.prog E96:=okf.of Tryz.f96
theorem e96(L:Lp)(R:Rp)(xs:List (Elem kb)):(bodyP Ef G96 L Tryz.f96 [.agg [.rsl kb xs]] [] R)=(
    br (decide ((↑xs.length:Int) > 6)) (R (some ⟨vB false,[],[]⟩)) (LOOP96 L R 4 ⟨(vJ :: .ptr 0 0 :: vJ :: vI 0 :: jn 74 []),[(0,.box [.rsl kb xs])],1000000,[]⟩)):=by kernel_rfl
def st96(xs:List (Elem kb))(i:Int):St :=  ⟨(vJ :: AV.ptr 0 0 :: vJ :: .val (.int .i64 i) :: jn 74 []),[(0,AO.box [AV.rsl kb xs])],1000000,[]⟩
theorem b96(L:Lp)(R:Rp)(N:St→Prop)(xs:List (Elem kb))(i:Int):(evP E96 G96 L (lp96 4) (st96 xs i) (rk96 L R 4 N))=(
    br (decide (i < (↑xs.length:Int))) (br (decide (0≤i∧i < (↑xs.length:Int))) (br (decide (ByteArray.size (xs.getD i.toNat (edflt kb)).1≤1048576)) (br (!nameOk (xs.getD i.toNat (edflt kb)).1) (R (some ⟨vB false,[],[]⟩)) (br (decide (i > 0)) (br (decide (0≤IntKind.i64.wrap (i - 1)∧IntKind.i64.wrap (i - 1) < (↑xs.length:Int))) (br (strLt (xs.getD i.toNat (edflt kb)).1 (xs.getD (IntKind.i64.wrap (i - 1)).toNat (edflt kb)).1 || strEq (xs.getD i.toNat (edflt kb)).1 (xs.getD (IntKind.i64.wrap (i - 1)).toNat (edflt kb)).1) (R (some ⟨vB false,[],[]⟩)) (br (decide ((xs.getD i.toNat (edflt kb)).2.1 < 1)) (R (some ⟨vB false,[],[]⟩)) (br (decide ((xs.getD i.toNat (edflt kb)).2.1 > 2)) (R (some ⟨vB false,[],[]⟩)) (LOOPN96 L R 4 N 10 ⟨(vJ :: .ptr 0 0 :: vJ :: vI i :: .ptr 1 0 :: vI 0 :: jn 72 []),[(0,.box [.rsl kb xs]),(1,.box [vS (xs.getD i.toNat (edflt kb)).1,vI (xs.getD i.toNat (edflt kb)).2.1,vS (xs.getD i.toNat (edflt kb)).2.2.1,vS (xs.getD i.toNat (edflt kb)).2.2.2.1,vS (xs.getD i.toNat (edflt kb)).2.2.2.2.1,vS (xs.getD i.toNat (edflt kb)).2.2.2.2.2.1,vS (xs.getD i.toNat (edflt kb)).2.2.2.2.2.2.1,vS (xs.getD i.toNat (edflt kb)).2.2.2.2.2.2.2.1,vS (xs.getD i.toNat (edflt kb)).2.2.2.2.2.2.2.2.1,vS (xs.getD i.toNat (edflt kb)).2.2.2.2.2.2.2.2.2.1,vS (xs.getD i.toNat (edflt kb)).2.2.2.2.2.2.2.2.2.2.1])],1000000,[]⟩)))) False) (br (decide ((xs.getD i.toNat (edflt kb)).2.1 < 1)) (R (some ⟨vB false,[],[]⟩)) (br (decide ((xs.getD i.toNat (edflt kb)).2.1 > 2)) (R (some ⟨vB false,[],[]⟩)) (LOOPN96 L R 4 N 10 ⟨(vJ :: .ptr 0 0 :: vJ :: vI i :: .ptr 1 0 :: vI 0 :: jn 72 []),[(0,.box [.rsl kb xs]),(1,.box [vS (xs.getD i.toNat (edflt kb)).1,vI (xs.getD i.toNat (edflt kb)).2.1,vS (xs.getD i.toNat (edflt kb)).2.2.1,vS (xs.getD i.toNat (edflt kb)).2.2.2.1,vS (xs.getD i.toNat (edflt kb)).2.2.2.2.1,vS (xs.getD i.toNat (edflt kb)).2.2.2.2.2.1,vS (xs.getD i.toNat (edflt kb)).2.2.2.2.2.2.1,vS (xs.getD i.toNat (edflt kb)).2.2.2.2.2.2.2.1,vS (xs.getD i.toNat (edflt kb)).2.2.2.2.2.2.2.2.1,vS (xs.getD i.toNat (edflt kb)).2.2.2.2.2.2.2.2.2.1,vS (xs.getD i.toNat (edflt kb)).2.2.2.2.2.2.2.2.2.2.1])],1000000,[]⟩))))) False) False) (LOOP96 L R 15 ⟨(vJ :: .ptr 0 0 :: jn 4 (vI 0 :: jn 71 [])),[(0,.box [.rsl kb xs])],1000000,[]⟩)):=by kernel_rfl
def si96(xs:List (Elem kb))(q:Int)(e:Elem kb)(j:Int):St :=  ⟨(vJ :: AV.ptr 0 0 :: vJ :: .val (.int .i64 q) :: AV.ptr 1 0 :: .val (.int .i64 j) :: jn 72 []),[(0,AO.box [AV.rsl kb xs]),(1,.box (setC e))],1000000,[]⟩
theorem bi96_0(L:Lp)(R:Rp)(N N2:St→Prop)(xs:List (Elem kb))(q:Int)(e:Elem kb):(evP E96 G96 L (lp96 10) (si96 xs q e 0) (rkn96 L R 4 N 10 N2))=(
    br (decide ((↑(ByteArray.size e.2.2.2.1):Int) > 24)) (R (some ⟨vB false,[],[]⟩)) (N2 ⟨(vJ :: .ptr 0 0 :: vJ :: vI q :: .ptr 1 0 :: vI 1 :: jn 72 []),[(0,.box [.rsl kb xs]),(1,.box [vS e.1,vI e.2.1,vS e.2.2.1,vS e.2.2.2.1,vS e.2.2.2.2.1,vS e.2.2.2.2.2.1,vS e.2.2.2.2.2.2.1,vS e.2.2.2.2.2.2.2.1,vS e.2.2.2.2.2.2.2.2.1,vS e.2.2.2.2.2.2.2.2.2.1,vS e.2.2.2.2.2.2.2.2.2.2.1])],1000000,[]⟩)):=by kernel_rfl
theorem bi96_1(L:Lp)(R:Rp)(N N2:St→Prop)(xs:List (Elem kb))(q:Int)(e:Elem kb):(evP E96 G96 L (lp96 10) (si96 xs q e 1) (rkn96 L R 4 N 10 N2))=(
    br (decide ((↑(ByteArray.size e.2.2.2.2.1):Int) > 24)) (R (some ⟨vB false,[],[]⟩)) (N2 ⟨(vJ :: .ptr 0 0 :: vJ :: vI q :: .ptr 1 0 :: vI 2 :: jn 72 []),[(0,.box [.rsl kb xs]),(1,.box [vS e.1,vI e.2.1,vS e.2.2.1,vS e.2.2.2.1,vS e.2.2.2.2.1,vS e.2.2.2.2.2.1,vS e.2.2.2.2.2.2.1,vS e.2.2.2.2.2.2.2.1,vS e.2.2.2.2.2.2.2.2.1,vS e.2.2.2.2.2.2.2.2.2.1,vS e.2.2.2.2.2.2.2.2.2.2.1])],1000000,[]⟩)):=by kernel_rfl
theorem bi96_2(L:Lp)(R:Rp)(N N2:St→Prop)(xs:List (Elem kb))(q:Int)(e:Elem kb):(evP E96 G96 L (lp96 10) (si96 xs q e 2) (rkn96 L R 4 N 10 N2))=(
    br (decide ((↑(ByteArray.size e.2.2.2.2.2.1):Int) > 24)) (R (some ⟨vB false,[],[]⟩)) (N2 ⟨(vJ :: .ptr 0 0 :: vJ :: vI q :: .ptr 1 0 :: vI 3 :: jn 72 []),[(0,.box [.rsl kb xs]),(1,.box [vS e.1,vI e.2.1,vS e.2.2.1,vS e.2.2.2.1,vS e.2.2.2.2.1,vS e.2.2.2.2.2.1,vS e.2.2.2.2.2.2.1,vS e.2.2.2.2.2.2.2.1,vS e.2.2.2.2.2.2.2.2.1,vS e.2.2.2.2.2.2.2.2.2.1,vS e.2.2.2.2.2.2.2.2.2.2.1])],1000000,[]⟩)):=by kernel_rfl
theorem bi96_3(L:Lp)(R:Rp)(N N2:St→Prop)(xs:List (Elem kb))(q:Int)(e:Elem kb):(evP E96 G96 L (lp96 10) (si96 xs q e 3) (rkn96 L R 4 N 10 N2))=(
    br (decide ((↑(ByteArray.size e.2.2.2.2.2.2.1):Int) > 24)) (R (some ⟨vB false,[],[]⟩)) (N2 ⟨(vJ :: .ptr 0 0 :: vJ :: vI q :: .ptr 1 0 :: vI 4 :: jn 72 []),[(0,.box [.rsl kb xs]),(1,.box [vS e.1,vI e.2.1,vS e.2.2.1,vS e.2.2.2.1,vS e.2.2.2.2.1,vS e.2.2.2.2.2.1,vS e.2.2.2.2.2.2.1,vS e.2.2.2.2.2.2.2.1,vS e.2.2.2.2.2.2.2.2.1,vS e.2.2.2.2.2.2.2.2.2.1,vS e.2.2.2.2.2.2.2.2.2.2.1])],1000000,[]⟩)):=by kernel_rfl
theorem bi96_4(L:Lp)(R:Rp)(N N2:St→Prop)(xs:List (Elem kb))(q:Int)(e:Elem kb):(evP E96 G96 L (lp96 10) (si96 xs q e 4) (rkn96 L R 4 N 10 N2))=(
    br (decide ((↑(ByteArray.size e.2.2.2.2.2.2.2.1):Int) > 24)) (R (some ⟨vB false,[],[]⟩)) (N2 ⟨(vJ :: .ptr 0 0 :: vJ :: vI q :: .ptr 1 0 :: vI 5 :: jn 72 []),[(0,.box [.rsl kb xs]),(1,.box [vS e.1,vI e.2.1,vS e.2.2.1,vS e.2.2.2.1,vS e.2.2.2.2.1,vS e.2.2.2.2.2.1,vS e.2.2.2.2.2.2.1,vS e.2.2.2.2.2.2.2.1,vS e.2.2.2.2.2.2.2.2.1,vS e.2.2.2.2.2.2.2.2.2.1,vS e.2.2.2.2.2.2.2.2.2.2.1])],1000000,[]⟩)):=by kernel_rfl
theorem bi96_5(L:Lp)(R:Rp)(N N2:St→Prop)(xs:List (Elem kb))(q:Int)(e:Elem kb):(evP E96 G96 L (lp96 10) (si96 xs q e 5) (rkn96 L R 4 N 10 N2))=(
    br (decide ((↑(ByteArray.size e.2.2.2.2.2.2.2.2.1):Int) > 24)) (R (some ⟨vB false,[],[]⟩)) (N2 ⟨(vJ :: .ptr 0 0 :: vJ :: vI q :: .ptr 1 0 :: vI 6 :: jn 72 []),[(0,.box [.rsl kb xs]),(1,.box [vS e.1,vI e.2.1,vS e.2.2.1,vS e.2.2.2.1,vS e.2.2.2.2.1,vS e.2.2.2.2.2.1,vS e.2.2.2.2.2.2.1,vS e.2.2.2.2.2.2.2.1,vS e.2.2.2.2.2.2.2.2.1,vS e.2.2.2.2.2.2.2.2.2.1,vS e.2.2.2.2.2.2.2.2.2.2.1])],1000000,[]⟩)):=by kernel_rfl
theorem bi96_6(L:Lp)(R:Rp)(N N2:St→Prop)(xs:List (Elem kb))(q:Int)(e:Elem kb):(evP E96 G96 L (lp96 10) (si96 xs q e 6) (rkn96 L R 4 N 10 N2))=(
    br (decide ((↑(ByteArray.size e.2.2.2.2.2.2.2.2.2.1):Int) > 24)) (R (some ⟨vB false,[],[]⟩)) (N2 ⟨(vJ :: .ptr 0 0 :: vJ :: vI q :: .ptr 1 0 :: vI 7 :: jn 72 []),[(0,.box [.rsl kb xs]),(1,.box [vS e.1,vI e.2.1,vS e.2.2.1,vS e.2.2.2.1,vS e.2.2.2.2.1,vS e.2.2.2.2.2.1,vS e.2.2.2.2.2.2.1,vS e.2.2.2.2.2.2.2.1,vS e.2.2.2.2.2.2.2.2.1,vS e.2.2.2.2.2.2.2.2.2.1,vS e.2.2.2.2.2.2.2.2.2.2.1])],1000000,[]⟩)):=by kernel_rfl
theorem bi96_7(L:Lp)(R:Rp)(N N2:St→Prop)(xs:List (Elem kb))(q:Int)(e:Elem kb):(evP E96 G96 L (lp96 10) (si96 xs q e 7) (rkn96 L R 4 N 10 N2))=(
    br (decide ((↑(ByteArray.size e.2.2.2.2.2.2.2.2.2.2.1):Int) > 24)) (R (some ⟨vB false,[],[]⟩)) (N2 ⟨(vJ :: .ptr 0 0 :: vJ :: vI q :: .ptr 1 0 :: vI 8 :: jn 72 []),[(0,.box [.rsl kb xs]),(1,.box [vS e.1,vI e.2.1,vS e.2.2.1,vS e.2.2.2.1,vS e.2.2.2.2.1,vS e.2.2.2.2.2.1,vS e.2.2.2.2.2.2.1,vS e.2.2.2.2.2.2.2.1,vS e.2.2.2.2.2.2.2.2.1,vS e.2.2.2.2.2.2.2.2.2.1,vS e.2.2.2.2.2.2.2.2.2.2.1])],1000000,[]⟩)):=by kernel_rfl
theorem bi96_8(L:Lp)(R:Rp)(N N2:St→Prop)(xs:List (Elem kb))(q:Int)(e:Elem kb):(evP E96 G96 L (lp96 10) (si96 xs q e 8) (rkn96 L R 4 N 10 N2))=(
    N (st96 xs (IntKind.i64.wrap (q+1)))):=by kernel_rfl
def sr96(xs:List (Elem kb))(j:Int):St :=  ⟨(vJ :: AV.ptr 0 0 :: jn 4 (.val (.int .i64 j) :: jn 71 [])),[(0,AO.box [AV.rsl kb xs])],1000000,[]⟩
theorem br96(L:Lp)(R:Rp)(N:St→Prop)(xs:List (Elem kb))(j:Int):(evP E96 G96 L (lp96 15) (sr96 xs j) (rk96 L R 15 N))=(
    br (decide (j < (↑xs.length:Int))) (br (decide (0≤j∧j < (↑xs.length:Int))) (br (decide (xs.length≤1048576)) (br (!rtB xs (xs.length+1) (xs.getD j.toNat (edflt kb))) (R (some ⟨vB false,[],[]⟩)) (N (sr96 xs (IntKind.i64.wrap (j+1))))) False) False) (R (some ⟨vB true,[],[]⟩))):=by kernel_rfl
theorem kindF{n:Int}(h:n < 1∨n > 2):(n==1 || n==2)=false:=by
  rw [show (n==1)=false from beq_eq_false_iff_ne.2 (by omega),show (n==2)=false from beq_eq_false_iff_ne.2 (by omega)]; rfl
theorem kindT{n:Int}(h1 : ¬ n < 1)(h2 : ¬ n > 2):(n==1 || n==2)=true:=by
  rw [Bool.or_eq_true,beq_iff_eq,beq_iff_eq]
  omega
theorem smB_len{xs:List (Elem kb)}(h:smB xs=true):xs.length≤1048576:=by
  unfold smB at h
  rw [Bool.and_eq_true] at h
  exact of_decide_eq_true h.1
theorem smB_at{xs:List (Elem kb)}(h:smB xs=true){i:Nat}(hi:i < xs.length):decide ((atB xs i).1.size≤1048576)=true:=by
  unfold smB at h
  rw [Bool.and_eq_true] at h
  exact all_at h.2 (edflt kb) hi
def ord(xs:List (Elem kb))(i:Nat):Bool:=i==0 || strLt (atB xs (i - 1)).1 (atB xs i).1
theorem set1_n{xs:List (Elem kb)}{i:Nat}(h:nameOk (atB xs i).1=false):set1 xs i=false:=by unfold set1; rw [h]; rfl
theorem set1_o{xs:List (Elem kb)}{i:Nat}(h:ord xs i=false):set1 xs i=false:=by unfold set1; unfold ord at h; rw [h]; simp
theorem set1_k{xs:List (Elem kb)}{i:Nat}(h:((atB xs i).2.1==1 || (atB xs i).2.1==2)=false):set1 xs i=false:=by unfold set1; rw [h]; simp
theorem set1_b{xs:List (Elem kb)}{i:Nat}(h:(allB 8 fun j=>decide (((at1 (bks (atB xs i)) j).size:Int)≤24))=false):set1 xs i=false:=by unfold set1; rw [h]; simp
theorem set1_t{xs:List (Elem kb)}{i:Nat}(h1:nameOk (atB xs i).1=true)(h2:ord xs i=true)(h3:((atB xs i).2.1==1 || (atB xs i).2.1==2)=true)(h4:(allB 8 fun j=>decide (((at1 (bks (atB xs i)) j).size:Int)≤24))=true):set1 xs i=true:=by
  unfold ord at h2
  unfold set1
  rw [h1,h2,h3,h4]
  rfl
theorem strLe_not(a b:ByteArray):(strLt a b || strEq a b) = !strLt b a:=by
  rcases strLt_tri a b with h | h | h
  · rw [h,strLt_asymm h]; rfl
  · subst h; rw [strLt_irrefl,strEq_self]; rfl
  · rw [h,strLt_asymm h,strEq_dec,decide_eq_false (fun e=>by subst e; rw [strLt_irrefl] at h; cases h)]; rfl
theorem ord_0(xs:List (Elem kb)){i:Nat}(h : ¬ (i:Int) > 0):ord xs i=true:=by
  have:i=0:=by omega
  subst this
  rfl
theorem ord_s(xs:List (Elem kb)){i:Nat}(h:(i:Int) > 0):ord xs i=strLt (atB xs (i - 1)).1 (atB xs i).1:=by
  unfold ord
  rw [show (i==0)=false from beq_eq_false_iff_ne.2 (by omega),Bool.false_or]
theorem ix_pred{i:Nat}(h:(i:Int) > 0)(h2:i < 9223372036854775807):IntKind.i64.wrap ((i:Int) - 1)=((i - 1:Nat):Int):=by
  rw [wrap_id (by omega) (by omega)]; omega
theorem bookOk_t{xs:List (Elem kb)}(h0 : ¬ (xs.length:Int) > 6)(h1:allB xs.length (set1 xs)=true):bookOk xs=allB xs.length fun i=>rtB xs (xs.length+1) (atB xs i):=by
  unfold bookOk
  rw [decide_eq_true (show (xs.length:Int)≤6 by omega),h1]
  rfl
theorem bookOk_f{xs:List (Elem kb)}(h1:allB xs.length (set1 xs)=false):bookOk xs=false:=by
  unfold bookOk
  rw [h1]
  simp
theorem bookOk_0{xs:List (Elem kb)}(h1:(xs.length:Int) > 6):bookOk xs=false:=by
  unfold bookOk
  rw [decide_eq_false (show ¬ (xs.length:Int)≤6 by omega)]
  rfl
theorem h96:G1Ok Tryz.prog 96 g96:=by
  intro args obs k h
  unfold g96 at h
  split at h
  · rename_i k xs
    obtain ⟨hs,h⟩:=br_and h
    have hlen:=smB_len hs
    refine ⟨_,ctr_fn okf hg96 Tryz.func96 (by kernel_rfl) (by kernel_rfl) (by kernel_rfl) fun C => ?_,h⟩
    rw [e96]
    refine br_dec (fun h0 => ?_) (fun h0 => ?_)
    · show _=_
      rw [bookOk_0 h0]
    refine loopAll okf96 hg96 (st96 xs) xs.length (set1 xs) (by omega) (fun N i hi hw next fails done => ?_)
    show evP E96 G96 _ (lp96 4) (st96 xs i) (rk96 _ _ 4 _)
    rw [b96,Int.toNat_natCast]
    refine br_dec (fun h2=>br_yes ⟨by omega,h2⟩ (br_t (smB_at hs (by omega)) (br_not (fun h3 => ?_) (fun h3=>(fun (tail:ord xs i=true→_)=>br_dec (fun h4 => ?_) (fun h4=>tail (ord_0 xs h4))) (fun ho => ?_))))) (fun h2 => ?_)
    · show _=_
      rw [bookOk_f (fails (by omega) (set1_n h3))]
    · rw [ix_pred h4 (by omega),Int.toNat_natCast,strLe_not]
      refine br_yes ⟨by omega,by omega⟩ (br_not (fun h5 => ?_) (fun h5=>tail ((ord_s xs h4).trans h5)))
      show _=_
      rw [bookOk_f (fails (by omega) (set1_o ((ord_s xs h4).trans h5)))]
    · refine br_dec (fun h5 => ?_) (fun h5=>br_dec (fun h6 => ?_) (fun h6 => ?_))
      · show _=_
        rw [bookOk_f (fails (by omega) (set1_k (kindF (.inl h5))))]
      · show _=_
        rw [bookOk_f (fails (by omega) (set1_k (kindF (.inr h6))))]
      · have hk:((atB xs i).2.1==1 || (atB xs i).2.1==2)=true:=kindT h5 h6
        refine loopAll okf96 hg96 (si96 xs i (atB xs i)) 8 (fun j=>decide (((at1 (bks (atB xs i)) j).size:Int)≤24)) (by omega) (fun N2 j hj hw2 next2 fails2 done2 => ?_)
        have cs:j=0∨j=1∨j=2∨j=3∨j=4∨j=5∨j=6∨j=7∨j=8:=by omega
        rcases cs with rfl | rfl | rfl | rfl | rfl | rfl | rfl | rfl | rfl
        · show evP E96 G96 _ (lp96 10) (si96 xs i (atB xs i) 0) (rkn96 _ _ 4 N 10 _)
          rw [bi96_0]
          refine br_dec (fun h7 => ?_) (fun h7=>next2 (by omega) (decide_eq_true (show ((at1 (bks (atB xs i)) 0).size:Int)≤24 from by
            have : ¬ ((at1 (bks (atB xs i)) 0).size:Int) > 24:=h7
            omega)))
          show _=_
          rw [bookOk_f (fails (by omega) (set1_b (fails2 (by omega) (decide_eq_false (show ¬ ((at1 (bks (atB xs i)) 0).size:Int)≤24 from by
            have:((at1 (bks (atB xs i)) 0).size:Int) > 24:=h7
            omega)))))]
        · show evP E96 G96 _ (lp96 10) (si96 xs i (atB xs i) 1) (rkn96 _ _ 4 N 10 _)
          rw [bi96_1]
          refine br_dec (fun h7 => ?_) (fun h7=>next2 (by omega) (decide_eq_true (show ((at1 (bks (atB xs i)) 1).size:Int)≤24 from by
            have : ¬ ((at1 (bks (atB xs i)) 1).size:Int) > 24:=h7
            omega)))
          show _=_
          rw [bookOk_f (fails (by omega) (set1_b (fails2 (by omega) (decide_eq_false (show ¬ ((at1 (bks (atB xs i)) 1).size:Int)≤24 from by
            have:((at1 (bks (atB xs i)) 1).size:Int) > 24:=h7
            omega)))))]
        · show evP E96 G96 _ (lp96 10) (si96 xs i (atB xs i) 2) (rkn96 _ _ 4 N 10 _)
          rw [bi96_2]
          refine br_dec (fun h7 => ?_) (fun h7=>next2 (by omega) (decide_eq_true (show ((at1 (bks (atB xs i)) 2).size:Int)≤24 from by
            have : ¬ ((at1 (bks (atB xs i)) 2).size:Int) > 24:=h7
            omega)))
          show _=_
          rw [bookOk_f (fails (by omega) (set1_b (fails2 (by omega) (decide_eq_false (show ¬ ((at1 (bks (atB xs i)) 2).size:Int)≤24 from by
            have:((at1 (bks (atB xs i)) 2).size:Int) > 24:=h7
            omega)))))]
        · show evP E96 G96 _ (lp96 10) (si96 xs i (atB xs i) 3) (rkn96 _ _ 4 N 10 _)
          rw [bi96_3]
          refine br_dec (fun h7 => ?_) (fun h7=>next2 (by omega) (decide_eq_true (show ((at1 (bks (atB xs i)) 3).size:Int)≤24 from by
            have : ¬ ((at1 (bks (atB xs i)) 3).size:Int) > 24:=h7
            omega)))
          show _=_
          rw [bookOk_f (fails (by omega) (set1_b (fails2 (by omega) (decide_eq_false (show ¬ ((at1 (bks (atB xs i)) 3).size:Int)≤24 from by
            have:((at1 (bks (atB xs i)) 3).size:Int) > 24:=h7
            omega)))))]
        · show evP E96 G96 _ (lp96 10) (si96 xs i (atB xs i) 4) (rkn96 _ _ 4 N 10 _)
          rw [bi96_4]
          refine br_dec (fun h7 => ?_) (fun h7=>next2 (by omega) (decide_eq_true (show ((at1 (bks (atB xs i)) 4).size:Int)≤24 from by
            have : ¬ ((at1 (bks (atB xs i)) 4).size:Int) > 24:=h7
            omega)))
          show _=_
          rw [bookOk_f (fails (by omega) (set1_b (fails2 (by omega) (decide_eq_false (show ¬ ((at1 (bks (atB xs i)) 4).size:Int)≤24 from by
            have:((at1 (bks (atB xs i)) 4).size:Int) > 24:=h7
            omega)))))]
        · show evP E96 G96 _ (lp96 10) (si96 xs i (atB xs i) 5) (rkn96 _ _ 4 N 10 _)
          rw [bi96_5]
          refine br_dec (fun h7 => ?_) (fun h7=>next2 (by omega) (decide_eq_true (show ((at1 (bks (atB xs i)) 5).size:Int)≤24 from by
            have : ¬ ((at1 (bks (atB xs i)) 5).size:Int) > 24:=h7
            omega)))
          show _=_
          rw [bookOk_f (fails (by omega) (set1_b (fails2 (by omega) (decide_eq_false (show ¬ ((at1 (bks (atB xs i)) 5).size:Int)≤24 from by
            have:((at1 (bks (atB xs i)) 5).size:Int) > 24:=h7
            omega)))))]
        · show evP E96 G96 _ (lp96 10) (si96 xs i (atB xs i) 6) (rkn96 _ _ 4 N 10 _)
          rw [bi96_6]
          refine br_dec (fun h7 => ?_) (fun h7=>next2 (by omega) (decide_eq_true (show ((at1 (bks (atB xs i)) 6).size:Int)≤24 from by
            have : ¬ ((at1 (bks (atB xs i)) 6).size:Int) > 24:=h7
            omega)))
          show _=_
          rw [bookOk_f (fails (by omega) (set1_b (fails2 (by omega) (decide_eq_false (show ¬ ((at1 (bks (atB xs i)) 6).size:Int)≤24 from by
            have:((at1 (bks (atB xs i)) 6).size:Int) > 24:=h7
            omega)))))]
        · show evP E96 G96 _ (lp96 10) (si96 xs i (atB xs i) 7) (rkn96 _ _ 4 N 10 _)
          rw [bi96_7]
          refine br_dec (fun h7 => ?_) (fun h7=>next2 (by omega) (decide_eq_true (show ((at1 (bks (atB xs i)) 7).size:Int)≤24 from by
            have : ¬ ((at1 (bks (atB xs i)) 7).size:Int) > 24:=h7
            omega)))
          show _=_
          rw [bookOk_f (fails (by omega) (set1_b (fails2 (by omega) (decide_eq_false (show ¬ ((at1 (bks (atB xs i)) 7).size:Int)≤24 from by
            have:((at1 (bks (atB xs i)) 7).size:Int) > 24:=h7
            omega)))))]
        · show evP E96 G96 _ (lp96 10) (si96 xs i (atB xs i) 8) (rkn96 _ _ 4 N 10 _)
          rw [bi96_8,hw]
          exact next (by omega) (set1_t h3 ho hk (done2 (by omega)))
    · have hall:=done (by omega)
      refine loopAll okf96 hg96 (sr96 xs) xs.length (fun i=>rtB xs (xs.length+1) (atB xs i)) (by omega) (fun N2 j hj hw2 next2 fails2 done2 => ?_)
      show evP E96 G96 _ (lp96 15) (sr96 xs j) (rk96 _ _ 15 _)
      rw [br96,hw2,Int.toNat_natCast]
      refine br_dec (fun h3=>br_yes ⟨by omega,h3⟩ (br_yes hlen (br_not (fun h4 => ?_) (fun h4=>next2 (by omega) h4)))) (fun h3 => ?_)
      · show _=_
        rw [bookOk_t h0 hall,fails2 (by omega) h4]
      · show _=_
        rw [bookOk_t h0 hall,done2 (by omega)]
  · exact h.elim
noncomputable def E99:Env:=Ef.of Tryz.f99
noncomputable def G99:Gk:=gk [(172,g167),(153,g153),(174,g174)]
noncomputable def lp99(n:Nat):Code:=(loopOf n (codeOf Tryz.f99)).getD .skip
noncomputable def ct99(L:Lp)(R:Rp)(n:Nat):Kt:=contOf E99 G99 L n (codeOf Tryz.f99) (endK E99 Tryz.f99.results.toList R)
noncomputable def rk99(L:Lp)(R:Rp)(n:Nat)(N:St→Prop):Kt:=rk (jof E99 (lp99 n)) N (ct99 L R n)
noncomputable def LOOP99(L:Lp)(R:Rp)(n:Nat)(st:St):Prop:=L (lp99 n) st (ct99 L R n)
theorem hg99:HG Tryz.prog G99:=(hg_cons h172 (hg_cons h153 (hg_cons h174 hg_nil)))
theorem okf99:Ok Tryz.prog E99:=okf.of Tryz.f99
theorem e99(L:Lp)(R:Rp)(xs:List (Elem kb)):(bodyP Ef G99 L Tryz.f99 [.agg [.rsl kb xs]] [] R)=(
    br (decide ((↑xs.length:Int) > 6)) (R (some ⟨vB false,[],[]⟩)) (LOOP99 L R 4 ⟨(vJ :: .ptr 0 0 :: jn 8 (.rsl kb xs :: vI (↑xs.length:Int) :: vI 0 :: jn 45 [])),[(0,.box [.rsl kb xs])],1000000,[]⟩)):=by kernel_rfl
def st99(xs:List (Elem kb))(i:Int):St :=  ⟨(vJ :: AV.ptr 0 0 :: jn 8 (AV.rsl kb xs :: vI (↑xs.length:Int) :: .val (.int .i64 i) :: jn 45 [])),[(0,AO.box [AV.rsl kb xs])],1000000,[]⟩
theorem b99(L:Lp)(R:Rp)(N:St→Prop)(xs:List (Elem kb))(i:Int):(evP E99 G99 L (lp99 4) (st99 xs i) (rk99 L R 4 N))=(
    br (decide (i < (↑xs.length:Int))) (br (decide (0≤i∧i < (↑xs.length:Int))) (br (decide (ByteArray.size (xs.getD i.toNat (edflt kb)).1≤1048576)) (br (!nameOk (xs.getD i.toNat (edflt kb)).1) (R (some ⟨vB false,[],[]⟩)) (br (decide (i > 0)) (br (decide (0≤IntKind.i64.wrap (i - 1)∧IntKind.i64.wrap (i - 1) < (↑xs.length:Int))) (br (!strLt (xs.getD (IntKind.i64.wrap (i - 1)).toNat (edflt kb)).1 (xs.getD i.toNat (edflt kb)).1) (R (some ⟨vB false,[],[]⟩)) (br ((xs.getD i.toNat (edflt kb)).2.1 != 1) (br ((xs.getD i.toNat (edflt kb)).2.1 != 2) (R (some ⟨vB false,[],[]⟩)) (br (anyB [((xs.getD i.toNat (edflt kb)).2.2.2.1,()),((xs.getD i.toNat (edflt kb)).2.2.2.2.1,()),((xs.getD i.toNat (edflt kb)).2.2.2.2.2.1,()),((xs.getD i.toNat (edflt kb)).2.2.2.2.2.2.1,()),((xs.getD i.toNat (edflt kb)).2.2.2.2.2.2.2.1,()),((xs.getD i.toNat (edflt kb)).2.2.2.2.2.2.2.2.1,()),((xs.getD i.toNat (edflt kb)).2.2.2.2.2.2.2.2.2.1,()),(xs.getD i.toNat (edflt kb)).2.2.2.2.2.2.2.2.2.2].length fun i_1=>decide ((↑(at1 [((xs.getD i.toNat (edflt kb)).2.2.2.1,()),((xs.getD i.toNat (edflt kb)).2.2.2.2.1,()),((xs.getD i.toNat (edflt kb)).2.2.2.2.2.1,()),((xs.getD i.toNat (edflt kb)).2.2.2.2.2.2.1,()),((xs.getD i.toNat (edflt kb)).2.2.2.2.2.2.2.1,()),((xs.getD i.toNat (edflt kb)).2.2.2.2.2.2.2.2.1,()),((xs.getD i.toNat (edflt kb)).2.2.2.2.2.2.2.2.2.1,()),(xs.getD i.toNat (edflt kb)).2.2.2.2.2.2.2.2.2.2] i_1).size:Int) > 24)) (R (some ⟨vB false,[],[]⟩)) (N ⟨(vJ :: .ptr 0 0 :: jn 8 (.rsl kb xs :: vI (↑xs.length:Int) :: vI (IntKind.i64.wrap (i+1)) :: jn 45 [])),[(0,.box [.rsl kb xs])],1000000,[]⟩))) (br (anyB [((xs.getD i.toNat (edflt kb)).2.2.2.1,()),((xs.getD i.toNat (edflt kb)).2.2.2.2.1,()),((xs.getD i.toNat (edflt kb)).2.2.2.2.2.1,()),((xs.getD i.toNat (edflt kb)).2.2.2.2.2.2.1,()),((xs.getD i.toNat (edflt kb)).2.2.2.2.2.2.2.1,()),((xs.getD i.toNat (edflt kb)).2.2.2.2.2.2.2.2.1,()),((xs.getD i.toNat (edflt kb)).2.2.2.2.2.2.2.2.2.1,()),(xs.getD i.toNat (edflt kb)).2.2.2.2.2.2.2.2.2.2].length fun i_1=>decide ((↑(at1 [((xs.getD i.toNat (edflt kb)).2.2.2.1,()),((xs.getD i.toNat (edflt kb)).2.2.2.2.1,()),((xs.getD i.toNat (edflt kb)).2.2.2.2.2.1,()),((xs.getD i.toNat (edflt kb)).2.2.2.2.2.2.1,()),((xs.getD i.toNat (edflt kb)).2.2.2.2.2.2.2.1,()),((xs.getD i.toNat (edflt kb)).2.2.2.2.2.2.2.2.1,()),((xs.getD i.toNat (edflt kb)).2.2.2.2.2.2.2.2.2.1,()),(xs.getD i.toNat (edflt kb)).2.2.2.2.2.2.2.2.2.2] i_1).size:Int) > 24)) (R (some ⟨vB false,[],[]⟩)) (N ⟨(vJ :: .ptr 0 0 :: jn 8 (.rsl kb xs :: vI (↑xs.length:Int) :: vI (IntKind.i64.wrap (i+1)) :: jn 45 [])),[(0,.box [.rsl kb xs])],1000000,[]⟩)))) False) (br ((xs.getD i.toNat (edflt kb)).2.1 != 1) (br ((xs.getD i.toNat (edflt kb)).2.1 != 2) (R (some ⟨vB false,[],[]⟩)) (br (anyB [((xs.getD i.toNat (edflt kb)).2.2.2.1,()),((xs.getD i.toNat (edflt kb)).2.2.2.2.1,()),((xs.getD i.toNat (edflt kb)).2.2.2.2.2.1,()),((xs.getD i.toNat (edflt kb)).2.2.2.2.2.2.1,()),((xs.getD i.toNat (edflt kb)).2.2.2.2.2.2.2.1,()),((xs.getD i.toNat (edflt kb)).2.2.2.2.2.2.2.2.1,()),((xs.getD i.toNat (edflt kb)).2.2.2.2.2.2.2.2.2.1,()),(xs.getD i.toNat (edflt kb)).2.2.2.2.2.2.2.2.2.2].length fun i_1=>decide ((↑(at1 [((xs.getD i.toNat (edflt kb)).2.2.2.1,()),((xs.getD i.toNat (edflt kb)).2.2.2.2.1,()),((xs.getD i.toNat (edflt kb)).2.2.2.2.2.1,()),((xs.getD i.toNat (edflt kb)).2.2.2.2.2.2.1,()),((xs.getD i.toNat (edflt kb)).2.2.2.2.2.2.2.1,()),((xs.getD i.toNat (edflt kb)).2.2.2.2.2.2.2.2.1,()),((xs.getD i.toNat (edflt kb)).2.2.2.2.2.2.2.2.2.1,()),(xs.getD i.toNat (edflt kb)).2.2.2.2.2.2.2.2.2.2] i_1).size:Int) > 24)) (R (some ⟨vB false,[],[]⟩)) (N ⟨(vJ :: .ptr 0 0 :: jn 8 (.rsl kb xs :: vI (↑xs.length:Int) :: vI (IntKind.i64.wrap (i+1)) :: jn 45 [])),[(0,.box [.rsl kb xs])],1000000,[]⟩))) (br (anyB [((xs.getD i.toNat (edflt kb)).2.2.2.1,()),((xs.getD i.toNat (edflt kb)).2.2.2.2.1,()),((xs.getD i.toNat (edflt kb)).2.2.2.2.2.1,()),((xs.getD i.toNat (edflt kb)).2.2.2.2.2.2.1,()),((xs.getD i.toNat (edflt kb)).2.2.2.2.2.2.2.1,()),((xs.getD i.toNat (edflt kb)).2.2.2.2.2.2.2.2.1,()),((xs.getD i.toNat (edflt kb)).2.2.2.2.2.2.2.2.2.1,()),(xs.getD i.toNat (edflt kb)).2.2.2.2.2.2.2.2.2.2].length fun i_1=>decide ((↑(at1 [((xs.getD i.toNat (edflt kb)).2.2.2.1,()),((xs.getD i.toNat (edflt kb)).2.2.2.2.1,()),((xs.getD i.toNat (edflt kb)).2.2.2.2.2.1,()),((xs.getD i.toNat (edflt kb)).2.2.2.2.2.2.1,()),((xs.getD i.toNat (edflt kb)).2.2.2.2.2.2.2.1,()),((xs.getD i.toNat (edflt kb)).2.2.2.2.2.2.2.2.1,()),((xs.getD i.toNat (edflt kb)).2.2.2.2.2.2.2.2.2.1,()),(xs.getD i.toNat (edflt kb)).2.2.2.2.2.2.2.2.2.2] i_1).size:Int) > 24)) (R (some ⟨vB false,[],[]⟩)) (N ⟨(vJ :: .ptr 0 0 :: jn 8 (.rsl kb xs :: vI (↑xs.length:Int) :: vI (IntKind.i64.wrap (i+1)) :: jn 45 [])),[(0,.box [.rsl kb xs])],1000000,[]⟩))))) False) False) (br (decide (xs.length≤1048576)&&decide (xs.length≤1048576)) (R (some ⟨vB !anyB xs.length fun i => !ldB xs xs.length (atB xs i),[],[]⟩)) False)):=by kernel_rfl
theorem srt{xs:List (Elem kb)}(h:allB xs.length (set1 xs)=true) : ∀ (j i:Nat),i < j→j < xs.length→strLt (atB xs i).1 (atB xs j).1=true
  | 0,i,hi,_=>absurd hi (by omega)
  | j+1,i,hi,hj=>by
    have h1:=allB_at h hj
    unfold set1 at h1
    simp only [Bool.and_eq_true,Bool.or_eq_true,beq_iff_eq,Nat.add_sub_cancel] at h1
    have h2:strLt (atB xs j).1 (atB xs (j+1)).1=true:=by
      rcases h1.1.1.2 with e | e
      · omega
      · exact e
    by_cases e:i=j
    · rw [e]; exact h2
    · exact strLt_trans (srt h j i (by omega) (by omega)) h2
theorem fdB_ln{xs:List (Elem kb)}(h:allB xs.length (set1 xs)=true)(t:ByteArray):fdB xs t=match okB xs t with | true=>some (lnB xs t) | false=>none:=by
  unfold fdB okB lnB
  refine fd_ln (fun i hi hp => ?_) (fun i j hij hj he => ?_)
  · rw [strEq_dec]
    refine decide_eq_false fun e => ?_
    rw [e,strLt_irrefl] at hp
    cases hp
  · have:=srt h j i hij hj
    rw [strEq_iff.1 he] at this
    exact this
def stB(xs:List (Elem kb))(a:Nat):Bool ⊕ Nat:=match strEq (atB xs a).2.2.1 ⟨#[]⟩ with
  | true => .inl ((atB xs a).2.1==1)
  | false=>match fdB xs (atB xs a).2.2.1 with
    | none => .inl false
    | some k=>match (atB xs k).2.1==(atB xs a).2.1 with
      | true => .inl false
      | false => .inr k
theorem ld_chain(xs:List (Elem kb)) : ∀ (m a:Nat),ldB xs m (atB xs a)=chain (stB xs) m a
  | 0,_=>rfl
  | m+1,a=>by
    unfold chain stB
    cases h1:strEq (atB xs a).2.2.1 ⟨#[]⟩ with
    | true=>rw [ldB_root h1]
    | false =>
      cases h2:fdB xs (atB xs a).2.2.1 with
      | none=>rw [ldB_none h1 h2]
      | some k =>
        rw [ldB_some h1 h2]
        cases h3:(atB xs k).2.1==(atB xs a).2.1 with
        | true=>simp only [h3]
        | false=>simp only [h3]; exact ld_chain xs m k
theorem rt_chain{xs:List (Elem kb)}(h:allB xs.length (set1 xs)=true) : ∀ (m a:Nat),rtB xs m (atB xs a)=chain (stB xs) m a
  | 0,_=>rfl
  | m+1,a=>by
    unfold chain stB
    cases h1:strEq (atB xs a).2.2.1 ⟨#[]⟩ with
    | true=>rw [rtB_root h1]
    | false =>
      rw [fdB_ln h]
      cases h2:okB xs (atB xs a).2.2.1 with
      | false=>rw [rtB_none h1 h2]
      | true =>
        rw [rtB_some h1 h2]
        cases h3:(atB xs (lnB xs (atB xs a).2.2.1)).2.1==(atB xs a).2.1 with
        | true=>simp only [h3]
        | false=>simp only [h3]; exact rt_chain h m _
theorem ld_rt{xs:List (Elem kb)}(h:allB xs.length (set1 xs)=true){i:Nat}(hi:i < xs.length):ldB xs xs.length (atB xs i)=rtB xs (xs.length+1) (atB xs i):=by
  rw [ld_chain,rt_chain h]
  refine chain_enough (stB xs) xs.length (fun a k ha hk => ?_) i hi
  unfold stB at hk
  split at hk
  · cases hk
  · split at hk
    · cases hk
    · rename_i q hq
      split at hk
      · cases hk
      · cases hk
        exact fdB_lt hq
theorem leads_all{xs:List (Elem kb)}(h:allB xs.length (set1 xs)=true):(!anyB xs.length fun i => !ldB xs xs.length (atB xs i))=allB xs.length fun i=>rtB xs (xs.length+1) (atB xs i):=by
  rw [anyB_all,Bool.not_not]
  exact allB_congr fun i hi=>by rw [Bool.not_not,ld_rt h hi]
theorem any8(e:Elem kb):(anyB (bks e).length fun j=>decide (((at1 (bks e) j).size:Int) > 24)) = !allB 8 fun j=>decide (((at1 (bks e) j).size:Int)≤24):=by
  rw [anyB_all]
  congr 1
  refine allB_congr fun j hj => ?_
  rw [Bool.eq_iff_iff]
  simp
theorem h99:G1Ok Tryz.prog 99 g96:=by
  intro args obs k h
  unfold g96 at h
  split at h
  · rename_i k xs
    obtain ⟨hs,h⟩:=br_and h
    have hlen:=smB_len hs
    refine ⟨_,ctr_fn okf hg99 Tryz.func99 (by kernel_rfl) (by kernel_rfl) (by kernel_rfl) fun C => ?_,h⟩
    rw [e99]
    refine br_dec (fun h0 => ?_) (fun h0 => ?_)
    · show _=_
      rw [bookOk_0 h0]
    refine loopAll okf99 hg99 (st99 xs) xs.length (set1 xs) (by omega) (fun N i hi hw next fails done => ?_)
    show evP E99 G99 _ (lp99 4) (st99 xs i) (rk99 _ _ 4 _)
    rw [b99,hw,Int.toNat_natCast]
    refine br_dec (fun h2=>br_yes ⟨by omega,h2⟩ (br_t (smB_at hs (by omega)) (br_not (fun h3 => ?_) (fun h3=>(fun (tail:ord xs i=true→_)=>br_dec (fun h4 => ?_) (fun h4=>tail (ord_0 xs h4))) (fun ho => ?_))))) (fun h2 => ?_)
    · show _=_
      rw [bookOk_f (fails (by omega) (set1_n h3))]
    · rw [ix_pred h4 (by omega),Int.toNat_natCast]
      refine br_yes ⟨by omega,by omega⟩ (br_not (fun h5 => ?_) (fun h5=>tail ((ord_s xs h4).trans h5)))
      show _=_
      rw [bookOk_f (fails (by omega) (set1_o ((ord_s xs h4).trans h5)))]
    · refine (fun (tail:((atB xs i).2.1==1 || (atB xs i).2.1==2)=true→_)=>br_bne (fun h5=>br_bne (fun h6 => ?_) (fun h6=>tail ?_)) (fun h5=>tail ?_)) (fun hk => ?_)
      · show _=_
        rw [bookOk_f (fails (by omega) (set1_k (by rw [h5,h6]; rfl)))]
      · rw [h6,Bool.or_true]
      · rw [h5,Bool.true_or]
      · show br (anyB (bks (atB xs i)).length fun j=>decide (((at1 (bks (atB xs i)) j).size:Int) > 24)) _ _
        rw [any8]
        refine br_not (fun h7 => ?_) (fun h7=>next (by omega) (set1_t h3 ho hk h7))
        show _=_
        rw [bookOk_f (fails (by omega) (set1_b h7))]
    · have hall:=done (by omega)
      refine br_t (by rw [decide_eq_true hlen]; rfl) ?_
      show _=_
      rw [bookOk_t h0 hall,← leads_all hall]
  · exact h.elim
end Go.Proofs.YtkjnijddbiconaaGreatDoor.Ev
