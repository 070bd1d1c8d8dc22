/- The law of BlkRead. -/
import Derived.Test.YtkjnijddbiconaaGreatDoorWJ
import Derived.Test.YtkjnijddbiconaaGreatDoorWB
namespace Go.Proofs.YtkjnijddbiconaaGreatDoor.Ev
open Go
set_option linter.unusedVariables false
set_option linter.unusedSimpArgs false
set_option maxRecDepth 100000
noncomputable def E81:Env:=E0.of Tryz.f81
noncomputable def G81:Gk:=gk [(109,g195),(149,g149),(150,g150)]
noncomputable def lp81(n:Nat):Code:=(loopOf n (codeOf Tryz.f81)).getD .skip
noncomputable def ct81(L:Lp)(R:Rp)(n:Nat):Kt:=contOf E81 G81 L n (codeOf Tryz.f81) (endK E81 Tryz.f81.results.toList R)
noncomputable def rk81(L:Lp)(R:Rp)(n:Nat)(N:St→Prop):Kt:=rk (jof E81 (lp81 n)) N (ct81 L R n)
noncomputable def LOOP81(L:Lp)(R:Rp)(n:Nat)(st:St):Prop:=L (lp81 n) st (ct81 L R n)
theorem hg81:HG Tryz.prog G81:=(hg_cons h109 (hg_cons h149 (hg_cons h150 hg_nil)))
theorem okf81:Ok Tryz.prog E81:=ok0.of Tryz.f81
theorem e81(L:Lp)(R:Rp)(a b:List (Elem ks))(c:List (Elem kl))(x y z:Int):(bodyP E0 G81 L Tryz.f81 [.agg [.rsl ks a,.rsl ks b,.rsl kl c],.agg [.val (.int .i64 x),.val (.int .i64 y),.val (.int .i64 z)]] [] R)=(
    br (ptrOk x y z) (br (x==0) (R (some ⟨.tup [vS { data := #[] },vI 1],[],[]⟩)) (LOOP81 L R 4 ⟨[.agg [.rsl ks a,.rsl ks b,.rsl kl c],.agg [vI x,vI y,vI z],.ptr 0 0,.ptr 1 0,vS { data := #[] },vI 0,vI 0,vJ,vJ,vJ,vJ,vJ,vJ,vJ,vJ,vJ,vJ,vJ,vJ,vJ,vJ,vJ,vJ,vJ,vJ,vJ,vJ],[(0,.box [.rsl ks a,.rsl ks b,.rsl kl c]),(1,.box [vI x,vI y,vI z])],1000000,[]⟩)) (LOOP81 L R 4 ⟨[.agg [.rsl ks a,.rsl ks b,.rsl kl c],.agg [vI x,vI y,vI z],.ptr 0 0,.ptr 1 0,vS { data := #[] },vI 0,vI 0,vJ,vJ,vJ,vJ,vJ,vJ,vJ,vJ,vJ,vJ,vJ,vJ,vJ,vJ,vJ,vJ,vJ,vJ,vJ,vJ],[(0,.box [.rsl ks a,.rsl ks b,.rsl kl c]),(1,.box [vI x,vI y,vI z])],1000000,[]⟩)):=by kernel_rfl
def st81a(a b:List (Elem ks))(c:List (Elem kl))(x y z:Int)(i:Int):St :=  ⟨[AV.agg [AV.rsl ks a,AV.rsl ks b,AV.rsl kl c],AV.agg [vI x,vI y,vI z],AV.ptr 0 0,AV.ptr 1 0,vS { data := #[] },vI 0,.val (.int .i64 i),vJ,vJ,vJ,vJ,vJ,vJ,vJ,vJ,vJ,vJ,vJ,vJ,vJ,vJ,vJ,vJ,vJ,vJ,vJ,vJ],[(0,AO.box [AV.rsl ks a,AV.rsl ks b,AV.rsl kl c]),(1,AO.box [vI x,vI y,vI z])],1000000,[]⟩
theorem b81a_0(L:Lp)(R:Rp)(N:St→Prop)(a b:List (Elem ks))(c:List (Elem kl))(x y z:Int):(evP E81 G81 L (lp81 4) (st81a a b c x y z 0) (rk81 L R 4 N))=(
    br (smD a b c) (br (sideD a b c x y z 0) (br (secOk a.length 0 x&&(decide (b.length=a.length)&&decide (c.length≤1048576))) (R (some ⟨.tup [vS (rdD a b c 0 x),vI 0],[],[]⟩)) False) (N (st81a a b c x y z 1))) False):=by kernel_rfl
theorem b81a_1(L:Lp)(R:Rp)(N:St→Prop)(a b:List (Elem ks))(c:List (Elem kl))(x y z:Int):(evP E81 G81 L (lp81 4) (st81a a b c x y z 1) (rk81 L R 4 N))=(
    br (smD a b c) (br (sideD a b c x y z 1) (br (secOk a.length 1 x&&(decide (b.length=a.length)&&decide (c.length≤1048576))) (R (some ⟨.tup [vS (rdD a b c 1 x),vI 0],[],[]⟩)) False) (N (st81a a b c x y z 2))) False):=by kernel_rfl
theorem b81a_2(L:Lp)(R:Rp)(N:St→Prop)(a b:List (Elem ks))(c:List (Elem kl))(x y z:Int):(evP E81 G81 L (lp81 4) (st81a a b c x y z 2) (rk81 L R 4 N))=(
    R (some ⟨.tup [vS { data := #[] },vI 2],[],[]⟩)):=by kernel_rfl
def st81b(a b:List (Elem ks))(c:List (Elem kl))(x y z:Int)(i:Int):St :=  ⟨[AV.agg [AV.rsl ks a,AV.rsl ks b,AV.rsl kl c],AV.agg [vI x,vI y,vI z],AV.ptr 0 0,AV.ptr 1 0,vS { data := #[] },vI 0,.val (.int .i64 i),vJ,vJ,vJ,vJ,vJ,vJ,vJ,vJ,vJ,vJ,vJ,vJ,vJ,vJ,vJ,vJ,vJ,vJ,vJ,vJ],[(0,AO.box [AV.rsl ks a,AV.rsl ks b,AV.rsl kl c]),(1,AO.box [vI x,vI y,vI z])],1000000,[]⟩
theorem b81b_0(L:Lp)(R:Rp)(N:St→Prop)(a b:List (Elem ks))(c:List (Elem kl))(x y z:Int):(evP E81 G81 L (lp81 4) (st81b a b c x y z 0) (rk81 L R 4 N))=(
    br (smD a b c) (br (sideD a b c x y z 0) (br (secOk a.length 0 x&&(decide (b.length=a.length)&&decide (c.length≤1048576))) (R (some ⟨.tup [vS (rdD a b c 0 x),vI 0],[],[]⟩)) False) (N (st81a a b c x y z 1))) False):=by kernel_rfl
theorem b81b_1(L:Lp)(R:Rp)(N:St→Prop)(a b:List (Elem ks))(c:List (Elem kl))(x y z:Int):(evP E81 G81 L (lp81 4) (st81b a b c x y z 1) (rk81 L R 4 N))=(
    br (smD a b c) (br (sideD a b c x y z 1) (br (secOk a.length 1 x&&(decide (b.length=a.length)&&decide (c.length≤1048576))) (R (some ⟨.tup [vS (rdD a b c 1 x),vI 0],[],[]⟩)) False) (N (st81a a b c x y z 2))) False):=by kernel_rfl
theorem b81b_2(L:Lp)(R:Rp)(N:St→Prop)(a b:List (Elem ks))(c:List (Elem kl))(x y z:Int):(evP E81 G81 L (lp81 4) (st81b a b c x y z 2) (rk81 L R 4 N))=(
    R (some ⟨.tup [vS { data := #[] },vI 2],[],[]⟩)):=by kernel_rfl
def rdBlk(a b:List (Elem ks))(c:List (Elem kl))(x y z:Int):ByteArray × Int:=match ptrOk x y z&&x==0 with
  | true=>(ByteArray.empty,1)
  | false=>match sideD a b c x y z 0 with
    | true=>(rdD a b c 0 x,0)
    | false=>match sideD a b c x y z 1 with
      | true=>(rdD a b c 1 x,0)
      | false=>(ByteArray.empty,2)
def g81:G1
  | [.agg [.rsl [.str] a,.rsl [.str] b,.rsl [.int .i64,.int .i64,.str] c],.agg [.val (.int .i64 x),.val (.int .i64 y),.val (.int .i64 z)]],[],k =>
    br (smD a b c) (k ⟨.tup [.val (.string (rdBlk a b c x y z).1),.val (.int .i64 (rdBlk a b c x y z).2)],[],[]⟩) False
  | _,_,_=>False
theorem side_pre{a b:List (Elem ks)}{c:List (Elem kl)}{x y z s:Int}(h:sideD a b c x y z s=true):dkOk a b c=true∧(secOk a.length s x&&(decide (b.length=a.length)&&decide (c.length≤1048576)))=true:=by
  unfold sideD hasD at h
  simp only [Bool.and_eq_true] at h
  obtain ⟨⟨h1,h2⟩,h3,h4⟩:=h
  obtain ⟨q1,q2,q3⟩:=dkOk_b h1
  refine ⟨h1,?_⟩
  rw [h3,q1]
  simp
  omega
theorem h81:G1Ok Tryz.prog 81 g81:=by
  intro args obs k h
  unfold g81 at h
  split at h
  · rename_i k a b c x y z
    obtain ⟨hp,h⟩:=br_and h
    refine ⟨_,ctr_fn ok0 hg81 Tryz.func81 (by kernel_rfl) (by kernel_rfl) (by kernel_rfl) fun C => ?_,h⟩
    rw [e81]
    refine br_intro (fun h1=>br_intro (fun h2 => ?_) (fun h2 => ?_)) (fun h1 => ?_)
    · show _=_
      unfold rdBlk
      rw [h1,h2]
      rfl
    · have e0:(ptrOk x y z&&x==0)=false:=by rw [h1,h2]; rfl
      refine loopUp okf81 hg81 (α:=Unit) (fun i _=>st81a a b c x y z i) 2 (fun i _=>(0 < i→sideD a b c x y z 0=false)∧(1 < i→sideD a b c x y z 1=false)) (fun N i _ hi ⟨h3,h4⟩ next => ?_) () ⟨by omega,by omega⟩
      have cs:i=0∨i=1∨i=2:=by omega
      rcases cs with rfl | rfl | rfl
      · show evP E81 G81 _ (lp81 4) (st81a a b c x y z 0) (rk81 _ _ 4 _)
        rw [b81a_0]
        refine br_t hp (br_intro (fun h5=>br_t (side_pre h5).2 ?_) (fun h5=>next (by omega) () ⟨fun _=>h5,by omega⟩))
        show _=_
        unfold rdBlk
        rw [e0,h5]
      · show evP E81 G81 _ (lp81 4) (st81a a b c x y z 1) (rk81 _ _ 4 _)
        rw [b81a_1]
        refine br_t hp (br_intro (fun h5=>br_t (side_pre h5).2 ?_) (fun h5=>next (by omega) () ⟨fun _=>h3 (by omega),fun _=>h5⟩))
        show _=_
        unfold rdBlk
        rw [e0,h3 (by omega),h5]
      · show evP E81 G81 _ (lp81 4) (st81a a b c x y z 2) (rk81 _ _ 4 _)
        rw [b81a_2]
        show _=_
        unfold rdBlk
        rw [e0,h3 (by omega),h4 (by omega)]
        rfl
    · have e0:(ptrOk x y z&&x==0)=false:=by rw [h1]; rfl
      refine loopUp okf81 hg81 (α:=Unit) (fun i _=>st81b a b c x y z i) 2 (fun i _=>(0 < i→sideD a b c x y z 0=false)∧(1 < i→sideD a b c x y z 1=false)) (fun N i _ hi ⟨h3,h4⟩ next => ?_) () ⟨by omega,by omega⟩
      have cs:i=0∨i=1∨i=2:=by omega
      rcases cs with rfl | rfl | rfl
      · show evP E81 G81 _ (lp81 4) (st81b a b c x y z 0) (rk81 _ _ 4 _)
        rw [b81b_0]
        refine br_t hp (br_intro (fun h5=>br_t (side_pre h5).2 ?_) (fun h5=>next (by omega) () ⟨fun _=>h5,by omega⟩))
        show _=_
        unfold rdBlk
        rw [e0,h5]
      · show evP E81 G81 _ (lp81 4) (st81b a b c x y z 1) (rk81 _ _ 4 _)
        rw [b81b_1]
        refine br_t hp (br_intro (fun h5=>br_t (side_pre h5).2 ?_) (fun h5=>next (by omega) () ⟨fun _=>h3 (by omega),fun _=>h5⟩))
        show _=_
        unfold rdBlk
        rw [e0,h3 (by omega),h5]
      · show evP E81 G81 _ (lp81 4) (st81b a b c x y z 2) (rk81 _ _ 4 _)
        rw [b81b_2]
        show _=_
        unfold rdBlk
        rw [e0,h3 (by omega),h4 (by omega)]
        rfl
  · exact h.elim
noncomputable def E48:Env:=E0.of Tryz.f48
noncomputable def G48:Gk:=gk [(84,g84),(121,g121),(122,g122),(123,g150)]
noncomputable def lp48(n:Nat):Code:=(loopOf n (codeOf Tryz.f48)).getD .skip
noncomputable def ct48(L:Lp)(R:Rp)(n:Nat):Kt:=contOf E48 G48 L n (codeOf Tryz.f48) (endK E48 Tryz.f48.results.toList R)
noncomputable def rk48(L:Lp)(R:Rp)(n:Nat)(N:St→Prop):Kt:=rk (jof E48 (lp48 n)) N (ct48 L R n)
noncomputable def LOOP48(L:Lp)(R:Rp)(n:Nat)(st:St):Prop:=L (lp48 n) st (ct48 L R n)
theorem hg48:HG Tryz.prog G48:=(hg_cons h84 (hg_cons h121 (hg_cons h122 (hg_cons h123 hg_nil))))
theorem okf48:Ok Tryz.prog E48:=ok0.of Tryz.f48
theorem e48(L:Lp)(R:Rp)(a b:List (Elem ks))(c:List (Elem kl))(x y z:Int):(bodyP E0 G48 L Tryz.f48 [.agg [.rsl ks a,.rsl ks b,.rsl kl c],.agg [.val (.int .i64 x),.val (.int .i64 y),.val (.int .i64 z)]] [] R)=(
    br (elemEq k3 (x,y,z,()) (0,0,0,())) (R (some ⟨.tup [vS { data := #[] },vI 1],[],[]⟩)) (br (smD a b c) (br (dkOk a b c) (br (realP x y z) (LOOP48 L R 5 ⟨[.agg [.rsl ks a,.rsl ks b,.rsl kl c],.agg [vI x,vI y,vI z],.ptr 0 0,.ptr 1 0,vS { data := #[] },vI 0,vJ,vJ,vJ,vJ,vJ,vJ,vJ,vJ,vJ,vJ,vI 0,vJ,vJ,vJ,vJ,vJ,vJ,vJ,vJ,vJ,vJ,vJ,vJ],[(0,.box [.rsl ks a,.rsl ks b,.rsl kl c]),(1,.box [vI x,vI y,vI z])],1000000,[]⟩) (R (some ⟨.tup [vS { data := #[] },vI 2],[],[]⟩))) (R (some ⟨.tup [vS { data := #[] },vI 2],[],[]⟩))) False)):=by kernel_rfl
def st48(a b:List (Elem ks))(c:List (Elem kl))(x y z:Int)(i:Int):St :=  ⟨[AV.agg [AV.rsl ks a,AV.rsl ks b,AV.rsl kl c],AV.agg [vI x,vI y,vI z],AV.ptr 0 0,AV.ptr 1 0,vS { data := #[] },vI 0,vJ,vJ,vJ,vJ,vJ,vJ,vJ,vJ,vJ,vJ,.val (.int .i64 i),vJ,vJ,vJ,vJ,vJ,vJ,vJ,vJ,vJ,vJ,vJ,vJ],[(0,AO.box [AV.rsl ks a,AV.rsl ks b,AV.rsl kl c]),(1,AO.box [vI x,vI y,vI z])],1000000,[]⟩
theorem b48_0(L:Lp)(R:Rp)(N:St→Prop)(a b:List (Elem ks))(c:List (Elem kl))(x y z:Int):(evP E48 G48 L (lp48 5) (st48 a b c x y z 0) (rk48 L R 5 N))=(
    br (dkOk a b c) (br (hasD a b c x y 0) (br (secOk a.length 0 x&&(decide (b.length=a.length)&&decide (c.length≤1048576))) (R (some ⟨.tup [vS (rdD a b c 0 x),vI 0],[],[]⟩)) False) (N (st48 a b c x y z 1))) False):=by kernel_rfl
theorem b48_1(L:Lp)(R:Rp)(N:St→Prop)(a b:List (Elem ks))(c:List (Elem kl))(x y z:Int):(evP E48 G48 L (lp48 5) (st48 a b c x y z 1) (rk48 L R 5 N))=(
    br (dkOk a b c) (br (hasD a b c x y 1) (br (secOk a.length 1 x&&(decide (b.length=a.length)&&decide (c.length≤1048576))) (R (some ⟨.tup [vS (rdD a b c 1 x),vI 0],[],[]⟩)) False) (N (st48 a b c x y z 2))) False):=by kernel_rfl
theorem b48_2(L:Lp)(R:Rp)(N:St→Prop)(a b:List (Elem ks))(c:List (Elem kl))(x y z:Int):(evP E48 G48 L (lp48 5) (st48 a b c x y z 2) (rk48 L R 5 N))=(
    R (some ⟨.tup [vS { data := #[] },vI 2],[],[]⟩)):=by kernel_rfl
theorem ptr0{x y z:Int}:elemEq [CK.int .i64,CK.int .i64,CK.int .i64] (x,y,z,()) (0,0,0,())=(ptrOk x y z&&x==0):=by
  show (x==0&&(y==0&&z==0))=(ptrOk x y z&&x==0)
  unfold ptrOk
  cases hx:x==0 with
  | false=>simp
  | true =>
    have:x=0:=by simpa using hx
    subst this
    simp
theorem h48:G1Ok Tryz.prog 48 g81:=by
  intro args obs k h
  unfold g81 at h
  split at h
  · rename_i k a b c x y z
    obtain ⟨hp,h⟩:=br_and h
    refine ⟨_,ctr_fn ok0 hg48 Tryz.func48 (by kernel_rfl) (by kernel_rfl) (by kernel_rfl) fun C => ?_,h⟩
    rw [e48]
    refine br_intro (fun h1 => ?_) (fun h1=>br_t hp (br_intro (fun h2=>br_intro (fun h3 => ?_) (fun h3 => ?_)) (fun h2 => ?_)))
    · have h1':=h1
      rw [ptr0] at h1'
      show _=_
      unfold rdBlk
      rw [h1']
      rfl
    · have e0:=h1
      rw [ptr0] at e0
      have es : ∀ s,sideD a b c x y z s=hasD a b c x y s:=by
        intro s
        unfold sideD
        rw [h2,h3]
        rfl
      refine loopUp okf48 hg48 (α:=Unit) (fun i _=>st48 a b c x y z i) 2 (fun i _=>(0 < i→sideD a b c x y z 0=false)∧(1 < i→sideD a b c x y z 1=false)) (fun N i _ hi ⟨h3,h4⟩ next => ?_) () ⟨by omega,by omega⟩
      have cs:i=0∨i=1∨i=2:=by omega
      rcases cs with rfl | rfl | rfl
      · show evP E48 G48 _ (lp48 5) (st48 a b c x y z 0) (rk48 _ _ 5 _)
        rw [b48_0]
        refine br_t h2 (br_intro (fun h5 => ?_) (fun h5 => ?_))<;>rw [← es] at h5
        · refine br_t (side_pre h5).2 ?_
          show _=_
          unfold rdBlk
          rw [e0,h5]
        · exact next (by omega) () ⟨fun _=>h5,by omega⟩
      · show evP E48 G48 _ (lp48 5) (st48 a b c x y z 1) (rk48 _ _ 5 _)
        rw [b48_1]
        refine br_t h2 (br_intro (fun h5 => ?_) (fun h5 => ?_))<;>rw [← es] at h5
        · refine br_t (side_pre h5).2 ?_
          show _=_
          unfold rdBlk
          rw [e0,h3 (by omega),h5]
        · exact next (by omega) () ⟨fun _=>h3 (by omega),fun _=>h5⟩
      · show evP E48 G48 _ (lp48 5) (st48 a b c x y z 2) (rk48 _ _ 5 _)
        rw [b48_2]
        show _=_
        unfold rdBlk
        rw [e0,h3 (by omega),h4 (by omega)]
        rfl
    · rw [ptr0] at h1
      show _=_
      unfold rdBlk sideD
      rw [h1,h3,Bool.and_false]
      rfl
    · rw [ptr0] at h1
      show _=_
      unfold rdBlk sideD
      rw [h1,h2]
      rfl
  · exact h.elim
def fndP(a b:List (Elem ks))(c:List (Elem kl))(xs:List (Elem k3))(t:ByteArray)(i:Nat):Bool :=
  (at3 xs i).1==sumN t&&((rdBlk a b c (at3 xs i).2.1 (sumN t) 0).2==0&&strEq (rdBlk a b c (at3 xs i).2.1 (sumN t) 0).1 t)
def fndR(a b:List (Elem ks))(c:List (Elem kl))(xs:List (Elem k3))(t:ByteArray):Int:=match ddtOk xs with
  | false=>0
  | true=>match fd xs.length (fndP a b c xs t) with
    | some i=>(at3 xs i).2.1
    | none=>0
def g43:G1
  | [.agg [.rsl [.str] a,.rsl [.str] b,.rsl [.int .i64,.int .i64,.str] c],.rsl [.int .i64,.int .i64,.int .i64] xs,.val (.string t)],[],k =>
    br (smD a b c&&(decide (xs.length≤1048576)&&decide (t.size≤4611686018427387904))) (k ⟨.val (.int .i64 (fndR a b c xs t)),[],[]⟩) False
  | _,_,_=>False
noncomputable def E43:Env:=E0.of Tryz.f43
noncomputable def G43:Gk:=gk [(116,g116),(46,g112),(81,g81)]
noncomputable def lp43(n:Nat):Code:=(loopOf n (codeOf Tryz.f43)).getD .skip
noncomputable def ct43(L:Lp)(R:Rp)(n:Nat):Kt:=contOf E43 G43 L n (codeOf Tryz.f43) (endK E43 Tryz.f43.results.toList R)
noncomputable def rk43(L:Lp)(R:Rp)(n:Nat)(N:St→Prop):Kt:=rk (jof E43 (lp43 n)) N (ct43 L R n)
noncomputable def LOOP43(L:Lp)(R:Rp)(n:Nat)(st:St):Prop:=L (lp43 n) st (ct43 L R n)
theorem hg43:HG Tryz.prog G43:=(hg_cons h116 (hg_cons h46 (hg_cons h81 hg_nil)))
theorem okf43:Ok Tryz.prog E43:=ok0.of Tryz.f43
theorem e43(L:Lp)(R:Rp)(a b:List (Elem ks))(c:List (Elem kl))(xs:List (Elem k3))(t:ByteArray):(bodyP E0 G43 L Tryz.f43 [.agg [.rsl ks a,.rsl ks b,.rsl kl c],.rsl k3 xs,.val (.string t)] [] R)=(
    br (decide (t.size≤4611686018427387904)) (LOOP43 L R 3 ⟨[.agg [.rsl ks a,.rsl ks b,.rsl kl c],.rsl k3 xs,vS t,.ptr 0 0,vU,vU,vI 0,vI (sumN t),vI 0,vJ,vJ,vJ,vJ,vJ,vJ,vJ,vJ,vJ,vJ,vJ,vJ,vJ,vJ,vJ,vJ,vJ,vJ,vJ,vJ,vJ,vJ,vJ,vJ,vJ,vJ,vJ,vJ,vJ,vJ,vJ,vJ,vJ,vJ,vJ,vJ,vJ,vJ,vJ,vJ,vJ,vJ,vJ,vJ,vJ],[(0,.box [.rsl ks a,.rsl ks b,.rsl kl c])],1000000,[]⟩) False):=by kernel_rfl
def st43(a b:List (Elem ks))(c:List (Elem kl))(xs:List (Elem k3))(t:ByteArray)(i:Int):St :=  ⟨[AV.agg [AV.rsl ks a,AV.rsl ks b,AV.rsl kl c],AV.rsl k3 xs,vS t,AV.ptr 0 0,vU,vU,vI 0,vI (sumN t),.val (.int .i64 i),vJ,vJ,vJ,vJ,vJ,vJ,vJ,vJ,vJ,vJ,vJ,vJ,vJ,vJ,vJ,vJ,vJ,vJ,vJ,vJ,vJ,vJ,vJ,vJ,vJ,vJ,vJ,vJ,vJ,vJ,vJ,vJ,vJ,vJ,vJ,vJ,vJ,vJ,vJ,vJ,vJ,vJ,vJ,vJ,vJ],[(0,AO.box [AV.rsl ks a,AV.rsl ks b,AV.rsl kl c])],1000000,[]⟩
theorem b43(L:Lp)(R:Rp)(N:St→Prop)(a b:List (Elem ks))(c:List (Elem kl))(xs:List (Elem k3))(t:ByteArray)(i:Int):(evP E43 G43 L (lp43 3) (st43 a b c xs t i) (rk43 L R 3 N))=(
    br (decide (xs.length≤1048576)) (br (ddtOk xs) (br (decide (i < (↑xs.length:Int))) (br (decide (0≤i∧i < (↑xs.length:Int))) (br ((xs.getD i.toNat (edflt k3)).1==sumN t) (br (decide (0≤i∧i < (↑xs.length:Int))) (br (smD a b c) (br ((rdBlk a b c (xs.getD i.toNat (edflt k3)).2.1 (sumN t) 0).2==0) (br (strEq (rdBlk a b c (xs.getD i.toNat (edflt k3)).2.1 (sumN t) 0).1 t) (br (decide (0≤i∧i < (↑xs.length:Int))) (R (some ⟨vI (xs.getD i.toNat (edflt k3)).2.1,[],[]⟩)) False) (N (st43 a b c xs t (IntKind.i64.wrap (i+1))))) (N (st43 a b c xs t (IntKind.i64.wrap (i+1))))) False) False) (N (st43 a b c xs t (IntKind.i64.wrap (i+1))))) False) (R (some ⟨vI 0,[],[]⟩))) (R (some ⟨vI 0,[],[]⟩))) False):=by kernel_rfl
theorem h43:G1Ok Tryz.prog 43 g43:=by
  intro args obs k h
  unfold g43 at h
  split at h
  · rename_i k a b c xs t
    obtain ⟨hd,hx,h⟩:=brb2 h
    rw [Bool.and_eq_true] at hx
    have hx1:=of_decide_eq_true hx.1
    refine ⟨_,ctr_fn ok0 hg43 Tryz.func43 (by kernel_rfl) (by kernel_rfl) (by kernel_rfl) fun C => ?_,h⟩
    rw [e43]
    refine br_t hx.2 ?_
    refine loopFd okf43 hg43 (fun i=>st43 a b c xs t i) xs.length (fndP a b c xs t) (by omega) (fun N i hi hw next found none => ?_)
    show evP E43 G43 _ (lp43 3) (st43 a b c xs t i) (rk43 _ _ 3 _)
    rw [b43,hw,Int.toNat_natCast]
    have hp:fndP a b c xs t i=((xs.getD i (edflt k3)).1==sumN t&&((rdBlk a b c (xs.getD i (edflt k3)).2.1 (sumN t) 0).2==0&&strEq (rdBlk a b c (xs.getD i (edflt k3)).2.1 (sumN t) 0).1 t)):=rfl
    refine br_t hx.1 (br_intro (fun h1=>br_dec (fun h2=>br_yes ⟨by omega,h2⟩ (br_intro (fun h3=>br_yes ⟨by omega,h2⟩ (br_t hd (br_intro (fun h4=>br_intro (fun h5=>br_yes ⟨by omega,h2⟩ ?_) (fun h5 => ?_)) (fun h4 => ?_)))) (fun h3 => ?_))) (fun h2 => ?_)) (fun h1 => ?_))
    · show _=_
      unfold fndR
      rw [h1,found (by omega) (by rw [hp,h3,h4,h5]; rfl)]
      rfl
    · exact next (by omega) (by rw [hp,h5]; simp)
    · exact next (by omega) (by rw [hp,h4]; simp)
    · exact next (by omega) (by rw [hp,h3]; simp)
    · show _=_
      unfold fndR
      rw [h1,none (by omega)]
    · show _=_
      unfold fndR
      rw [h1]
  · exact h.elim
def zOf:List AV→Option (List Int)
  | []=>some []
  | .val (.int .i64 z) :: r=>match zOf r with
    | some zs=>some (z :: zs)
    | none=>none
  | _=>none
def zAV(zs:List Int):List AV:=zs.map fun z => .val (.int .i64 z)
theorem zOf_inv : ∀ (us:List AV) (zs:List Int),zOf us=some zs→us=zAV zs
  | [],zs,h=>by
    obtain rfl : []=zs:=Option.some.inj h
    rfl
  | u :: r,zs,h=>by
    unfold zOf at h
    split at h
    · rename_i e
      cases e
    · rename_i z r' e
      split at h
      · rename_i zs' hz
        obtain rfl:=Option.some.inj h
        cases e
        rw [zOf_inv _ _ hz]
        rfl
      · cases h
    · cases h
theorem lst24(zs:List Int)(h:zs.length=24):zs = [zs.getD 0 0,zs.getD 1 0,zs.getD 2 0,zs.getD 3 0,zs.getD 4 0,zs.getD 5 0,zs.getD 6 0,zs.getD 7 0,zs.getD 8 0,zs.getD 9 0,zs.getD 10 0,zs.getD 11 0,zs.getD 12 0,zs.getD 13 0,zs.getD 14 0,zs.getD 15 0,zs.getD 16 0,zs.getD 17 0,zs.getD 18 0,zs.getD 19 0,zs.getD 20 0,zs.getD 21 0,zs.getD 22 0,zs.getD 23 0]:=by
  iterate 24 (cases zs with
    | nil=>simp at h
    | cons z zs=>_)
  cases zs with
  | nil=>rfl
  | cons z zs=>simp at h
noncomputable def rzF(x:Int)(s:List (Elem kc))(d0 p:List (Elem k3))(b0:Bool)(f:List (Elem ki))(n:Int)(zs:List Int)(m:Bool):Rf:=pick fun y:Rf=>qRf d0 y∧Ctr Tryz.prog 273 [coreOwn x b0 n 0 1 2 3,.agg (zAV zs),.val (.bool m)] [.row kc s,.row k3 d0,.row k3 p,.row ki f] (fmR x s d0 p f n y)
theorem rzF_ok{x:Int}{s:List (Elem kc)}{d0 p:List (Elem k3)}{b0:Bool}{f:List (Elem ki)}{n:Int}{zs:List Int}(hz:zs.length=24)(m:Bool)(hd:d0.length≤1000) :
    qRf d0 (rzF x s d0 p b0 f n zs m)∧Ctr Tryz.prog 273 [coreOwn x b0 n 0 1 2 3,.agg (zAV zs),.val (.bool m)] [.row kc s,.row k3 d0,.row k3 p,.row ki f] (fmR x s d0 p f n (rzF x s d0 p b0 f n zs m)):=by
  have key : ∃ y:Rf,qRf d0 y∧Ctr Tryz.prog 273 [coreOwn x b0 n 0 1 2 3,.agg (zAV zs),.val (.bool m)] [.row kc s,.row k3 d0,.row k3 p,.row ki f] (fmR x s d0 p f n y):=by
    rw [lst24 zs hz]
    exact rfE (zs.getD 0 0) (zs.getD 1 0) (zs.getD 2 0) (zs.getD 3 0) (zs.getD 4 0) (zs.getD 5 0) (zs.getD 6 0) (zs.getD 7 0) (zs.getD 8 0) (zs.getD 9 0) (zs.getD 10 0) (zs.getD 11 0) (zs.getD 12 0) (zs.getD 13 0) (zs.getD 14 0) (zs.getD 15 0) (zs.getD 16 0) (zs.getD 17 0) (zs.getD 18 0) (zs.getD 19 0) (zs.getD 20 0) (zs.getD 21 0) (zs.getD 22 0) (zs.getD 23 0) m hd
  exact pick_ok key
structure Bk1 where
  wr:Bool
  t:Int
  code:Int
  u:List (Elem ks)
  v:List (Elem ks)
  w:List (Elem kl)
instance:Inhabited Bk1:=⟨⟨false,0,0,[],[],[]⟩⟩
abbrev fmK0(a b0:List (Elem ks))(c0:List (Elem kl))(s:List (Elem kc))(d p:List (Elem k3))(f:List (Elem ki))(y:Bk1):Res:=⟨.tup [.agg [.ows 0,.ows 1,.ows 2],.val (.int .i64 y.t),.val (.int .i64 y.code)],[.row ks a,.row ks b0,.row kl c0,.row kc s,.row k3 d,.row k3 p,.row ki f],[none,none,none,some 3,some 4,some 5,some 6]⟩
abbrev fmK1(a b0:List (Elem ks))(c0:List (Elem kl))(s:List (Elem kc))(d p:List (Elem k3))(f:List (Elem ki))(y:Bk1):Res:=⟨.tup [.agg [.ows 0,.ows 1,.ows 2],.val (.int .i64 y.t),.val (.int .i64 0)],[.row ks y.u,.row ks y.v,.row kl y.w,.row ks a,.row ks b0,.row kl c0,.row kc s,.row k3 d,.row k3 p,.row ki f],[some 3,some 4,some 5,some 6,some 7,some 8,some 9]⟩
noncomputable def G276:Gk:=gk [(167,g167),(300,g300),(164,g164p),(301,g301)]
theorem hg276:HG Tryz.prog G276:=(hg_cons h167 (hg_cons h300 (hg_cons h164p (hg_cons h301 hg_nil))))
theorem e276(L:Lp)(R:Rp)(t q k:Int)(a c:ByteArray)(i:Int)(u:ByteArray):(bodyP Ef G276 L Tryz.f276 [.agg [.val (.int .i64 t),.val (.int .i64 q),.val (.int .i64 k),.val (.string a),.val (.string c),.val (.int .i64 i),.val (.string u)]] [] R)=(
    br (decide (t < 1)) (R (some ⟨vS { data := #[] },[],[]⟩)) (br (decide (t > 1000000)) (R (some ⟨vS { data := #[] },[],[]⟩)) (br (decide (q < 0)) (R (some ⟨vS { data := #[] },[],[]⟩)) (br (decide (q≥8)) (R (some ⟨vS { data := #[] },[],[]⟩)) (br (k != 3) (R (some ⟨vS { data := #[] },[],[]⟩)) (br (decide (a.size≤1048576)) (br (!nameOk a) (R (some ⟨vS { data := #[] },[],[]⟩)) (br (!strEq c { data := #[] }) (R (some ⟨vS { data := #[] },[],[]⟩)) (br (decide (i < 0)) (R (some ⟨vS { data := #[] },[],[]⟩)) (br (decide (i≥8)) (R (some ⟨vS { data := #[] },[],[]⟩)) (br (decide ((↑u.size:Int) > 24)) (R (some ⟨vS { data := #[] },[],[]⟩)) (br (decide (u.size≤1000000)) (br (strEq (shF u) { data := #[] }) (br (decide (0≤t∧t≤9223372036854775807)) (br (decide ((dec t).size+1≤9223372036854775807)) (br (decide (0≤q∧q≤9223372036854775807)) (br (decide ((dec t ++ { data := #[46] }).size+(dec q).size≤9223372036854775807)) (br (decide ((dec t ++ { data := #[46] }++dec q).size+1≤9223372036854775807)) (br (decide ((dec t ++ { data := #[46] }++dec q ++ { data := #[32] }).size+a.size≤9223372036854775807)) (br (decide ((dec t ++ { data := #[46] }++dec q ++ { data := #[32] }++a).size+1≤9223372036854775807)) (br (decide (0≤i∧i≤9223372036854775807)) (br (decide ((dec t ++ { data := #[46] }++dec q ++ { data := #[32] }++a ++ { data := #[32] }).size+(dec i).size≤9223372036854775807)) (br (decide ((dec t ++ { data := #[46] }++dec q ++ { data := #[32] }++a ++ { data := #[32] }++dec i).size+1≤9223372036854775807)) (br (decide ((dec t ++ { data := #[46] }++dec q ++ { data := #[32] }++a ++ { data := #[32] }++dec i ++ { data := #[32] }).size+1≤9223372036854775807)) (br (decide ((dec t ++ { data := #[46] }++dec q ++ { data := #[32] }++a ++ { data := #[32] }++dec i ++ { data := #[32] } ++ { data := #[45] }).size+1≤9223372036854775807)) (br (decide ((dec t ++ { data := #[46] }++dec q ++ { data := #[32] }++a ++ { data := #[32] }++dec i ++ { data := #[32] } ++ { data := #[45] } ++ { data := #[32] }).size+(dec t ++ { data := #[46] }++dec q).size≤9223372036854775807)) (br (decide ((dec t ++ { data := #[46] }++dec q ++ { data := #[32] }++a ++ { data := #[32] }++dec i ++ { data := #[32] } ++ { data := #[45] } ++ { data := #[32] }++(dec t ++ { data := #[46] }++dec q)).size≤4611686018427387904)) (R (some ⟨vS (sealT (dec t ++ { data := #[46] }++dec q ++ { data := #[32] }++a ++ { data := #[32] }++dec i ++ { data := #[32] } ++ { data := #[45] } ++ { data := #[32] }++(dec t ++ { data := #[46] }++dec q))),[],[]⟩)) False) False) False) False) False) False) False) False) False) False) False) False) False) False) (br (decide (0≤t∧t≤9223372036854775807)) (br (decide ((dec t).size+1≤9223372036854775807)) (br (decide (0≤q∧q≤9223372036854775807)) (br (decide ((dec t ++ { data := #[46] }).size+(dec q).size≤9223372036854775807)) (br (decide ((dec t ++ { data := #[46] }++dec q).size+1≤9223372036854775807)) (br (decide ((dec t ++ { data := #[46] }++dec q ++ { data := #[32] }).size+a.size≤9223372036854775807)) (br (decide ((dec t ++ { data := #[46] }++dec q ++ { data := #[32] }++a).size+1≤9223372036854775807)) (br (decide (0≤i∧i≤9223372036854775807)) (br (decide ((dec t ++ { data := #[46] }++dec q ++ { data := #[32] }++a ++ { data := #[32] }).size+(dec i).size≤9223372036854775807)) (br (decide ((dec t ++ { data := #[46] }++dec q ++ { data := #[32] }++a ++ { data := #[32] }++dec i).size+1≤9223372036854775807)) (br (decide ((dec t ++ { data := #[46] }++dec q ++ { data := #[32] }++a ++ { data := #[32] }++dec i ++ { data := #[32] }).size+(shF u).size≤9223372036854775807)) (br (decide ((dec t ++ { data := #[46] }++dec q ++ { data := #[32] }++a ++ { data := #[32] }++dec i ++ { data := #[32] }++shF u).size+1≤9223372036854775807)) (br (decide ((dec t ++ { data := #[46] }++dec q ++ { data := #[32] }++a ++ { data := #[32] }++dec i ++ { data := #[32] }++shF u ++ { data := #[32] }).size+(dec t ++ { data := #[46] }++dec q).size≤9223372036854775807)) (br (decide ((dec t ++ { data := #[46] }++dec q ++ { data := #[32] }++a ++ { data := #[32] }++dec i ++ { data := #[32] }++shF u ++ { data := #[32] }++(dec t ++ { data := #[46] }++dec q)).size≤4611686018427387904)) (R (some ⟨vS (sealT (dec t ++ { data := #[46] }++dec q ++ { data := #[32] }++a ++ { data := #[32] }++dec i ++ { data := #[32] }++shF u ++ { data := #[32] }++(dec t ++ { data := #[46] }++dec q))),[],[]⟩)) False) False) False) False) False) False) False) False) False) False) False) False) False) False)) False)))))) False)))))):=by kernel_rfl
theorem ltE{t q k:Int}{a c:ByteArray}{i:Int}{u:ByteArray}(ha:decide (a.size≤1048576)=true) : ∃ s:ByteArray,True∧Ctr Tryz.prog 276 [.agg [.val (.int .i64 t),.val (.int .i64 q),.val (.int .i64 k),.val (.string a),.val (.string c),.val (.int .i64 i),.val (.string u)]] [] ⟨.val (.string s),[],[]⟩:=by
  refine ex_ctr (form:=fun s:ByteArray=>⟨.val (.string s),[],[]⟩) okf hg276 Tryz.func276 (by kernel_rfl) (by kernel_rfl) (by kernel_rfl) ?_
  simp only [e276]
  have ha:=of_decide_eq_true ha
  have stop : ∀ s:ByteArray,Got (fun _:ByteArray=>True) (fun C x=>Wk (some ⟨.val (.string s),[],[]⟩) ⟨.val (.string x),[],[]⟩):=fun s=>ex_end (x:=s) trivial fun C=>wk_rfl _
  refine ex_dec (fun _=>stop _) (fun g1=>ex_dec (fun _=>stop _) (fun g2=>ex_dec (fun _=>stop _) (fun g3=>ex_dec (fun _=>stop _) (fun g4=>ex_intro (fun _=>stop _) (fun g5=>ex_yes ha (ex_not (fun _=>stop _) (fun g6=>ex_not (fun _=>stop _) (fun g7=>ex_dec (fun _=>stop _) (fun g8=>ex_dec (fun _=>stop _) (fun g9=>ex_dec (fun _=>stop _) (fun g10=>ex_yes (by omega) (ex_intro (fun g11 => ?_) (fun g11 => ?_)))))))))))))
  all_goals
    have s1:=dec_size (n:=t) (by omega) (by omega)
    have s2:=dec_size (n:=q) (by omega) (by omega)
    have s3:=dec_size (n:=i) (by omega) (by omega)
    have s4:=(shF_ok (t:=u) (decide_eq_true (by omega))).1
    have c1:(⟨#[46]⟩:ByteArray).size=1:=rfl
    have c2:(⟨#[32]⟩:ByteArray).size=1:=rfl
    have c3:(⟨#[45]⟩:ByteArray).size=1:=rfl
    repeat' (first
      | exact stop _
      | refine ex_yes ⟨by omega,by omega⟩ ?_
      | refine ex_yes (by simp only [ByteArray.size_append,c1,c2,c3]; omega) ?_
      | refine ex_yes (by omega) ?_)
noncomputable def ltF(t q k:Int)(a c:ByteArray)(i:Int)(u:ByteArray):ByteArray:=pick fun s:ByteArray=>True∧Ctr Tryz.prog 276 [.agg [.val (.int .i64 t),.val (.int .i64 q),.val (.int .i64 k),.val (.string a),.val (.string c),.val (.int .i64 i),.val (.string u)]] [] ⟨.val (.string s),[],[]⟩
theorem ltF_ok{t q k:Int}{a c:ByteArray}{i:Int}{u:ByteArray}(ha:decide (a.size≤1048576)=true):True∧Ctr Tryz.prog 276 [.agg [.val (.int .i64 t),.val (.int .i64 q),.val (.int .i64 k),.val (.string a),.val (.string c),.val (.int .i64 i),.val (.string u)]] [] ⟨.val (.string (ltF t q k a c i u)),[],[]⟩:=pick_ok (ltE ha)
noncomputable def g276:G1
  | [.agg [.val (.int .i64 t),.val (.int .i64 q),.val (.int .i64 k),.val (.string a),.val (.string c),.val (.int .i64 i),.val (.string u)]],[],k'=>br (decide (a.size≤1048576)) (k' ⟨.val (.string (ltF t q k a c i u)),[],[]⟩) False
  | _,_,_=>False
theorem h276:G1Ok Tryz.prog 276 g276:=by
  intro args obs k h
  unfold g276 at h
  split at h
  · obtain ⟨hp,h⟩:=br_and h
    exact ⟨_,(ltF_ok hp).2,h⟩
  · exact h.elim
noncomputable def G235:Gk:=gk [(276,g276),(189,g189w)]
theorem hg235:HG Tryz.prog G235:=(hg_cons h276 (hg_cons h189w hg_nil))
theorem e235(L:Lp)(R:Rp)(a b0:List (Elem ks))(c0:List (Elem kl))(x:Int)(s:List (Elem kc))(d p:List (Elem k3))(b:Bool)(f:List (Elem ki))(n:Int)(k:Int)(A C:ByteArray)(i:Int)(t:ByteArray):(bodyP Er G235 L Tryz.f235 [.agg [.ows 0,.ows 1,.ows 2],coreOwn x b n 3 4 5 6,.agg [.val (.int .i64 k),.val (.string A),.val (.string C),.val (.int .i64 i),.val (.string t)]] [.row ks a,.row ks b0,.row kl c0,.row kc s,.row k3 d,.row k3 p,.row ki f] R)=(
    br (decide (A.size≤1048576)) (br (strEq (ltF x n k A C i t) { data := #[] }) (R (some ⟨.tup [.agg [.ows 0,.ows 1,.ows 2],.agg [vI x,.ows 3,.ows 4,.ows 5,vB b,.ows 6,vI n],vB false],[.row ks a,.row ks b0,.row kl c0,.row kc s,.row k3 d,.row k3 p,.row ki f],[none,none,none,none,none,none,none]⟩)) (br (smD a b0 c0) (br (!(bwX a b0 c0 (IntKind.i64.wrap (5+n)) (ltF x n k A C i t)).2) (R (some ⟨.tup [.agg [.ows 0,.ows 1,.ows 2],.agg [vI x,.ows 3,.ows 4,.ows 5,vB b,.ows 6,vI n],vB false],[.row ks a,.row ks b0,.row kl c0,.row kc s,.row k3 d,.row k3 p,.row ki f],[none,none,none,none,none,none,none]⟩)) (R (some ⟨.tup [.agg [.ows 0,.ows 1,.ows 2],.agg [vI x,.ows 3,.ows 4,.ows 5,vB b,.ows 6,vI (IntKind.i64.wrap (n+1))],vB true],[.row ks (bwX a b0 c0 (IntKind.i64.wrap (5+n)) (ltF x n k A C i t)).1.1,.row ks (bwX a b0 c0 (IntKind.i64.wrap (5+n)) (ltF x n k A C i t)).1.2.1,.row kl (bwX a b0 c0 (IntKind.i64.wrap (5+n)) (ltF x n k A C i t)).1.2.2,.row kc s,.row k3 d,.row k3 p,.row ki f,.row ks a,.row ks b0,.row kl c0],[some 7,some 8,some 9,none,none,none,none]⟩))) False)) False):=by kernel_rfl
structure Pu where
  ok:Bool
  u:List (Elem ks)
  v:List (Elem ks)
  w:List (Elem kl)
instance:Inhabited Pu:=⟨⟨false,[],[],[]⟩⟩
abbrev fmP0(a b0:List (Elem ks))(c0:List (Elem kl))(x:Int)(s:List (Elem kc))(d p:List (Elem k3))(b:Bool)(f:List (Elem ki))(n:Int):Res:=⟨.tup [.agg [.ows 0,.ows 1,.ows 2],coreOwn x b n 3 4 5 6,.val (.bool false)],[.row ks a,.row ks b0,.row kl c0,.row kc s,.row k3 d,.row k3 p,.row ki f],[none,none,none,none,none,none,none]⟩
abbrev fmP1(a b0:List (Elem ks))(c0:List (Elem kl))(x:Int)(s:List (Elem kc))(d p:List (Elem k3))(b:Bool)(f:List (Elem ki))(n:Int)(y:Pu):Res:=⟨.tup [.agg [.ows 0,.ows 1,.ows 2],coreOwn x b (IntKind.i64.wrap (n+1)) 3 4 5 6,.val (.bool true)],[.row ks y.u,.row ks y.v,.row kl y.w,.row kc s,.row k3 d,.row k3 p,.row ki f,.row ks a,.row ks b0,.row kl c0],[some 7,some 8,some 9,none,none,none,none]⟩
def fmP(a b0:List (Elem ks))(c0:List (Elem kl))(x:Int)(s:List (Elem kc))(d p:List (Elem k3))(b:Bool)(f:List (Elem ki))(n:Int)(y:Pu):Res:=match y.ok with
  | false=>fmP0 a b0 c0 x s d p b f n
  | true=>fmP1 a b0 c0 x s d p b f n y
theorem puE{a b0:List (Elem ks)}{c0:List (Elem kl)}{x:Int}{s:List (Elem kc)}{d p:List (Elem k3)}{b:Bool}{f:List (Elem ki)}{n:Int}{k:Int}{A C:ByteArray}{i:Int}{t:ByteArray}(hF:fitD a b0 c0)(hA:decide (A.size≤1048576)=true) : ∃ y:Pu,fitD y.u y.v y.w∧Ctr Tryz.prog 235 [.agg [.ows 0,.ows 1,.ows 2],coreOwn x b n 3 4 5 6,.agg [.val (.int .i64 k),.val (.string A),.val (.string C),.val (.int .i64 i),.val (.string t)]] [.row ks a,.row ks b0,.row kl c0,.row kc s,.row k3 d,.row k3 p,.row ki f] (fmP a b0 c0 x s d p b f n y):=by
  refine ex_ctr (form:=fun y:Pu=>fmP a b0 c0 x s d p b f n y) okr hg235 Tryz.func235 (by kernel_rfl) (by kernel_rfl) (by kernel_rfl) ?_
  simp only [e235]
  have no:Got (fun y:Pu=>fitD y.u y.v y.w) (fun C y=>Wk (some (fmP0 a b0 c0 x s d p b f n)) (fmP a b0 c0 x s d p b f n y)):=ex_end (x:=⟨false,[],[],[]⟩) fitD_nil fun C=>wk_rfl _
  refine ex_t hA (ex_intro (fun _=>no) (fun _=>ex_t (fitD_sm hF) (ex_not (fun _=>no) (fun _ => ?_))))
  exact ex_end (x:=(⟨true,_,_,_⟩:Pu)) (bwX_fit hF _ _) fun C=>wk_rfl _
noncomputable def puF(a b0:List (Elem ks))(c0:List (Elem kl))(x:Int)(s:List (Elem kc))(d p:List (Elem k3))(b:Bool)(f:List (Elem ki))(n:Int)(k:Int)(A C:ByteArray)(i:Int)(t:ByteArray):Pu:=pick fun y:Pu=>fitD y.u y.v y.w∧Ctr Tryz.prog 235 [.agg [.ows 0,.ows 1,.ows 2],coreOwn x b n 3 4 5 6,.agg [.val (.int .i64 k),.val (.string A),.val (.string C),.val (.int .i64 i),.val (.string t)]] [.row ks a,.row ks b0,.row kl c0,.row kc s,.row k3 d,.row k3 p,.row ki f] (fmP a b0 c0 x s d p b f n y)
theorem puF_ok{a b0:List (Elem ks)}{c0:List (Elem kl)}{x:Int}{s:List (Elem kc)}{d p:List (Elem k3)}{b:Bool}{f:List (Elem ki)}{n:Int}{k:Int}{A C:ByteArray}{i:Int}{t:ByteArray}(hF:fitD a b0 c0)(hA:decide (A.size≤1048576)=true):fitD (puF a b0 c0 x s d p b f n k A C i t).u (puF a b0 c0 x s d p b f n k A C i t).v (puF a b0 c0 x s d p b f n k A C i t).w∧Ctr Tryz.prog 235 [.agg [.ows 0,.ows 1,.ows 2],coreOwn x b n 3 4 5 6,.agg [.val (.int .i64 k),.val (.string A),.val (.string C),.val (.int .i64 i),.val (.string t)]] [.row ks a,.row ks b0,.row kl c0,.row kc s,.row k3 d,.row k3 p,.row ki f] (fmP a b0 c0 x s d p b f n (puF a b0 c0 x s d p b f n k A C i t)):=pick_ok (puE hF hA)
noncomputable def g235:G1
  | [.agg [.ows 0,.ows 1,.ows 2],.agg [.val (.int .i64 x),.ows 3,.ows 4,.ows 5,.val (.bool b),.ows 6,.val (.int .i64 n)],.agg [.val (.int .i64 k),.val (.string A),.val (.string C),.val (.int .i64 i),.val (.string t)]],[.row [.str] a,.row [.str] b0,.row [.int .i64,.int .i64,.str] c0,.row cx s0,.row [.int .i64,.int .i64,.int .i64] d,.row [.int .i64,.int .i64,.int .i64] p,.row [.int .i64] f],k'=>match castE kc cx s0 with
    | some s=>br (fitB a b0 c0&&decide (A.size≤1048576)) (br (puF a b0 c0 x s d p b f n k A C i t).ok (k' (fmP1 a b0 c0 x s d p b f n (puF a b0 c0 x s d p b f n k A C i t))) (k' (fmP0 a b0 c0 x s d p b f n))) False
    | none=>False
  | _,_,_=>False
theorem h235:G1Ok Tryz.prog 235 g235:=by
  intro args obs k h
  unfold g235 at h
  split at h
  · split at h
    rotate_left
    · exact h.elim
    rename_i s hs
    cases castE_inv hs
    obtain ⟨hp,h⟩:=br_and h
    rw [Bool.and_eq_true] at hp
    refine ⟨_,(puF_ok (fitB_iff.1 hp.1) hp.2).2,?_⟩
    unfold fmP
    split
    · rename_i ho
      rw [ho] at h
      exact h
    · rename_i ho
      rw [ho] at h
      exact h
  · exact h.elim
end Go.Proofs.YtkjnijddbiconaaGreatDoor.Ev