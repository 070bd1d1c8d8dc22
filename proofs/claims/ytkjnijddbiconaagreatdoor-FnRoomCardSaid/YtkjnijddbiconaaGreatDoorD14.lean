/- Books that are valid: contracts. -/
import Derived.Test.YtkjnijddbiconaaGreatDoorWC
namespace Go.Proofs.YtkjnijddbiconaaGreatDoor.Ev
open Go
set_option linter.unusedVariables false
set_option linter.unusedSimpArgs false
set_option maxRecDepth 100000
def g173:G1
  | [.val (.string t)],[],k=>k ⟨.val (.bool (decide ((t.size:Int) > 24))),[],[]⟩
  | _,_,_=>False
def g213:G1
  | [.rsl [.str] xs,.fn 173 []],[],k=>br (decide (xs.length≤1048576)) (k ⟨.val (.int .i64 (fIx xs.length fun i=>decide (((at1 xs i).size:Int) > 24))),[],[]⟩) False
  | _,_,_=>False
def g153:G1
  | [.rsl [.str] xs,.fn 173 []],[],k=>br (decide (xs.length≤1048576)) (k ⟨.val (.bool (anyB xs.length fun i=>decide (((at1 xs i).size:Int) > 24))),[],[]⟩) False
  | _,_,_=>False
def setC(e:Elem kb):List AV := [.val (.string e.1),.val (.int .i64 e.2.1),.val (.string e.2.2.1),.val (.string e.2.2.2.1),.val (.string e.2.2.2.2.1),.val (.string e.2.2.2.2.2.1),.val (.string e.2.2.2.2.2.2.1),.val (.string e.2.2.2.2.2.2.2.1),.val (.string e.2.2.2.2.2.2.2.2.1),.val (.string e.2.2.2.2.2.2.2.2.2.1),.val (.string e.2.2.2.2.2.2.2.2.2.2.1)]
abbrev atB(xs:List (Elem kb))(i:Nat):Elem kb:=xs.getD i (edflt kb)
def lnB(xs:List (Elem kb))(t:ByteArray):Nat:=ln (fun i=>strLt (atB xs i).1 t) xs.length
def okB(xs:List (Elem kb))(t:ByteArray):Bool:=decide (lnB xs t < xs.length)&&strEq (atB xs (lnB xs t)).1 t
def g216:G1
  | [.agg [.rsl [.str,.int .i64,.str,.str,.str,.str,.str,.str,.str,.str,.str] xs],.val (.string t)],[],k=>br (decide (xs.length≤1048576)) (k ⟨.tup [.val (.int .i64 (lnB xs t)),.val (.bool (okB xs t))],[],[]⟩) False
  | _,_,_=>False
def g224:G1
  | [.agg us,.rpt vs],[],k=>match elemOf kb us,elemOf kb vs with
    | some a,some s=>k ⟨.val (.bool (strEq a.1 s.2.2.1)),[],[]⟩
    | _,_=>False
  | _,_,_=>False
def fdB(xs:List (Elem kb))(t:ByteArray):Option Nat:=fd xs.length fun i=>strEq (atB xs i).1 t
def ixO:Option Nat→Int
  | some k=>k
  | none => -1
def g223:G1
  | [.rsl [.str,.int .i64,.str,.str,.str,.str,.str,.str,.str,.str,.str] xs,.fn 224 [.rpt vs]],[],k=>match elemOf kb vs with
    | some s=>br (decide (xs.length≤1048576)) (k ⟨.val (.int .i64 (ixO (fdB xs s.2.2.1))),[],[]⟩) False
    | none=>False
  | _,_,_=>False
noncomputable def G173:Gk:=gk []
theorem hg173:HG Tryz.prog G173:=hg_nil
theorem e173(L:Lp)(R:Rp)(t:ByteArray):(bodyP E0 G173 L Tryz.f173 [.val (.string t)] [] R)=(
    R (some ⟨vB (decide ((↑t.size:Int) > 24)),[],[]⟩)):=by kernel_rfl
theorem h173:G1Ok Tryz.prog 173 g173:=by
  intro args obs k h
  unfold g173 at h
  split at h
  · rename_i k t
    refine ⟨_,ctr_fn ok0 hg173 Tryz.func173 (by kernel_rfl) (by kernel_rfl) (by kernel_rfl) fun C => ?_,h⟩
    rw [e173]
  · exact h.elim
noncomputable def E213:Env:=E0.of Tryz.f213
noncomputable def G213:Gk:=gk [(173,g173)]
noncomputable def lp213(n:Nat):Code:=(loopOf n (codeOf Tryz.f213)).getD .skip
noncomputable def ct213(L:Lp)(R:Rp)(n:Nat):Kt:=contOf E213 G213 L n (codeOf Tryz.f213) (endK E213 Tryz.f213.results.toList R)
noncomputable def rk213(L:Lp)(R:Rp)(n:Nat)(N:St→Prop):Kt:=rk (jof E213 (lp213 n)) N (ct213 L R n)
noncomputable def LOOP213(L:Lp)(R:Rp)(n:Nat)(st:St):Prop:=L (lp213 n) st (ct213 L R n)
theorem hg213:HG Tryz.prog G213:=(hg_cons h173 hg_nil)
theorem okf213:Ok Tryz.prog E213:=ok0.of Tryz.f213
theorem e213(L:Lp)(R:Rp)(xs:List (Elem ks)):(bodyP E0 G213 L Tryz.f213 [.rsl ks xs,.fn 173 []] [] R)=(
    LOOP213 L R 2 ⟨[.rsl ks xs,.fn 173 [],vU,vU,vI 0,vJ,vJ,vI (↑xs.length:Int),vI 0,vJ,vJ,vJ,vJ,vJ,vJ,vJ,vJ,vJ,vJ],[],1000000,[]⟩):=by kernel_rfl
def st213(xs:List (Elem ks))(i:Int):St :=  ⟨[AV.rsl ks xs,AV.fn 173 [],vU,vU,vI 0,vJ,vJ,vI (↑xs.length:Int),.val (.int .i64 i),vJ,vJ,vJ,vJ,vJ,vJ,vJ,vJ,vJ,vJ],[],1000000,[]⟩
theorem b213(L:Lp)(R:Rp)(N:St→Prop)(xs:List (Elem ks))(i:Int):(evP E213 G213 L (lp213 2) (st213 xs i) (rk213 L R 2 N))=(
    br (decide (i < (↑xs.length:Int))) (br (decide (0≤i∧i < (↑xs.length:Int))) (br (decide ((↑(ByteArray.size (xs.getD i.toNat (edflt ks)).1):Int) > 24)) (R (some ⟨vI i,[],[]⟩)) (N ⟨[.rsl ks xs,.fn 173 [],vU,vU,vI 0,vJ,vJ,vI (↑xs.length:Int),vI (IntKind.i64.wrap (i+1)),vJ,vJ,vJ,vJ,vJ,vJ,vJ,vJ,vJ,vJ],[],1000000,[]⟩)) False) (R (some ⟨vI (-1),[],[]⟩))):=by kernel_rfl
theorem h213:G1Ok Tryz.prog 213 g213:=by
  intro args obs k h
  unfold g213 at h
  split at h
  · rename_i k xs
    obtain ⟨hl,h⟩:=brd h
    refine ⟨_,ctr_fn ok0 hg213 Tryz.func213 (by kernel_rfl) (by kernel_rfl) (by kernel_rfl) fun C => ?_,h⟩
    rw [e213]
    refine loopFind okf213 hg213 (fun i=>st213 xs i) xs.length (fun i=>decide (((at1 xs i).size:Int) > 24)) (by omega) (fun N i hi hw next found none => ?_)
    show evP E213 G213 _ (lp213 2) (st213 xs i) (rk213 _ _ 2 _)
    rw [b213,hw,Int.toNat_natCast]
    refine br_dec (fun h2=>br_yes ⟨by omega,h2⟩ (br_dec (fun h3 => ?_) (fun h3 => ?_))) (fun h2 => ?_)
    · show _=_
      rw [found (by omega) (decide_eq_true h3)]
    · exact next (by omega) (decide_eq_false h3)
    · show _=_
      rw [none (by omega)]
  · exact h.elim
noncomputable def G153:Gk:=gk [(213,g213)]
theorem hg153:HG Tryz.prog G153:=(hg_cons h213 hg_nil)
theorem e153(L:Lp)(R:Rp)(xs:List (Elem ks)):(bodyP E0 G153 L Tryz.f153 [.rsl ks xs,.fn 173 []] [] R)=(
    br (decide (xs.length≤1048576)) (R (some ⟨vB (decide ((fIx xs.length fun i=>decide ((↑(at1 xs i).size:Int) > 24))≥0)),[],[]⟩)) False):=by kernel_rfl
theorem h153:G1Ok Tryz.prog 153 g153:=by
  intro args obs k h
  unfold g153 at h
  split at h
  · rename_i k xs
    obtain ⟨hl,h⟩:=br_and h
    refine ⟨_,ctr_fn ok0 hg153 Tryz.func153 (by kernel_rfl) (by kernel_rfl) (by kernel_rfl) fun C => ?_,h⟩
    rw [e153]
    refine br_t hl ?_
    show _=_
    rw [fIx_ge]
  · exact h.elim
noncomputable def E216:Env:=E0.of Tryz.f216
noncomputable def G216:Gk:=gk []
noncomputable def lp216(n:Nat):Code:=(loopOf n (codeOf Tryz.f216)).getD .skip
noncomputable def ct216(L:Lp)(R:Rp)(n:Nat):Kt:=contOf E216 G216 L n (codeOf Tryz.f216) (endK E216 Tryz.f216.results.toList R)
noncomputable def rk216(L:Lp)(R:Rp)(n:Nat)(N:St→Prop):Kt:=rk (jof E216 (lp216 n)) N (ct216 L R n)
noncomputable def LOOP216(L:Lp)(R:Rp)(n:Nat)(st:St):Prop:=L (lp216 n) st (ct216 L R n)
theorem hg216:HG Tryz.prog G216:=hg_nil
theorem okf216:Ok Tryz.prog E216:=ok0.of Tryz.f216
theorem e216(L:Lp)(R:Rp)(xs:List (Elem kb))(t:ByteArray):(bodyP E0 G216 L Tryz.f216 [.agg [.rsl kb xs],.val (.string t)] [] R)=(
    LOOP216 L R 2 ⟨[.agg [.rsl kb xs],vS t,.ptr 0 0,vU,vI 0,vB false,vI 0,vJ,vJ,vJ,vJ,vJ,vJ,vJ,vJ,vJ,vJ,vJ,vJ,vJ,vJ,vJ,vJ,vJ,vU,vU,vU,vU,vU,vU,vU,vU,vU,vU,vU,vU,vU,vU,vU,vU],[(0,.box [.rsl kb xs])],1000000,[]⟩):=by kernel_rfl
def st216(xs:List (Elem kb))(t:ByteArray)(i:Int):St :=  ⟨[AV.agg [AV.rsl kb xs],vS t,AV.ptr 0 0,vU,vI 0,vB false,.val (.int .i64 i),vJ,vJ,vJ,vJ,vJ,vJ,vJ,vJ,vJ,vJ,vJ,vJ,vJ,vJ,vJ,vJ,vJ,vU,vU,vU,vU,vU,vU,vU,vU,vU,vU,vU,vU,vU,vU,vU,vU],[(0,AO.box [AV.rsl kb xs])],1000000,[]⟩
theorem b216(L:Lp)(R:Rp)(N:St→Prop)(xs:List (Elem kb))(t:ByteArray)(i:Int):(evP E216 G216 L (lp216 2) (st216 xs t i) (rk216 L R 2 N))=(
    br (decide (i < (↑xs.length:Int))) (br (decide (0≤i∧i < (↑xs.length:Int))) (br (strLt (xs.getD i.toNat (edflt kb)).1 t) (N (st216 xs t (IntKind.i64.wrap (i+1)))) (br (decide (i < (↑xs.length:Int))) (br (decide (0≤i∧i < (↑xs.length:Int))) (R (some ⟨.tup [vI i,vB (strEq (xs.getD i.toNat (edflt kb)).1 t)],[],[]⟩)) False) (R (some ⟨.tup [vI i,vB false],[],[]⟩)))) False) (br (decide (i < (↑xs.length:Int))) (br (decide (0≤i∧i < (↑xs.length:Int))) (R (some ⟨.tup [vI i,vB (strEq (xs.getD i.toNat (edflt kb)).1 t)],[],[]⟩)) False) (R (some ⟨.tup [vI i,vB false],[],[]⟩)))):=by kernel_rfl
theorem h216:G1Ok Tryz.prog 216 g216:=by
  intro args obs k h
  unfold g216 at h
  split at h
  · rename_i k xs t
    obtain ⟨hl,h⟩:=brd h
    refine ⟨_,ctr_fn ok0 hg216 Tryz.func216 (by kernel_rfl) (by kernel_rfl) (by kernel_rfl) fun C => ?_,h⟩
    rw [e216]
    refine loopLn okf216 hg216 (fun i=>st216 xs t i) xs.length (fun i=>strLt (atB xs i).1 t) (by omega) (fun N i hi hw next stop last => ?_)
    show evP E216 G216 _ (lp216 2) (st216 xs t i) (rk216 _ _ 2 _)
    rw [b216,hw,Int.toNat_natCast]
    refine br_dec (fun h2=>br_yes ⟨by omega,h2⟩ (br_intro (fun h3 => ?_) (fun h3=>br_yes h2 (br_yes ⟨by omega,h2⟩ ?_)))) (fun h2=>br_no h2 ?_)
    · exact next (by omega) h3
    · show _=_
      have e:lnB xs t=i:=stop (by omega) h3
      unfold okB
      rw [e,decide_eq_true (show i < xs.length by omega),Bool.true_and]
    · show _=_
      have e:lnB xs t=i:=last (by omega)
      unfold okB
      rw [e,decide_eq_false (show ¬ i < xs.length by omega),Bool.false_and]
  · exact h.elim
noncomputable def G224:Gk:=gk []
theorem hg224:HG Tryz.prog G224:=hg_nil
theorem e224(L:Lp)(R:Rp)(e:Elem kb)(s:Elem kb):(bodyP E0 G224 L Tryz.f224 [.agg (setC e),.rpt (setC s)] [] R)=(
    R (some ⟨vB (strEq e.1 s.2.2.1),[],[]⟩)):=by kernel_rfl
theorem h224:G1Ok Tryz.prog 224 g224:=by
  intro args obs k h
  unfold g224 at h
  split at h
  · rename_i k us vs
    split at h
    rotate_left
    · exact h.elim
    rename_i a s ha hs
    obtain rfl:=elemOf_inv ha
    obtain rfl:=elemOf_inv hs
    refine ⟨_,ctr_fn ok0 hg224 Tryz.func224 (by kernel_rfl) (by kernel_rfl) (by kernel_rfl) fun C => ?_,h⟩
    show bodyP E0 G224 _ Tryz.f224 [.agg (setC a),.rpt (setC s)] [] _
    rw [e224]
  · exact h.elim
noncomputable def E223:Env:=E0.of Tryz.f223
noncomputable def G223:Gk:=gk [(224,g224)]
noncomputable def lp223(n:Nat):Code:=(loopOf n (codeOf Tryz.f223)).getD .skip
noncomputable def ct223(L:Lp)(R:Rp)(n:Nat):Kt:=contOf E223 G223 L n (codeOf Tryz.f223) (endK E223 Tryz.f223.results.toList R)
noncomputable def rk223(L:Lp)(R:Rp)(n:Nat)(N:St→Prop):Kt:=rk (jof E223 (lp223 n)) N (ct223 L R n)
noncomputable def LOOP223(L:Lp)(R:Rp)(n:Nat)(st:St):Prop:=L (lp223 n) st (ct223 L R n)
theorem hg223:HG Tryz.prog G223:=(hg_cons h224 hg_nil)
theorem okf223:Ok Tryz.prog E223:=ok0.of Tryz.f223
theorem e223(L:Lp)(R:Rp)(xs:List (Elem kb))(s:Elem kb):(bodyP E0 G223 L Tryz.f223 [.rsl kb xs,.fn 224 [.rpt (setC s)]] [] R)=(
    LOOP223 L R 2 ⟨[.rsl kb xs,.fn 224 [.rpt [vS s.1,vI s.2.1,vS s.2.2.1,vS s.2.2.2.1,vS s.2.2.2.2.1,vS s.2.2.2.2.2.1,vS s.2.2.2.2.2.2.1,vS s.2.2.2.2.2.2.2.1,vS s.2.2.2.2.2.2.2.2.1,vS s.2.2.2.2.2.2.2.2.2.1,vS s.2.2.2.2.2.2.2.2.2.2.1]],vU,vU,vI 0,vJ,vJ,vI (↑xs.length:Int),vI 0,vJ,vJ,vJ,vJ,vJ,vJ,vJ,vJ,vJ,vJ],[],1000000,[]⟩):=by kernel_rfl
def st223(xs:List (Elem kb))(s:Elem kb)(i:Int):St :=  ⟨[AV.rsl kb xs,AV.fn 224 [AV.rpt [vS s.fst,vI s.snd.fst,vS s.snd.snd.fst,vS s.snd.snd.snd.fst,vS s.snd.snd.snd.snd.fst,vS s.snd.snd.snd.snd.snd.fst,vS s.snd.snd.snd.snd.snd.snd.fst,vS s.snd.snd.snd.snd.snd.snd.snd.fst,vS s.snd.snd.snd.snd.snd.snd.snd.snd.fst,vS s.snd.snd.snd.snd.snd.snd.snd.snd.snd.fst,vS s.snd.snd.snd.snd.snd.snd.snd.snd.snd.snd.fst]],vU,vU,vI 0,vJ,vJ,vI (↑xs.length:Int),.val (.int .i64 i),vJ,vJ,vJ,vJ,vJ,vJ,vJ,vJ,vJ,vJ],[],1000000,[]⟩
theorem b223(L:Lp)(R:Rp)(N:St→Prop)(xs:List (Elem kb))(s:Elem kb)(i:Int):(evP E223 G223 L (lp223 2) (st223 xs s i) (rk223 L R 2 N))=(
    br (decide (i < (↑xs.length:Int))) (br (decide (0≤i∧i < (↑xs.length:Int))) (br (strEq (xs.getD i.toNat (edflt kb)).1 s.2.2.1) (R (some ⟨vI i,[],[]⟩)) (N ⟨[.rsl kb xs,.fn 224 [.rpt [vS s.1,vI s.2.1,vS s.2.2.1,vS s.2.2.2.1,vS s.2.2.2.2.1,vS s.2.2.2.2.2.1,vS s.2.2.2.2.2.2.1,vS s.2.2.2.2.2.2.2.1,vS s.2.2.2.2.2.2.2.2.1,vS s.2.2.2.2.2.2.2.2.2.1,vS s.2.2.2.2.2.2.2.2.2.2.1]],vU,vU,vI 0,vJ,vJ,vI (↑xs.length:Int),vI (IntKind.i64.wrap (i+1)),vJ,vJ,vJ,vJ,vJ,vJ,vJ,vJ,vJ,vJ],[],1000000,[]⟩)) False) (R (some ⟨vI (-1),[],[]⟩))):=by kernel_rfl
theorem h223:G1Ok Tryz.prog 223 g223:=by
  intro args obs k h
  unfold g223 at h
  split at h
  · rename_i k xs vs
    split at h
    rotate_left
    · exact h.elim
    rename_i s hs
    obtain rfl:=elemOf_inv hs
    obtain ⟨hl,h⟩:=brd h
    refine ⟨_,ctr_fn ok0 hg223 Tryz.func223 (by kernel_rfl) (by kernel_rfl) (by kernel_rfl) fun C => ?_,h⟩
    show bodyP E0 G223 _ Tryz.f223 [.rsl kb xs,.fn 224 [.rpt (setC s)]] [] _
    rw [e223]
    refine loopFd okf223 hg223 (fun i=>st223 xs s i) xs.length (fun i=>strEq (atB xs i).1 s.2.2.1) (by omega) (fun N i hi hw next found none => ?_)
    show evP E223 G223 _ (lp223 2) (st223 xs s i) (rk223 _ _ 2 _)
    rw [b223,hw,Int.toNat_natCast]
    refine br_dec (fun h2=>br_yes ⟨by omega,h2⟩ (br_intro (fun h3 => ?_) (fun h3 => ?_))) (fun h2 => ?_)
    · show _=_
      rw [show fdB xs s.2.2.1=some i from found (by omega) h3]
      rfl
    · exact next (by omega) h3
    · show _=_
      rw [show fdB xs s.2.2.1=Option.none from none (by omega)]
      rfl
  · exact h.elim
def bks(e:Elem kb):List (Elem ks) := [(e.2.2.2.1,()),(e.2.2.2.2.1,()),(e.2.2.2.2.2.1,()),(e.2.2.2.2.2.2.1,()),(e.2.2.2.2.2.2.2.1,()),(e.2.2.2.2.2.2.2.2.1,()),(e.2.2.2.2.2.2.2.2.2.1,()),(e.2.2.2.2.2.2.2.2.2.2.1,())]
def ldB(xs:List (Elem kb)):Nat→Elem kb→Bool
  | 0,_=>false
  | m+1,s=>match strEq s.2.2.1 ⟨#[]⟩ with
    | true=>s.2.1==1
    | false=>match fdB xs s.2.2.1 with
      | none=>false
      | some k=>match (atB xs k).2.1==s.2.1 with
        | true=>false
        | false=>ldB xs m (atB xs k)
def rtB(xs:List (Elem kb)):Nat→Elem kb→Bool
  | 0,_=>false
  | m+1,s=>match strEq s.2.2.1 ⟨#[]⟩ with
    | true=>s.2.1==1
    | false=>match okB xs s.2.2.1 with
      | false=>false
      | true=>match (atB xs (lnB xs s.2.2.1)).2.1==s.2.1 with
        | true=>false
        | false=>rtB xs m (atB xs (lnB xs s.2.2.1))
def g176:G1
  | [.agg [.rsl [.str,.int .i64,.str,.str,.str,.str,.str,.str,.str,.str,.str] xs],.agg us],[],k=>match elemOf kb us with
    | some s=>br (decide (xs.length≤1048576)) (k ⟨.val (.bool (ldB xs xs.length s)),[],[]⟩) False
    | none=>False
  | _,_,_=>False
def g168:G1
  | [.agg [.rsl [.str,.int .i64,.str,.str,.str,.str,.str,.str,.str,.str,.str] xs],.agg us],[],k=>match elemOf kb us with
    | some s=>br (decide (xs.length≤1048576)) (k ⟨.val (.bool (rtB xs (xs.length+1) s)),[],[]⟩) False
    | none=>False
  | _,_,_=>False
noncomputable def E176:Env:=E0.of Tryz.f176
noncomputable def G176:Gk:=gk [(223,g223)]
noncomputable def lp176(n:Nat):Code:=(loopOf n (codeOf Tryz.f176)).getD .skip
noncomputable def ct176(L:Lp)(R:Rp)(n:Nat):Kt:=contOf E176 G176 L n (codeOf Tryz.f176) (endK E176 Tryz.f176.results.toList R)
noncomputable def rk176(L:Lp)(R:Rp)(n:Nat)(N:St→Prop):Kt:=rk (jof E176 (lp176 n)) N (ct176 L R n)
noncomputable def LOOP176(L:Lp)(R:Rp)(n:Nat)(st:St):Prop:=L (lp176 n) st (ct176 L R n)
theorem hg176:HG Tryz.prog G176:=(hg_cons h223 hg_nil)
theorem okf176:Ok Tryz.prog E176:=ok0.of Tryz.f176
theorem e176(L:Lp)(R:Rp)(xs:List (Elem kb))(s:Elem kb):(bodyP E0 G176 L Tryz.f176 [.agg [.rsl kb xs],.agg (setC s)] [] R)=(
    LOOP176 L R 2 ⟨[.agg [.rsl kb xs],.agg [vS s.1,vI s.2.1,vS s.2.2.1,vS s.2.2.2.1,vS s.2.2.2.2.1,vS s.2.2.2.2.2.1,vS s.2.2.2.2.2.2.1,vS s.2.2.2.2.2.2.2.1,vS s.2.2.2.2.2.2.2.2.1,vS s.2.2.2.2.2.2.2.2.2.1,vS s.2.2.2.2.2.2.2.2.2.2.1],.ptr 0 0,.ptr 1 0,vB false,vJ,vJ,vJ,vI (↑xs.length:Int),vI 0,vJ,vJ,vJ,vJ,vJ,vJ,vJ,vJ,vJ,vJ,vJ,vJ,vJ,vJ,vJ,vJ,vJ,vJ,vJ,vJ,vJ,vJ,vJ,vJ,vJ,vJ,vJ,vJ,vJ,vJ],[(0,.box [.rsl kb xs]),(1,.box [vS s.1,vI s.2.1,vS s.2.2.1,vS s.2.2.2.1,vS s.2.2.2.2.1,vS s.2.2.2.2.2.1,vS s.2.2.2.2.2.2.1,vS s.2.2.2.2.2.2.2.1,vS s.2.2.2.2.2.2.2.2.1,vS s.2.2.2.2.2.2.2.2.2.1,vS s.2.2.2.2.2.2.2.2.2.2.1])],1000000,[]⟩):=by kernel_rfl
def st176(xs:List (Elem kb))(s u:Elem kb)(i:Int):St :=  ⟨[AV.agg [AV.rsl kb xs],AV.agg [vS s.fst,vI s.snd.fst,vS s.snd.snd.fst,vS s.snd.snd.snd.fst,vS s.snd.snd.snd.snd.fst,vS s.snd.snd.snd.snd.snd.fst,vS s.snd.snd.snd.snd.snd.snd.fst,vS s.snd.snd.snd.snd.snd.snd.snd.fst,vS s.snd.snd.snd.snd.snd.snd.snd.snd.fst,vS s.snd.snd.snd.snd.snd.snd.snd.snd.snd.fst,vS s.snd.snd.snd.snd.snd.snd.snd.snd.snd.snd.fst],AV.ptr 0 0,AV.ptr 1 0,vB false,vJ,vJ,vJ,vI (↑xs.length:Int),.val (.int .i64 i),vJ,vJ,vJ,vJ,vJ,vJ,vJ,vJ,vJ,vJ,vJ,vJ,vJ,vJ,vJ,vJ,vJ,vJ,vJ,vJ,vJ,vJ,vJ,vJ,vJ,vJ,vJ,vJ,vJ,vJ],[(0,AO.box [AV.rsl kb xs]),(1,.box (setC u))],1000000,[]⟩
theorem b176(L:Lp)(R:Rp)(N:St→Prop)(xs:List (Elem kb))(s u:Elem kb)(i:Int):(evP E176 G176 L (lp176 2) (st176 xs s u i) (rk176 L R 2 N))=(
    br (decide (i < (↑xs.length:Int))) (br (strEq u.2.2.1 { data := #[] }) (R (some ⟨vB (u.2.1==1),[],[]⟩)) (br (decide (xs.length≤1048576)) (br (decide (ixO (fdB xs u.2.2.1) < 0)) (R (some ⟨vB false,[],[]⟩)) (br (decide (0≤ixO (fdB xs u.2.2.1)∧ixO (fdB xs u.2.2.1) < (↑xs.length:Int))) (br ((xs.getD (ixO (fdB xs u.2.2.1)).toNat (edflt kb)).2.1==u.2.1) (R (some ⟨vB false,[],[]⟩)) (br (decide (0≤ixO (fdB xs u.2.2.1)∧ixO (fdB xs u.2.2.1) < (↑xs.length:Int))) (N ⟨[.agg [.rsl kb xs],.agg [vS s.1,vI s.2.1,vS s.2.2.1,vS s.2.2.2.1,vS s.2.2.2.2.1,vS s.2.2.2.2.2.1,vS s.2.2.2.2.2.2.1,vS s.2.2.2.2.2.2.2.1,vS s.2.2.2.2.2.2.2.2.1,vS s.2.2.2.2.2.2.2.2.2.1,vS s.2.2.2.2.2.2.2.2.2.2.1],.ptr 0 0,.ptr 1 0,vB false,vJ,vJ,vJ,vI (↑xs.length:Int),vI (IntKind.i64.wrap (i+1)),vJ,vJ,vJ,vJ,vJ,vJ,vJ,vJ,vJ,vJ,vJ,vJ,vJ,vJ,vJ,vJ,vJ,vJ,vJ,vJ,vJ,vJ,vJ,vJ,vJ,vJ,vJ,vJ,vJ,vJ],[(0,.box [.rsl kb xs]),(1,.box [vS (xs.getD (ixO (fdB xs u.2.2.1)).toNat (edflt kb)).1,vI (xs.getD (ixO (fdB xs u.2.2.1)).toNat (edflt kb)).2.1,vS (xs.getD (ixO (fdB xs u.2.2.1)).toNat (edflt kb)).2.2.1,vS (xs.getD (ixO (fdB xs u.2.2.1)).toNat (edflt kb)).2.2.2.1,vS (xs.getD (ixO (fdB xs u.2.2.1)).toNat (edflt kb)).2.2.2.2.1,vS (xs.getD (ixO (fdB xs u.2.2.1)).toNat (edflt kb)).2.2.2.2.2.1,vS (xs.getD (ixO (fdB xs u.2.2.1)).toNat (edflt kb)).2.2.2.2.2.2.1,vS (xs.getD (ixO (fdB xs u.2.2.1)).toNat (edflt kb)).2.2.2.2.2.2.2.1,vS (xs.getD (ixO (fdB xs u.2.2.1)).toNat (edflt kb)).2.2.2.2.2.2.2.2.1,vS (xs.getD (ixO (fdB xs u.2.2.1)).toNat (edflt kb)).2.2.2.2.2.2.2.2.2.1,vS (xs.getD (ixO (fdB xs u.2.2.1)).toNat (edflt kb)).2.2.2.2.2.2.2.2.2.2.1])],1000000,[]⟩) False)) False)) False)) (R (some ⟨vB false,[],[]⟩))):=by kernel_rfl
theorem ldB_root{xs:List (Elem kb)}{m:Nat}{u:Elem kb}(h:strEq u.2.2.1 ⟨#[]⟩=true):ldB xs (m+1) u=(u.2.1==1):=by unfold ldB; rw [h]
theorem ldB_none{xs:List (Elem kb)}{m:Nat}{u:Elem kb}(h:strEq u.2.2.1 ⟨#[]⟩=false)(h2:fdB xs u.2.2.1=none):ldB xs (m+1) u=false:=by unfold ldB; rw [h,h2]
theorem ldB_some{xs:List (Elem kb)}{m:Nat}{u:Elem kb}{k:Nat}(h:strEq u.2.2.1 ⟨#[]⟩=false)(h2:fdB xs u.2.2.1=some k):ldB xs (m+1) u=match (atB xs k).2.1==u.2.1 with | true=>false | false=>ldB xs m (atB xs k):=by
  conv=>lhs; unfold ldB
  rw [h,h2]
theorem rtB_root{xs:List (Elem kb)}{m:Nat}{u:Elem kb}(h:strEq u.2.2.1 ⟨#[]⟩=true):rtB xs (m+1) u=(u.2.1==1):=by unfold rtB; rw [h]
theorem rtB_none{xs:List (Elem kb)}{m:Nat}{u:Elem kb}(h:strEq u.2.2.1 ⟨#[]⟩=false)(h2:okB xs u.2.2.1=false):rtB xs (m+1) u=false:=by unfold rtB; rw [h,h2]
theorem rtB_some{xs:List (Elem kb)}{m:Nat}{u:Elem kb}(h:strEq u.2.2.1 ⟨#[]⟩=false)(h2:okB xs u.2.2.1=true):rtB xs (m+1) u=match (atB xs (lnB xs u.2.2.1)).2.1==u.2.1 with | true=>false | false=>rtB xs m (atB xs (lnB xs u.2.2.1)):=by
  conv=>lhs; unfold rtB
  rw [h,h2]
theorem fdB_lt{xs:List (Elem kb)}{t:ByteArray}{k:Nat}(h:fdB xs t=some k):k < xs.length:=by
  unfold fdB fd at h
  have:=List.mem_of_find?_eq_some h
  simpa using this
theorem h176:G1Ok Tryz.prog 176 g176:=by
  intro args obs k h
  unfold g176 at h
  split at h
  · rename_i k xs us
    split at h
    rotate_left
    · exact h.elim
    rename_i s hs
    obtain rfl:=elemOf_inv hs
    obtain ⟨hl,h⟩:=br_and h
    have hl':=of_decide_eq_true hl
    refine ⟨_,ctr_fn ok0 hg176 Tryz.func176 (by kernel_rfl) (by kernel_rfl) (by kernel_rfl) fun C => ?_,h⟩
    show bodyP E0 G176 _ Tryz.f176 [.agg [.rsl kb xs],.agg (setC s)] [] _
    rw [e176]
    refine loopUp okf176 hg176 (fun i u=>st176 xs s u i) xs.length (fun i u=>ldB xs (xs.length - i) u=ldB xs xs.length s) (fun N i u hi hu next => ?_) s rfl
    show evP E176 G176 _ (lp176 2) (st176 xs s u i) (rk176 _ _ 2 _)
    rw [b176,wrap_id (n:=(i:Int)+1) (by omega) (by omega)]
    refine br_dec (fun h2 => ?_) (fun h2 => ?_)
    · have e:xs.length - i=(xs.length - (i+1))+1:=by omega
      rw [e] at hu
      refine br_intro (fun h3 => ?_) (fun h3=>br_t hl ?_)
      · rw [ldB_root h3] at hu
        show _=_
        rw [← hu]
      cases hf:fdB xs u.2.2.1 with
      | none =>
        rw [ldB_none h3 hf] at hu
        refine br_yes (by decide) ?_
        show _=_
        rw [← hu]
      | some k =>
        rw [ldB_some h3 hf] at hu
        have hk:=fdB_lt hf
        have e1:ixO (some k)=(k:Int):=rfl
        rw [e1,Int.toNat_natCast]
        refine br_no (by omega) (br_yes ⟨by omega,by omega⟩ (br_intro (fun h4 => ?_) (fun h4=>br_yes ⟨by omega,by omega⟩ ?_)))
        · have h4':((atB xs k).2.1==u.2.1)=true:=h4
          rw [h4'] at hu
          show _=_
          rw [← hu]
        · have h4':((atB xs k).2.1==u.2.1)=false:=h4
          rw [h4'] at hu
          exact next (by omega) (atB xs k) hu
    · have e:xs.length - i=0:=by omega
      rw [e] at hu
      show _=_
      rw [← hu]
      rfl
  · exact h.elim
noncomputable def E168:Env:=E0.of Tryz.f168
noncomputable def G168:Gk:=gk [(216,g216)]
noncomputable def lp168(n:Nat):Code:=(loopOf n (codeOf Tryz.f168)).getD .skip
noncomputable def ct168(L:Lp)(R:Rp)(n:Nat):Kt:=contOf E168 G168 L n (codeOf Tryz.f168) (endK E168 Tryz.f168.results.toList R)
noncomputable def rk168(L:Lp)(R:Rp)(n:Nat)(N:St→Prop):Kt:=rk (jof E168 (lp168 n)) N (ct168 L R n)
noncomputable def LOOP168(L:Lp)(R:Rp)(n:Nat)(st:St):Prop:=L (lp168 n) st (ct168 L R n)
theorem hg168:HG Tryz.prog G168:=(hg_cons h216 hg_nil)
theorem okf168:Ok Tryz.prog E168:=ok0.of Tryz.f168
theorem e168(L:Lp)(R:Rp)(xs:List (Elem kb))(s:Elem kb):(bodyP E0 G168 L Tryz.f168 [.agg [.rsl kb xs],.agg (setC s)] [] R)=(
    LOOP168 L R 2 ⟨[.agg [.rsl kb xs],.agg [vS s.1,vI s.2.1,vS s.2.2.1,vS s.2.2.2.1,vS s.2.2.2.2.1,vS s.2.2.2.2.2.1,vS s.2.2.2.2.2.2.1,vS s.2.2.2.2.2.2.2.1,vS s.2.2.2.2.2.2.2.2.1,vS s.2.2.2.2.2.2.2.2.2.1,vS s.2.2.2.2.2.2.2.2.2.2.1],.ptr 0 0,.ptr 1 0,vB false,vI 0,vJ,vJ,vJ,vJ,vJ,vJ,vJ,vJ,vJ,vJ,vJ,vJ,vJ,vJ,vJ,vJ,vJ,vJ,vJ,vJ,vJ,vJ,vJ,vJ,vJ,vJ,vJ,vJ,vJ,vJ,vJ,vJ,vJ,vJ,vJ,vJ,vJ,vJ,vJ,vJ],[(0,.box [.rsl kb xs]),(1,.box [vS s.1,vI s.2.1,vS s.2.2.1,vS s.2.2.2.1,vS s.2.2.2.2.1,vS s.2.2.2.2.2.1,vS s.2.2.2.2.2.2.1,vS s.2.2.2.2.2.2.2.1,vS s.2.2.2.2.2.2.2.2.1,vS s.2.2.2.2.2.2.2.2.2.1,vS s.2.2.2.2.2.2.2.2.2.2.1])],1000000,[]⟩):=by kernel_rfl
def st168(xs:List (Elem kb))(s u:Elem kb)(i:Int):St :=  ⟨[AV.agg [AV.rsl kb xs],AV.agg [vS s.fst,vI s.snd.fst,vS s.snd.snd.fst,vS s.snd.snd.snd.fst,vS s.snd.snd.snd.snd.fst,vS s.snd.snd.snd.snd.snd.fst,vS s.snd.snd.snd.snd.snd.snd.fst,vS s.snd.snd.snd.snd.snd.snd.snd.fst,vS s.snd.snd.snd.snd.snd.snd.snd.snd.fst,vS s.snd.snd.snd.snd.snd.snd.snd.snd.snd.fst,vS s.snd.snd.snd.snd.snd.snd.snd.snd.snd.snd.fst],AV.ptr 0 0,AV.ptr 1 0,vB false,.val (.int .i64 i),vJ,vJ,vJ,vJ,vJ,vJ,vJ,vJ,vJ,vJ,vJ,vJ,vJ,vJ,vJ,vJ,vJ,vJ,vJ,vJ,vJ,vJ,vJ,vJ,vJ,vJ,vJ,vJ,vJ,vJ,vJ,vJ,vJ,vJ,vJ,vJ,vJ,vJ,vJ,vJ],[(0,AO.box [AV.rsl kb xs]),(1,.box (setC u))],1000000,[]⟩
theorem b168(L:Lp)(R:Rp)(N:St→Prop)(xs:List (Elem kb))(s u:Elem kb)(i:Int):(evP E168 G168 L (lp168 2) (st168 xs s u i) (rk168 L R 2 N))=(
    br (decide (i≤(↑xs.length:Int))) (br (strEq u.2.2.1 { data := #[] }) (R (some ⟨vB (u.2.1==1),[],[]⟩)) (br (decide (xs.length≤1048576)) (br (!okB xs u.2.2.1) (R (some ⟨vB false,[],[]⟩)) (br (decide (0≤(↑(lnB xs u.2.2.1):Int)∧(↑(lnB xs u.2.2.1):Int) < (↑xs.length:Int))) (br ((xs.getD (↑(lnB xs u.2.2.1):Int).toNat (edflt kb)).2.1==u.2.1) (R (some ⟨vB false,[],[]⟩)) (br (decide (0≤(↑(lnB xs u.2.2.1):Int)∧(↑(lnB xs u.2.2.1):Int) < (↑xs.length:Int))) (N ⟨[.agg [.rsl kb xs],.agg [vS s.1,vI s.2.1,vS s.2.2.1,vS s.2.2.2.1,vS s.2.2.2.2.1,vS s.2.2.2.2.2.1,vS s.2.2.2.2.2.2.1,vS s.2.2.2.2.2.2.2.1,vS s.2.2.2.2.2.2.2.2.1,vS s.2.2.2.2.2.2.2.2.2.1,vS s.2.2.2.2.2.2.2.2.2.2.1],.ptr 0 0,.ptr 1 0,vB false,vI (IntKind.i64.wrap (i+1)),vJ,vJ,vJ,vJ,vJ,vJ,vJ,vJ,vJ,vJ,vJ,vJ,vJ,vJ,vJ,vJ,vJ,vJ,vJ,vJ,vJ,vJ,vJ,vJ,vJ,vJ,vJ,vJ,vJ,vJ,vJ,vJ,vJ,vJ,vJ,vJ,vJ,vJ,vJ,vJ],[(0,.box [.rsl kb xs]),(1,.box [vS (xs.getD (↑(lnB xs u.2.2.1):Int).toNat (edflt kb)).1,vI (xs.getD (↑(lnB xs u.2.2.1):Int).toNat (edflt kb)).2.1,vS (xs.getD (↑(lnB xs u.2.2.1):Int).toNat (edflt kb)).2.2.1,vS (xs.getD (↑(lnB xs u.2.2.1):Int).toNat (edflt kb)).2.2.2.1,vS (xs.getD (↑(lnB xs u.2.2.1):Int).toNat (edflt kb)).2.2.2.2.1,vS (xs.getD (↑(lnB xs u.2.2.1):Int).toNat (edflt kb)).2.2.2.2.2.1,vS (xs.getD (↑(lnB xs u.2.2.1):Int).toNat (edflt kb)).2.2.2.2.2.2.1,vS (xs.getD (↑(lnB xs u.2.2.1):Int).toNat (edflt kb)).2.2.2.2.2.2.2.1,vS (xs.getD (↑(lnB xs u.2.2.1):Int).toNat (edflt kb)).2.2.2.2.2.2.2.2.1,vS (xs.getD (↑(lnB xs u.2.2.1):Int).toNat (edflt kb)).2.2.2.2.2.2.2.2.2.1,vS (xs.getD (↑(lnB xs u.2.2.1):Int).toNat (edflt kb)).2.2.2.2.2.2.2.2.2.2.1])],1000000,[]⟩) False)) False)) False)) (R (some ⟨vB false,[],[]⟩))):=by kernel_rfl
theorem h168:G1Ok Tryz.prog 168 g168:=by
  intro args obs k h
  unfold g168 at h
  split at h
  · rename_i k xs us
    split at h
    rotate_left
    · exact h.elim
    rename_i s hs
    obtain rfl:=elemOf_inv hs
    obtain ⟨hl,h⟩:=br_and h
    have hl':=of_decide_eq_true hl
    refine ⟨_,ctr_fn ok0 hg168 Tryz.func168 (by kernel_rfl) (by kernel_rfl) (by kernel_rfl) fun C => ?_,h⟩
    show bodyP E0 G168 _ Tryz.f168 [.agg [.rsl kb xs],.agg (setC s)] [] _
    rw [e168]
    refine loopUp okf168 hg168 (fun i u=>st168 xs s u i) (xs.length+1) (fun i u=>rtB xs (xs.length+1 - i) u=rtB xs (xs.length+1) s) (fun N i u hi hu next => ?_) s rfl
    show evP E168 G168 _ (lp168 2) (st168 xs s u i) (rk168 _ _ 2 _)
    rw [b168,wrap_id (n:=(i:Int)+1) (by omega) (by omega)]
    refine br_dec (fun h2 => ?_) (fun h2 => ?_)
    · have e:xs.length+1 - i=(xs.length - i)+1:=by omega
      rw [e] at hu
      refine br_intro (fun h3 => ?_) (fun h3=>br_t hl ?_)
      · rw [rtB_root h3] at hu
        show _=_
        rw [← hu]
      refine br_not (fun h4 => ?_) (fun h4 => ?_)
      · rw [rtB_none h3 h4] at hu
        show _=_
        rw [← hu]
      · rw [rtB_some h3 h4] at hu
        have hk:lnB xs u.2.2.1 < xs.length:=by
          unfold okB at h4
          simp only [Bool.and_eq_true,decide_eq_true_eq] at h4
          exact h4.1
        rw [Int.toNat_natCast]
        refine br_yes ⟨by omega,by omega⟩ (br_intro (fun h4 => ?_) (fun h4=>br_yes ⟨by omega,by omega⟩ ?_))
        · have h4':((atB xs (lnB xs u.2.2.1)).2.1==u.2.1)=true:=h4
          rw [h4'] at hu
          show _=_
          rw [← hu]
        · have h4':((atB xs (lnB xs u.2.2.1)).2.1==u.2.1)=false:=h4
          rw [h4'] at hu
          have e2:xs.length+1 - (i+1)=xs.length - i:=by omega
          exact next (by omega) (atB xs (lnB xs u.2.2.1)) (by rw [e2]; exact hu)
    · have e:xs.length+1 - i=0:=by omega
      rw [e] at hu
      show _=_
      rw [← hu]
      rfl
  · exact h.elim
end Go.Proofs.YtkjnijddbiconaaGreatDoor.Ev
