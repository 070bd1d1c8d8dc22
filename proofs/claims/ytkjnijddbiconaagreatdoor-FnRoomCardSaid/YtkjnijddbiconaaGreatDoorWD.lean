/- Sets of a core that are valid: contracts. -/
import Derived.Test.YtkjnijddbiconaaGreatDoorWC
import Derived.Test.YtkjnijddbiconaaGreatDoorD15
namespace Go.Proofs.YtkjnijddbiconaaGreatDoor.Ev
open Go
set_option linter.unusedVariables false
set_option linter.unusedSimpArgs false
set_option maxRecDepth 100000
def mps(e:Elem kc):List (Elem k3) := [(e.2.2.2.1,e.2.2.2.2.1,e.2.2.2.2.2.1,()),(e.2.2.2.2.2.2.1,e.2.2.2.2.2.2.2.1,e.2.2.2.2.2.2.2.2.1,()),(e.2.2.2.2.2.2.2.2.2.1,e.2.2.2.2.2.2.2.2.2.2.1,e.2.2.2.2.2.2.2.2.2.2.2.1,()),(e.2.2.2.2.2.2.2.2.2.2.2.2.1,e.2.2.2.2.2.2.2.2.2.2.2.2.2.1,e.2.2.2.2.2.2.2.2.2.2.2.2.2.2.1,()),(e.2.2.2.2.2.2.2.2.2.2.2.2.2.2.2.1,e.2.2.2.2.2.2.2.2.2.2.2.2.2.2.2.2.1,e.2.2.2.2.2.2.2.2.2.2.2.2.2.2.2.2.2.1,()),(e.2.2.2.2.2.2.2.2.2.2.2.2.2.2.2.2.2.2.1,e.2.2.2.2.2.2.2.2.2.2.2.2.2.2.2.2.2.2.2.1,e.2.2.2.2.2.2.2.2.2.2.2.2.2.2.2.2.2.2.2.2.1,()),(e.2.2.2.2.2.2.2.2.2.2.2.2.2.2.2.2.2.2.2.2.2.1,e.2.2.2.2.2.2.2.2.2.2.2.2.2.2.2.2.2.2.2.2.2.2.1,e.2.2.2.2.2.2.2.2.2.2.2.2.2.2.2.2.2.2.2.2.2.2.2.1,()),(e.2.2.2.2.2.2.2.2.2.2.2.2.2.2.2.2.2.2.2.2.2.2.2.2.1,e.2.2.2.2.2.2.2.2.2.2.2.2.2.2.2.2.2.2.2.2.2.2.2.2.2.1,e.2.2.2.2.2.2.2.2.2.2.2.2.2.2.2.2.2.2.2.2.2.2.2.2.2.2.1,())]
def hom(e:Elem kc):Elem k3:=(e.2.2.2.2.2.2.2.2.2.2.2.2.2.2.2.2.2.2.2.2.2.2.2.2.2.2.2.1,e.2.2.2.2.2.2.2.2.2.2.2.2.2.2.2.2.2.2.2.2.2.2.2.2.2.2.2.2.1,e.2.2.2.2.2.2.2.2.2.2.2.2.2.2.2.2.2.2.2.2.2.2.2.2.2.2.2.2.2.1,())
def setK(e:Elem kc):List AV := [.val (.string e.1),.val (.int .i64 e.2.1),.val (.string e.2.2.1),.val (.int .i64 e.2.2.2.1),.val (.int .i64 e.2.2.2.2.1),.val (.int .i64 e.2.2.2.2.2.1),.val (.int .i64 e.2.2.2.2.2.2.1),.val (.int .i64 e.2.2.2.2.2.2.2.1),.val (.int .i64 e.2.2.2.2.2.2.2.2.1),.val (.int .i64 e.2.2.2.2.2.2.2.2.2.1),.val (.int .i64 e.2.2.2.2.2.2.2.2.2.2.1),.val (.int .i64 e.2.2.2.2.2.2.2.2.2.2.2.1),.val (.int .i64 e.2.2.2.2.2.2.2.2.2.2.2.2.1),.val (.int .i64 e.2.2.2.2.2.2.2.2.2.2.2.2.2.1),.val (.int .i64 e.2.2.2.2.2.2.2.2.2.2.2.2.2.2.1),.val (.int .i64 e.2.2.2.2.2.2.2.2.2.2.2.2.2.2.2.1),.val (.int .i64 e.2.2.2.2.2.2.2.2.2.2.2.2.2.2.2.2.1),.val (.int .i64 e.2.2.2.2.2.2.2.2.2.2.2.2.2.2.2.2.2.1),.val (.int .i64 e.2.2.2.2.2.2.2.2.2.2.2.2.2.2.2.2.2.2.1),.val (.int .i64 e.2.2.2.2.2.2.2.2.2.2.2.2.2.2.2.2.2.2.2.1),.val (.int .i64 e.2.2.2.2.2.2.2.2.2.2.2.2.2.2.2.2.2.2.2.2.1),.val (.int .i64 e.2.2.2.2.2.2.2.2.2.2.2.2.2.2.2.2.2.2.2.2.2.1),.val (.int .i64 e.2.2.2.2.2.2.2.2.2.2.2.2.2.2.2.2.2.2.2.2.2.2.1),.val (.int .i64 e.2.2.2.2.2.2.2.2.2.2.2.2.2.2.2.2.2.2.2.2.2.2.2.1),.val (.int .i64 e.2.2.2.2.2.2.2.2.2.2.2.2.2.2.2.2.2.2.2.2.2.2.2.2.1),.val (.int .i64 e.2.2.2.2.2.2.2.2.2.2.2.2.2.2.2.2.2.2.2.2.2.2.2.2.2.1),.val (.int .i64 e.2.2.2.2.2.2.2.2.2.2.2.2.2.2.2.2.2.2.2.2.2.2.2.2.2.2.1),.val (.int .i64 e.2.2.2.2.2.2.2.2.2.2.2.2.2.2.2.2.2.2.2.2.2.2.2.2.2.2.2.1),.val (.int .i64 e.2.2.2.2.2.2.2.2.2.2.2.2.2.2.2.2.2.2.2.2.2.2.2.2.2.2.2.2.1),.val (.int .i64 e.2.2.2.2.2.2.2.2.2.2.2.2.2.2.2.2.2.2.2.2.2.2.2.2.2.2.2.2.2.1),.val (.bool e.2.2.2.2.2.2.2.2.2.2.2.2.2.2.2.2.2.2.2.2.2.2.2.2.2.2.2.2.2.2.1)]
abbrev atC(xs:List (Elem kc))(i:Nat):Elem kc:=xs.getD i (edflt kc)
abbrev atP(xs:List (Elem k3))(i:Nat):Elem k3:=xs.getD i (edflt k3)
def setV(e:Elem kc):Bool:=nameOk e.1&&(strEq e.2.2.1 ⟨#[]⟩ || nameOk e.2.2.1)&&(e.2.1==1 || e.2.1==2)&&pOk (hom e)&&allB 8 fun j=>pOk (atP (mps e) j)
def smC(e:Elem kc):Bool:=decide (e.1.size≤1048576)&&decide (e.2.2.1.size≤1048576)
def g108:G1
  | [.agg us],[],k=>match elemOf kc us with
    | some e=>br (smC e) (k ⟨.val (.bool (setV e)),[],[]⟩) False
    | none=>False
  | _,_,_=>False
def g199:G1
  | [.agg [.val (.int .i64 a),.val (.int .i64 b),.val (.int .i64 c)]],[],k=>k ⟨.val (.bool (!ptrOk a b c)),[],[]⟩
  | _,_,_=>False
def g197:G1
  | [.rsl [.int .i64,.int .i64,.int .i64] xs,.fn 199 []],[],k=>br (decide (xs.length≤1048576)) (k ⟨.val (.int .i64 (fIx xs.length fun i => !pOk (atP xs i))),[],[]⟩) False
  | _,_,_=>False
def g130:G1
  | [.rsl [.int .i64,.int .i64,.int .i64] xs,.fn 199 []],[],k=>br (decide (xs.length≤1048576)) (k ⟨.val (.bool (anyB xs.length fun i => !pOk (atP xs i))),[],[]⟩) False
  | _,_,_=>False
def g131:G1
  | [.agg [.val (.int .i64 a),.val (.int .i64 b),.val (.int .i64 c)]],[],k=>k ⟨.val (.bool (!realP a b c)),[],[]⟩
  | _,_,_=>False
def rOk(e:Elem k3):Bool:=realP e.1 e.2.1 e.2.2.1
def g197r:G1
  | [.rsl [.int .i64,.int .i64,.int .i64] xs,.fn 131 []],[],k=>br (decide (xs.length≤1048576)) (k ⟨.val (.int .i64 (fIx xs.length fun i => !rOk (atP xs i))),[],[]⟩) False
  | _,_,_=>False
def g130r:G1
  | [.rsl [.int .i64,.int .i64,.int .i64] xs,.fn 131 []],[],k=>br (decide (xs.length≤1048576)) (k ⟨.val (.bool (anyB xs.length fun i => !rOk (atP xs i))),[],[]⟩) False
  | _,_,_=>False
noncomputable def G199:Gk:=gk [(195,g195)]
theorem hg199:HG Tryz.prog G199:=(hg_cons h195 hg_nil)
theorem e199(L:Lp)(R:Rp)(a b c:Int):(bodyP Ef G199 L Tryz.f199 [.agg [.val (.int .i64 a),.val (.int .i64 b),.val (.int .i64 c)]] [] R)=(
    R (some ⟨vB !ptrOk a b c,[],[]⟩)):=by kernel_rfl
theorem h199:G1Ok Tryz.prog 199 g199:=by
  intro args obs k h
  unfold g199 at h
  split at h
  · rename_i k a b c
    refine ⟨_,ctr_fn okf hg199 Tryz.func199 (by kernel_rfl) (by kernel_rfl) (by kernel_rfl) fun C => ?_,h⟩
    rw [e199]
  · exact h.elim
noncomputable def G131:Gk:=gk [(121,g121)]
theorem hg131:HG Tryz.prog G131:=(hg_cons h121 hg_nil)
theorem e131(L:Lp)(R:Rp)(a b c:Int):(bodyP Ef G131 L Tryz.f131 [.agg [.val (.int .i64 a),.val (.int .i64 b),.val (.int .i64 c)]] [] R)=(
    R (some ⟨vB !realP a b c,[],[]⟩)):=by kernel_rfl
theorem h131:G1Ok Tryz.prog 131 g131:=by
  intro args obs k h
  unfold g131 at h
  split at h
  · rename_i k a b c
    refine ⟨_,ctr_fn okf hg131 Tryz.func131 (by kernel_rfl) (by kernel_rfl) (by kernel_rfl) fun C => ?_,h⟩
    rw [e131]
  · exact h.elim
noncomputable def E197:Env:=Ef.of Tryz.f197
noncomputable def G197:Gk:=gk [(199,g199)]
noncomputable def lp197(n:Nat):Code:=(loopOf n (codeOf Tryz.f197)).getD .skip
noncomputable def ct197(L:Lp)(R:Rp)(n:Nat):Kt:=contOf E197 G197 L n (codeOf Tryz.f197) (endK E197 Tryz.f197.results.toList R)
noncomputable def rk197(L:Lp)(R:Rp)(n:Nat)(N:St→Prop):Kt:=rk (jof E197 (lp197 n)) N (ct197 L R n)
noncomputable def LOOP197(L:Lp)(R:Rp)(n:Nat)(st:St):Prop:=L (lp197 n) st (ct197 L R n)
theorem hg197:HG Tryz.prog G197:=(hg_cons h199 hg_nil)
theorem okf197:Ok Tryz.prog E197:=okf.of Tryz.f197
theorem e197(L:Lp)(R:Rp)(xs:List (Elem k3)):(bodyP Ef G197 L Tryz.f197 [.rsl k3 xs,.fn 199 []] [] R)=(
    LOOP197 L R 2 ⟨[.rsl k3 xs,.fn 199 [],vJ,vJ,vJ,vJ,vJ,vI (↑xs.length:Int),vI 0,vJ,vJ,vJ,vJ,vJ,vJ,vJ,vJ,vJ,vJ],[],1000000,[]⟩):=by kernel_rfl
def st197(xs:List (Elem k3))(i:Int):St :=  ⟨[AV.rsl k3 xs,AV.fn 199 [],vJ,vJ,vJ,vJ,vJ,vI (↑xs.length:Int),.val (.int .i64 i),vJ,vJ,vJ,vJ,vJ,vJ,vJ,vJ,vJ,vJ],[],1000000,[]⟩
theorem b197(L:Lp)(R:Rp)(N:St→Prop)(xs:List (Elem k3))(i:Int):(evP E197 G197 L (lp197 2) (st197 xs i) (rk197 L R 2 N))=(
    br (decide (i < (↑xs.length:Int))) (br (decide (0≤i∧i < (↑xs.length:Int))) (br (!ptrOk (xs.getD i.toNat (edflt k3)).1 (xs.getD i.toNat (edflt k3)).2.1 (xs.getD i.toNat (edflt k3)).2.2.1) (R (some ⟨vI i,[],[]⟩)) (N ⟨[.rsl k3 xs,.fn 199 [],vJ,vJ,vJ,vJ,vJ,vI (↑xs.length:Int),vI (IntKind.i64.wrap (i+1)),vJ,vJ,vJ,vJ,vJ,vJ,vJ,vJ,vJ,vJ],[],1000000,[]⟩)) False) (R (some ⟨vI (-1),[],[]⟩))):=by kernel_rfl
theorem h197:G1Ok Tryz.prog 197 g197:=by
  intro args obs k h
  unfold g197 at h
  split at h
  · rename_i k xs
    obtain ⟨hl,h⟩:=brd h
    refine ⟨_,ctr_fn okf hg197 Tryz.func197 (by kernel_rfl) (by kernel_rfl) (by kernel_rfl) fun C => ?_,h⟩
    rw [e197]
    refine loopFind okf197 hg197 (fun i=>st197 xs i) xs.length (fun i => !pOk (atP xs i)) (by omega) (fun N i hi hw next found none => ?_)
    show evP E197 G197 _ (lp197 2) (st197 xs i) (rk197 _ _ 2 _)
    rw [b197,hw,Int.toNat_natCast]
    refine br_dec (fun h2=>br_yes ⟨by omega,h2⟩ (br_intro (fun h3 => ?_) (fun h3 => ?_))) (fun h2 => ?_)
    · show _=_
      rw [found (by omega) h3]
    · exact next (by omega) h3
    · show _=_
      rw [none (by omega)]
  · exact h.elim
noncomputable def G130:Gk:=gk [(197,g197)]
theorem hg130:HG Tryz.prog G130:=(hg_cons h197 hg_nil)
theorem e130(L:Lp)(R:Rp)(xs:List (Elem k3)):(bodyP Ef G130 L Tryz.f130 [.rsl k3 xs,.fn 199 []] [] R)=(
    br (decide (xs.length≤1048576)) (R (some ⟨vB (decide ((fIx xs.length fun i => !pOk (atP xs i))≥0)),[],[]⟩)) False):=by kernel_rfl
theorem h130:G1Ok Tryz.prog 130 g130:=by
  intro args obs k h
  unfold g130 at h
  split at h
  · rename_i k xs
    obtain ⟨hl,h⟩:=br_and h
    refine ⟨_,ctr_fn okf hg130 Tryz.func130 (by kernel_rfl) (by kernel_rfl) (by kernel_rfl) fun C => ?_,h⟩
    rw [e130]
    refine br_t hl ?_
    show _=_
    rw [fIx_ge]
  · exact h.elim
noncomputable def E197r:Env:=Ef.of Tryz.f197
noncomputable def G197r:Gk:=gk [(131,g131)]
noncomputable def lp197r(n:Nat):Code:=(loopOf n (codeOf Tryz.f197)).getD .skip
noncomputable def ct197r(L:Lp)(R:Rp)(n:Nat):Kt:=contOf E197r G197r L n (codeOf Tryz.f197) (endK E197r Tryz.f197.results.toList R)
noncomputable def rk197r(L:Lp)(R:Rp)(n:Nat)(N:St→Prop):Kt:=rk (jof E197r (lp197r n)) N (ct197r L R n)
noncomputable def LOOP197r(L:Lp)(R:Rp)(n:Nat)(st:St):Prop:=L (lp197r n) st (ct197r L R n)
theorem hg197r:HG Tryz.prog G197r:=(hg_cons h131 hg_nil)
theorem okf197r:Ok Tryz.prog E197r:=okf.of Tryz.f197
theorem e197r(L:Lp)(R:Rp)(xs:List (Elem k3)):(bodyP Ef G197r L Tryz.f197 [.rsl k3 xs,.fn 131 []] [] R)=(
    LOOP197r L R 2 ⟨[.rsl k3 xs,.fn 131 [],vJ,vJ,vJ,vJ,vJ,vI (↑xs.length:Int),vI 0,vJ,vJ,vJ,vJ,vJ,vJ,vJ,vJ,vJ,vJ],[],1000000,[]⟩):=by kernel_rfl
def st197r(xs:List (Elem k3))(i:Int):St :=  ⟨[AV.rsl k3 xs,AV.fn 131 [],vJ,vJ,vJ,vJ,vJ,vI (↑xs.length:Int),.val (.int .i64 i),vJ,vJ,vJ,vJ,vJ,vJ,vJ,vJ,vJ,vJ],[],1000000,[]⟩
theorem b197r(L:Lp)(R:Rp)(N:St→Prop)(xs:List (Elem k3))(i:Int):(evP E197r G197r L (lp197r 2) (st197r xs i) (rk197r L R 2 N))=(
    br (decide (i < (↑xs.length:Int))) (br (decide (0≤i∧i < (↑xs.length:Int))) (br (!realP (xs.getD i.toNat (edflt k3)).1 (xs.getD i.toNat (edflt k3)).2.1 (xs.getD i.toNat (edflt k3)).2.2.1) (R (some ⟨vI i,[],[]⟩)) (N ⟨[.rsl k3 xs,.fn 131 [],vJ,vJ,vJ,vJ,vJ,vI (↑xs.length:Int),vI (IntKind.i64.wrap (i+1)),vJ,vJ,vJ,vJ,vJ,vJ,vJ,vJ,vJ,vJ],[],1000000,[]⟩)) False) (R (some ⟨vI (-1),[],[]⟩))):=by kernel_rfl
theorem h197r:G1Ok Tryz.prog 197 g197r:=by
  intro args obs k h
  unfold g197r at h
  split at h
  · rename_i k xs
    obtain ⟨hl,h⟩:=brd h
    refine ⟨_,ctr_fn okf hg197r Tryz.func197 (by kernel_rfl) (by kernel_rfl) (by kernel_rfl) fun C => ?_,h⟩
    rw [e197r]
    refine loopFind okf197r hg197r (fun i=>st197r xs i) xs.length (fun i => !rOk (atP xs i)) (by omega) (fun N i hi hw next found none => ?_)
    show evP E197r G197r _ (lp197r 2) (st197r xs i) (rk197r _ _ 2 _)
    rw [b197r,hw,Int.toNat_natCast]
    refine br_dec (fun h2=>br_yes ⟨by omega,h2⟩ (br_intro (fun h3 => ?_) (fun h3 => ?_))) (fun h2 => ?_)
    · show _=_
      rw [found (by omega) h3]
    · exact next (by omega) h3
    · show _=_
      rw [none (by omega)]
  · exact h.elim
noncomputable def G130r:Gk:=gk [(197,g197r)]
theorem hg130r:HG Tryz.prog G130r:=(hg_cons h197r hg_nil)
theorem e130r(L:Lp)(R:Rp)(xs:List (Elem k3)):(bodyP Ef G130r L Tryz.f130 [.rsl k3 xs,.fn 131 []] [] R)=(
    br (decide (xs.length≤1048576)) (R (some ⟨vB (decide ((fIx xs.length fun i => !rOk (atP xs i))≥0)),[],[]⟩)) False):=by kernel_rfl
theorem h130r:G1Ok Tryz.prog 130 g130r:=by
  intro args obs k h
  unfold g130r at h
  split at h
  · rename_i k xs
    obtain ⟨hl,h⟩:=br_and h
    refine ⟨_,ctr_fn okf hg130r Tryz.func130 (by kernel_rfl) (by kernel_rfl) (by kernel_rfl) fun C => ?_,h⟩
    rw [e130r]
    refine br_t hl ?_
    show _=_
    rw [fIx_ge]
  · exact h.elim
noncomputable def E108:Env:=Ef.of Tryz.f108
noncomputable def G108:Gk:=gk [(167,g167),(109,g195)]
noncomputable def lp108(n:Nat):Code:=(loopOf n (codeOf Tryz.f108)).getD .skip
noncomputable def ct108(L:Lp)(R:Rp)(n:Nat):Kt:=contOf E108 G108 L n (codeOf Tryz.f108) (endK E108 Tryz.f108.results.toList R)
noncomputable def rk108(L:Lp)(R:Rp)(n:Nat)(N:St→Prop):Kt:=rk (jof E108 (lp108 n)) N (ct108 L R n)
noncomputable def LOOP108(L:Lp)(R:Rp)(n:Nat)(st:St):Prop:=L (lp108 n) st (ct108 L R n)
theorem hg108:HG Tryz.prog G108:=(hg_cons h167 (hg_cons h109 hg_nil))
theorem okf108:Ok Tryz.prog E108:=okf.of Tryz.f108
theorem e108(L:Lp)(R:Rp)(e:Elem kc):(bodyP Ef G108 L Tryz.f108 [.agg (setK e)] [] R)=(
    br (decide (ByteArray.size e.1≤1048576)) (br (!nameOk e.1) (R (some ⟨vB false,[],[]⟩)) (br (!strEq e.2.2.1 { data := #[] }) (br (decide (ByteArray.size e.2.2.1≤1048576)) (br (!nameOk e.2.2.1) (R (some ⟨vB false,[],[]⟩)) (br (decide (e.2.1 < 1)) (R (some ⟨vB false,[],[]⟩)) (br (decide (e.2.1 > 2)) (R (some ⟨vB false,[],[]⟩)) (br (!ptrOk e.2.2.2.2.2.2.2.2.2.2.2.2.2.2.2.2.2.2.2.2.2.2.2.2.2.2.2.1 e.2.2.2.2.2.2.2.2.2.2.2.2.2.2.2.2.2.2.2.2.2.2.2.2.2.2.2.2.1 e.2.2.2.2.2.2.2.2.2.2.2.2.2.2.2.2.2.2.2.2.2.2.2.2.2.2.2.2.2.1) (R (some ⟨vB false,[],[]⟩)) (LOOP108 L R 4 ⟨(vJ :: .ptr 0 0 :: vJ :: vI 0 :: jn 41 []),[(0,.box (setK e))],1000000,[]⟩))))) False) (br (decide (e.2.1 < 1)) (R (some ⟨vB false,[],[]⟩)) (br (decide (e.2.1 > 2)) (R (some ⟨vB false,[],[]⟩)) (br (!ptrOk e.2.2.2.2.2.2.2.2.2.2.2.2.2.2.2.2.2.2.2.2.2.2.2.2.2.2.2.1 e.2.2.2.2.2.2.2.2.2.2.2.2.2.2.2.2.2.2.2.2.2.2.2.2.2.2.2.2.1 e.2.2.2.2.2.2.2.2.2.2.2.2.2.2.2.2.2.2.2.2.2.2.2.2.2.2.2.2.2.1) (R (some ⟨vB false,[],[]⟩)) (LOOP108 L R 4 ⟨(vJ :: .ptr 0 0 :: vJ :: vI 0 :: jn 41 []),[(0,.box (setK e))],1000000,[]⟩)))))) False):=by kernel_rfl
def st108(e:Elem kc)(j:Int):St :=  ⟨(vJ :: AV.ptr 0 0 :: vJ :: .val (.int .i64 j) :: jn 41 []),[(0,AO.box (setK e))],1000000,[]⟩
theorem b108_0(L:Lp)(R:Rp)(N:St→Prop)(e:Elem kc):(evP E108 G108 L (lp108 4) (st108 e 0) (rk108 L R 4 N))=(
    br (!ptrOk e.2.2.2.1 e.2.2.2.2.1 e.2.2.2.2.2.1) (R (some ⟨vB false,[],[]⟩)) (N (st108 e 1))):=by kernel_rfl
theorem b108_1(L:Lp)(R:Rp)(N:St→Prop)(e:Elem kc):(evP E108 G108 L (lp108 4) (st108 e 1) (rk108 L R 4 N))=(
    br (!ptrOk e.2.2.2.2.2.2.1 e.2.2.2.2.2.2.2.1 e.2.2.2.2.2.2.2.2.1) (R (some ⟨vB false,[],[]⟩)) (N (st108 e 2))):=by kernel_rfl
theorem b108_2(L:Lp)(R:Rp)(N:St→Prop)(e:Elem kc):(evP E108 G108 L (lp108 4) (st108 e 2) (rk108 L R 4 N))=(
    br (!ptrOk e.2.2.2.2.2.2.2.2.2.1 e.2.2.2.2.2.2.2.2.2.2.1 e.2.2.2.2.2.2.2.2.2.2.2.1) (R (some ⟨vB false,[],[]⟩)) (N (st108 e 3))):=by kernel_rfl
theorem b108_3(L:Lp)(R:Rp)(N:St→Prop)(e:Elem kc):(evP E108 G108 L (lp108 4) (st108 e 3) (rk108 L R 4 N))=(
    br (!ptrOk e.2.2.2.2.2.2.2.2.2.2.2.2.1 e.2.2.2.2.2.2.2.2.2.2.2.2.2.1 e.2.2.2.2.2.2.2.2.2.2.2.2.2.2.1) (R (some ⟨vB false,[],[]⟩)) (N (st108 e 4))):=by kernel_rfl
theorem b108_4(L:Lp)(R:Rp)(N:St→Prop)(e:Elem kc):(evP E108 G108 L (lp108 4) (st108 e 4) (rk108 L R 4 N))=(
    br (!ptrOk e.2.2.2.2.2.2.2.2.2.2.2.2.2.2.2.1 e.2.2.2.2.2.2.2.2.2.2.2.2.2.2.2.2.1 e.2.2.2.2.2.2.2.2.2.2.2.2.2.2.2.2.2.1) (R (some ⟨vB false,[],[]⟩)) (N (st108 e 5))):=by kernel_rfl
theorem b108_5(L:Lp)(R:Rp)(N:St→Prop)(e:Elem kc):(evP E108 G108 L (lp108 4) (st108 e 5) (rk108 L R 4 N))=(
    br (!ptrOk e.2.2.2.2.2.2.2.2.2.2.2.2.2.2.2.2.2.2.1 e.2.2.2.2.2.2.2.2.2.2.2.2.2.2.2.2.2.2.2.1 e.2.2.2.2.2.2.2.2.2.2.2.2.2.2.2.2.2.2.2.2.1) (R (some ⟨vB false,[],[]⟩)) (N (st108 e 6))):=by kernel_rfl
theorem b108_6(L:Lp)(R:Rp)(N:St→Prop)(e:Elem kc):(evP E108 G108 L (lp108 4) (st108 e 6) (rk108 L R 4 N))=(
    br (!ptrOk e.2.2.2.2.2.2.2.2.2.2.2.2.2.2.2.2.2.2.2.2.2.1 e.2.2.2.2.2.2.2.2.2.2.2.2.2.2.2.2.2.2.2.2.2.2.1 e.2.2.2.2.2.2.2.2.2.2.2.2.2.2.2.2.2.2.2.2.2.2.2.1) (R (some ⟨vB false,[],[]⟩)) (N (st108 e 7))):=by kernel_rfl
theorem b108_7(L:Lp)(R:Rp)(N:St→Prop)(e:Elem kc):(evP E108 G108 L (lp108 4) (st108 e 7) (rk108 L R 4 N))=(
    br (!ptrOk e.2.2.2.2.2.2.2.2.2.2.2.2.2.2.2.2.2.2.2.2.2.2.2.2.1 e.2.2.2.2.2.2.2.2.2.2.2.2.2.2.2.2.2.2.2.2.2.2.2.2.2.1 e.2.2.2.2.2.2.2.2.2.2.2.2.2.2.2.2.2.2.2.2.2.2.2.2.2.2.1) (R (some ⟨vB false,[],[]⟩)) (N (st108 e 8))):=by kernel_rfl
theorem b108_8(L:Lp)(R:Rp)(N:St→Prop)(e:Elem kc):(evP E108 G108 L (lp108 4) (st108 e 8) (rk108 L R 4 N))=(
    R (some ⟨vB true,[],[]⟩)):=by kernel_rfl
theorem setV_n{e:Elem kc}(h:nameOk e.1=false):setV e=false:=by unfold setV; rw [h]; rfl
theorem setV_f{e:Elem kc}(h:(strEq e.2.2.1 ⟨#[]⟩ || nameOk e.2.2.1)=false):setV e=false:=by unfold setV; rw [h]; simp
theorem setV_k{e:Elem kc}(h:(e.2.1==1 || e.2.1==2)=false):setV e=false:=by unfold setV; rw [h]; simp
theorem setV_h{e:Elem kc}(h:pOk (hom e)=false):setV e=false:=by unfold setV; rw [h]; simp
theorem setV_b{e:Elem kc}(h:(allB 8 fun j=>pOk (atP (mps e) j))=false):setV e=false:=by unfold setV; rw [h]; simp
theorem setV_t{e:Elem kc}(h1:nameOk e.1=true)(h2:(strEq e.2.2.1 ⟨#[]⟩ || nameOk e.2.2.1)=true)(h3:(e.2.1==1 || e.2.1==2)=true)(h4:pOk (hom e)=true)(h5:(allB 8 fun j=>pOk (atP (mps e) j))=true):setV e=true:=by
  unfold setV
  rw [h1,h2,h3,h4,h5]
  rfl
theorem h108:G1Ok Tryz.prog 108 g108:=by
  intro args obs k h
  unfold g108 at h
  split at h
  · rename_i k us
    split at h
    rotate_left
    · exact h.elim
    rename_i e he
    obtain rfl:=elemOf_inv he
    obtain ⟨hs,h⟩:=br_and h
    unfold smC at hs
    rw [Bool.and_eq_true] at hs
    refine ⟨_,ctr_fn okf hg108 Tryz.func108 (by kernel_rfl) (by kernel_rfl) (by kernel_rfl) fun C => ?_,h⟩
    show bodyP Ef G108 _ Tryz.f108 [.agg (setK e)] [] _
    rw [e108]
    refine br_t hs.1 (br_not (fun h1 => ?_) (fun h1=>(fun (tail:(strEq e.2.2.1 ⟨#[]⟩ || nameOk e.2.2.1)=true→_)=>br_not (fun h2=>br_t hs.2 (br_not (fun h3 => ?_) (fun h3=>tail ?_))) (fun h2=>tail ?_)) (fun hf => ?_)))
    · show _=_
      rw [setV_n h1]
    · show _=_
      rw [setV_f (by rw [h2,h3]; rfl)]
    · rw [h3,Bool.or_true]
    · rw [h2,Bool.true_or]
    refine br_dec (fun h4 => ?_) (fun h4=>br_dec (fun h5 => ?_) (fun h5=>br_not (fun h6 => ?_) (fun h6 => ?_)))
    · show _=_
      rw [setV_k (kindF (.inl h4))]
    · show _=_
      rw [setV_k (kindF (.inr h5))]
    · show _=_
      rw [setV_h h6]
    refine loopAll okf108 hg108 (st108 e) 8 (fun j=>pOk (atP (mps e) j)) (by omega) (fun N j hj hw next fails done => ?_)
    have cs:j=0∨j=1∨j=2∨j=3∨j=4∨j=5∨j=6∨j=7∨j=8:=by omega
    rcases cs with rfl | rfl | rfl | rfl | rfl | rfl | rfl | rfl | rfl
    · show evP E108 G108 _ (lp108 4) (st108 e 0) (rk108 _ _ 4 _)
      rw [b108_0]
      refine br_not (fun h7 => ?_) (fun h7=>next (by omega) h7)
      show _=_
      rw [setV_b (fails (by omega) h7)]
    · show evP E108 G108 _ (lp108 4) (st108 e 1) (rk108 _ _ 4 _)
      rw [b108_1]
      refine br_not (fun h7 => ?_) (fun h7=>next (by omega) h7)
      show _=_
      rw [setV_b (fails (by omega) h7)]
    · show evP E108 G108 _ (lp108 4) (st108 e 2) (rk108 _ _ 4 _)
      rw [b108_2]
      refine br_not (fun h7 => ?_) (fun h7=>next (by omega) h7)
      show _=_
      rw [setV_b (fails (by omega) h7)]
    · show evP E108 G108 _ (lp108 4) (st108 e 3) (rk108 _ _ 4 _)
      rw [b108_3]
      refine br_not (fun h7 => ?_) (fun h7=>next (by omega) h7)
      show _=_
      rw [setV_b (fails (by omega) h7)]
    · show evP E108 G108 _ (lp108 4) (st108 e 4) (rk108 _ _ 4 _)
      rw [b108_4]
      refine br_not (fun h7 => ?_) (fun h7=>next (by omega) h7)
      show _=_
      rw [setV_b (fails (by omega) h7)]
    · show evP E108 G108 _ (lp108 4) (st108 e 5) (rk108 _ _ 4 _)
      rw [b108_5]
      refine br_not (fun h7 => ?_) (fun h7=>next (by omega) h7)
      show _=_
      rw [setV_b (fails (by omega) h7)]
    · show evP E108 G108 _ (lp108 4) (st108 e 6) (rk108 _ _ 4 _)
      rw [b108_6]
      refine br_not (fun h7 => ?_) (fun h7=>next (by omega) h7)
      show _=_
      rw [setV_b (fails (by omega) h7)]
    · show evP E108 G108 _ (lp108 4) (st108 e 7) (rk108 _ _ 4 _)
      rw [b108_7]
      refine br_not (fun h7 => ?_) (fun h7=>next (by omega) h7)
      show _=_
      rw [setV_b (fails (by omega) h7)]
    · show evP E108 G108 _ (lp108 4) (st108 e 8) (rk108 _ _ 4 _)
      rw [b108_8]
      show _=_
      rw [setV_t h1 hf (kindT h4 h5) h6 (done (by omega))]
  · exact h.elim
noncomputable def G134:Gk:=gk [(172,g167),(195,g195),(130,g130)]
theorem hg134:HG Tryz.prog G134:=(hg_cons h172 (hg_cons h195 (hg_cons h130 hg_nil)))
theorem e134(L:Lp)(R:Rp)(e:Elem kc):(bodyP Ef G134 L Tryz.f134 [.agg (setK e)] [] R)=(
    br (decide (ByteArray.size e.1≤1048576)) (br (!nameOk e.1) (R (some ⟨vB false,[],[]⟩)) (br (!strEq e.2.2.1 { data := #[] }) (br (decide (ByteArray.size e.2.2.1≤1048576)) (br (!nameOk e.2.2.1) (R (some ⟨vB false,[],[]⟩)) (br (e.2.1 != 1) (br (e.2.1 != 2) (R (some ⟨vB false,[],[]⟩)) (br (!ptrOk e.2.2.2.2.2.2.2.2.2.2.2.2.2.2.2.2.2.2.2.2.2.2.2.2.2.2.2.1 e.2.2.2.2.2.2.2.2.2.2.2.2.2.2.2.2.2.2.2.2.2.2.2.2.2.2.2.2.1 e.2.2.2.2.2.2.2.2.2.2.2.2.2.2.2.2.2.2.2.2.2.2.2.2.2.2.2.2.2.1) (R (some ⟨vB false,[],[]⟩)) (R (some ⟨vB !anyB (mps e).length fun i => !pOk (atP (mps e) i),[],[]⟩)))) (br (!ptrOk e.2.2.2.2.2.2.2.2.2.2.2.2.2.2.2.2.2.2.2.2.2.2.2.2.2.2.2.1 e.2.2.2.2.2.2.2.2.2.2.2.2.2.2.2.2.2.2.2.2.2.2.2.2.2.2.2.2.1 e.2.2.2.2.2.2.2.2.2.2.2.2.2.2.2.2.2.2.2.2.2.2.2.2.2.2.2.2.2.1) (R (some ⟨vB false,[],[]⟩)) (R (some ⟨vB !anyB (mps e).length fun i => !pOk (atP (mps e) i),[],[]⟩))))) False) (br (e.2.1 != 1) (br (e.2.1 != 2) (R (some ⟨vB false,[],[]⟩)) (br (!ptrOk e.2.2.2.2.2.2.2.2.2.2.2.2.2.2.2.2.2.2.2.2.2.2.2.2.2.2.2.1 e.2.2.2.2.2.2.2.2.2.2.2.2.2.2.2.2.2.2.2.2.2.2.2.2.2.2.2.2.1 e.2.2.2.2.2.2.2.2.2.2.2.2.2.2.2.2.2.2.2.2.2.2.2.2.2.2.2.2.2.1) (R (some ⟨vB false,[],[]⟩)) (R (some ⟨vB !anyB (mps e).length fun i => !pOk (atP (mps e) i),[],[]⟩)))) (br (!ptrOk e.2.2.2.2.2.2.2.2.2.2.2.2.2.2.2.2.2.2.2.2.2.2.2.2.2.2.2.1 e.2.2.2.2.2.2.2.2.2.2.2.2.2.2.2.2.2.2.2.2.2.2.2.2.2.2.2.2.1 e.2.2.2.2.2.2.2.2.2.2.2.2.2.2.2.2.2.2.2.2.2.2.2.2.2.2.2.2.2.1) (R (some ⟨vB false,[],[]⟩)) (R (some ⟨vB !anyB (mps e).length fun i => !pOk (atP (mps e) i),[],[]⟩)))))) False):=by kernel_rfl
theorem any8p(e:Elem kc):(anyB (mps e).length fun j => !pOk (atP (mps e) j)) = !allB 8 fun j=>pOk (atP (mps e) j):=by
  rw [anyB_all]
  congr 1
  refine allB_congr fun j hj => ?_
  rw [Bool.not_not]
theorem h134:G1Ok Tryz.prog 134 g108:=by
  intro args obs k h
  unfold g108 at h
  split at h
  · rename_i k us
    split at h
    rotate_left
    · exact h.elim
    rename_i e he
    obtain rfl:=elemOf_inv he
    obtain ⟨hs,h⟩:=br_and h
    unfold smC at hs
    rw [Bool.and_eq_true] at hs
    refine ⟨_,ctr_fn okf hg134 Tryz.func134 (by kernel_rfl) (by kernel_rfl) (by kernel_rfl) fun C => ?_,h⟩
    show bodyP Ef G134 _ Tryz.f134 [.agg (setK e)] [] _
    rw [e134]
    refine br_t hs.1 (br_not (fun h1 => ?_) (fun h1=>(fun (tail:(strEq e.2.2.1 ⟨#[]⟩ || nameOk e.2.2.1)=true→_)=>br_not (fun h2=>br_t hs.2 (br_not (fun h3 => ?_) (fun h3=>tail ?_))) (fun h2=>tail ?_)) (fun hf => ?_)))
    · show _=_
      rw [setV_n h1]
    · show _=_
      rw [setV_f (by rw [h2,h3]; rfl)]
    · rw [h3,Bool.or_true]
    · rw [h2,Bool.true_or]
    refine (fun (tail:(e.2.1==1 || e.2.1==2)=true→_)=>br_bne (fun h5=>br_bne (fun h6 => ?_) (fun h6=>tail ?_)) (fun h5=>tail ?_)) (fun hk=>br_not (fun h6 => ?_) (fun h6 => ?_))
    · show _=_
      rw [setV_k (by rw [h5,h6]; rfl)]
    · rw [h6,Bool.or_true]
    · rw [h5,Bool.true_or]
    · show _=_
      rw [setV_h h6]
    · show _=_
      rw [any8p,Bool.not_not]
      cases h7:allB 8 fun j=>pOk (atP (mps e) j) with
      | false=>rw [setV_b h7]
      | true=>rw [setV_t h1 hf hk h6 h7]
  · exact h.elim
def bkOf(e:Elem kc):Elem kb:=(e.1,e.2.1,e.2.2.1,ByteArray.empty,ByteArray.empty,ByteArray.empty,ByteArray.empty,ByteArray.empty,ByteArray.empty,ByteArray.empty,ByteArray.empty,())
def bkS(s:List (Elem kc)):List (Elem kb):=s.map bkOf
def g80:G1
  | [.agg us],[],k=>match coreOf us with
    | some c=>br (smCo c) (k ⟨.agg [.ows 0],[.row kb (bkS c.2.1)],[]⟩) False
    | none=>False
  | _,_,_=>False
def lnD(xs:List (Elem k3))(t:Int):Nat:=ln (fun i=>decide ((atP xs i).2.1 < t)) xs.length
def okD(xs:List (Elem k3))(t:Int):Bool:=decide (lnD xs t < xs.length)&&((atP xs (lnD xs t)).2.1==t)
def g72:G1
  | [.rsl [.int .i64,.int .i64,.int .i64] xs,.val (.int .i64 t)],[],k=>br (decide (xs.length≤1048576)) (k ⟨.tup [.val (.int .i64 (lnD xs t)),.val (.bool (okD xs t))],[],[]⟩) False
  | _,_,_=>False
def g144:G1
  | [.agg [.val (.int .i64 a),.val (.int .i64 b),.val (.int .i64 c)],.val (.int .i64 t)],[],k=>k ⟨.val (.int .i64 (IntKind.i64.wrap (b - t))),[],[]⟩
  | _,_,_=>False
def bsD(xs:List (Elem k3))(t:Int):Nat:=bsf (fun i=>decide (IntKind.i64.wrap ((atP xs i).2.1 - t) < 0)) 0 xs.length
def bkD(xs:List (Elem k3))(t:Int):Bool:=decide (bsD xs t < xs.length)&&(IntKind.i64.wrap ((atP xs (bsD xs t)).2.1 - t)==0)
def g143:G1
  | [.rsl [.int .i64,.int .i64,.int .i64] xs,.val (.int .i64 t),.fn 144 []],[],k=>br (decide (xs.length≤1048576)) (k ⟨.tup [.val (.int .i64 (bsD xs t)),.val (.bool (bkD xs t))],[],[]⟩) False
  | _,_,_=>False
def g75:G1
  | [.rsl [.int .i64,.int .i64,.int .i64] xs,.val (.int .i64 t)],[],k=>br (decide (xs.length≤1048576)) (k ⟨.tup [.val (.int .i64 (bsD xs t)),.val (.bool (bkD xs t))],[],[]⟩) False
  | _,_,_=>False
abbrev atI(xs:List (Elem ki))(i:Nat):Int:=(xs.getD i (edflt ki)).1
def plc1(f:List (Elem ki))(i:Nat):Bool:=decide (13≤atI f i)&&decide (atI f i≤119)&&(i==0 || decide (atI f (i - 1) < atI f i))
def plcs(f:List (Elem ki)):Bool:=allB f.length (plc1 f)
def g107:G1
  | [.rsl [.int .i64] f],[],k=>br (decide (f.length≤1048576)) (k ⟨.val (.bool (plcs f)),[],[]⟩) False
  | _,_,_=>False
noncomputable def E80:Env:=Ef.of Tryz.f80
noncomputable def G80:Gk:=gk []
noncomputable def lp80(n:Nat):Code:=(loopOf n (codeOf Tryz.f80)).getD .skip
noncomputable def ct80(L:Lp)(R:Rp)(n:Nat):Kt:=contOf E80 G80 L n (codeOf Tryz.f80) (endK E80 Tryz.f80.results.toList R)
noncomputable def rk80(L:Lp)(R:Rp)(n:Nat)(N:St→Prop):Kt:=rk (jof E80 (lp80 n)) N (ct80 L R n)
noncomputable def LOOP80(L:Lp)(R:Rp)(n:Nat)(st:St):Prop:=L (lp80 n) st (ct80 L R n)
theorem hg80:HG Tryz.prog G80:=hg_nil
theorem okf80:Ok Tryz.prog E80:=okf.of Tryz.f80
theorem e80(L:Lp)(R:Rp)(x:Int)(s:List (Elem kc))(d p:List (Elem k3))(b:Bool)(f:List (Elem ki))(n:Int):(bodyP Ef G80 L Tryz.f80 [coreAV x s d p b f n] [] R)=(
    LOOP80 L R 3 ⟨(vJ :: .ptr 0 0 :: .ptr 1 0 :: .ptr 3 0 :: vI 0 :: jn 33 []),[(0,.box [vI x,.rsl kc s,.rsl k3 d,.rsl k3 p,vB b,.rsl ki f,vI n]),(1,.box [.ows 2]),(2,.row kb []),(3,.box [.ows 4]),(4,.row kb [])],1000000,[]⟩):=by kernel_rfl
def st80(x:Int)(s:List (Elem kc))(d p:List (Elem k3))(b:Bool)(f:List (Elem ki))(n:Int)(i:Int)(ys:List (Elem kb)):St :=  ⟨(vJ :: AV.ptr 0 0 :: AV.ptr 1 0 :: AV.ptr 3 0 :: .val (.int .i64 i) :: jn 33 []),[(0,AO.box [vI x,AV.rsl kc s,AV.rsl k3 d,AV.rsl k3 p,vB b,AV.rsl ki f,vI n]),(1,AO.box [AV.ows 2]),(2,AO.row kb []),(3,AO.box [AV.ows 4]),(4,.row kb ys)],1000000,[]⟩
theorem b80(L:Lp)(R:Rp)(N:St→Prop)(x:Int)(s:List (Elem kc))(d p:List (Elem k3))(b:Bool)(f:List (Elem ki))(n:Int)(i:Int)(ys:List (Elem kb)):(evP E80 G80 L (lp80 3) (st80 x s d p b f n i ys) (rk80 L R 3 N))=(
    br (decide (i < (↑s.length:Int))) (br (decide (0≤i∧i < (↑s.length:Int))) (br (decide (0≤i∧i < (↑s.length:Int))) (br (decide (0≤i∧i < (↑s.length:Int))) (br (decide ((ys.length + [((s.getD i.toNat (edflt kc)).1,(s.getD i.toNat (edflt kc)).2.1,(s.getD i.toNat (edflt kc)).2.2.1,ByteArray.empty,ByteArray.empty,ByteArray.empty,ByteArray.empty,ByteArray.empty,ByteArray.empty,ByteArray.empty,ByteArray.empty,())].length) * 168≤140737488355328)) (N (st80 x s d p b f n (IntKind.i64.wrap (i+1)) (ys ++ [((s.getD i.toNat (edflt kc)).1,(s.getD i.toNat (edflt kc)).2.1,(s.getD i.toNat (edflt kc)).2.2.1,ByteArray.empty,ByteArray.empty,ByteArray.empty,ByteArray.empty,ByteArray.empty,ByteArray.empty,ByteArray.empty,ByteArray.empty,())]))) False) False) False) False) (R (some ⟨.agg [.ows 0],[.row kb ys],[]⟩))):=by kernel_rfl
theorem map_take{α β:Type}(g:α→β)(s:List α)(dd:α){i:Nat}(hi:i < s.length):(s.map g).take (i+1)=(s.map g).take i ++ [g (s.getD i dd)]:=by
  rw [List.take_add_one,List.getD_eq_getElem?_getD,List.getElem?_eq_getElem hi,List.getElem?_map,List.getElem?_eq_getElem hi]
  rfl
theorem smCo_s{x:Int}{s:List (Elem kc)}{d p:List (Elem k3)}{b:Bool}{f:List (Elem ki)}{n:Int}(h:smCo (x,s,d,p,b,f,n)=true):s.length≤1048576:=by
  simp only [smCo,Bool.and_eq_true,decide_eq_true_eq] at h
  exact h.1.1.1
theorem smCo_d{x:Int}{s:List (Elem kc)}{d p:List (Elem k3)}{b:Bool}{f:List (Elem ki)}{n:Int}(h:smCo (x,s,d,p,b,f,n)=true):d.length≤1048576:=by
  simp only [smCo,Bool.and_eq_true,decide_eq_true_eq] at h
  exact h.1.1.2
theorem smCo_p{x:Int}{s:List (Elem kc)}{d p:List (Elem k3)}{b:Bool}{f:List (Elem ki)}{n:Int}(h:smCo (x,s,d,p,b,f,n)=true):p.length≤1048576:=by
  simp only [smCo,Bool.and_eq_true,decide_eq_true_eq] at h
  exact h.1.2
theorem smCo_f{x:Int}{s:List (Elem kc)}{d p:List (Elem k3)}{b:Bool}{f:List (Elem ki)}{n:Int}(h:smCo (x,s,d,p,b,f,n)=true):f.length≤1048576:=by
  simp only [smCo,Bool.and_eq_true,decide_eq_true_eq] at h
  exact h.2
theorem h80:G1Ok Tryz.prog 80 g80:=by
  intro args obs k h
  unfold g80 at h
  split at h
  · rename_i k us
    split at h
    rotate_left
    · exact h.elim
    rename_i c hc
    obtain rfl:=coreOf_inv hc
    obtain ⟨x,s,d,p,b,f,n⟩:=c
    obtain ⟨hp,h⟩:=br_and h
    have hl:s.length≤1048576:=smCo_s hp
    refine ⟨_,ctr_fn okf hg80 Tryz.func80 (by kernel_rfl) (by kernel_rfl) (by kernel_rfl) fun C => ?_,h⟩
    show bodyP Ef G80 _ Tryz.f80 [coreAV x s d p b f n] [] _
    rw [e80]
    refine loopUp okf80 hg80 (fun i ys=>st80 x s d p b f n i ys) s.length (fun i ys=>ys=(bkS s).take i) (fun N i ys hi hy next => ?_) [] rfl
    show evP E80 G80 _ (lp80 3) (st80 x s d p b f n i ys) (rk80 _ _ 3 _)
    rw [b80,wrap_id (n:=(i:Int)+1) (by omega) (by omega),Int.toNat_natCast]
    have hyl:ys.length≤1048576:=by rw [hy,List.length_take]; unfold bkS; rw [List.length_map]; omega
    refine br_dec (fun h2 => ?_) (fun h2 => ?_)
    · refine br_yes ⟨by omega,h2⟩ (br_yes ⟨by omega,h2⟩ (br_yes ⟨by omega,h2⟩ (br_yes ?_ ?_)))
      · show (ys.length+1) * 168≤_
        omega
      · exact next (by omega) _ (by rw [hy]; exact (map_take bkOf s (edflt kc) (by omega)).symm)
    · show _=_
      rw [hy,List.take_of_length_le (by unfold bkS; rw [List.length_map]; omega)]
  · exact h.elim
noncomputable def E85:Env:=Ef.of Tryz.f85
noncomputable def G85:Gk:=gk []
noncomputable def lp85(n:Nat):Code:=(loopOf n (codeOf Tryz.f85)).getD .skip
noncomputable def ct85(L:Lp)(R:Rp)(n:Nat):Kt:=contOf E85 G85 L n (codeOf Tryz.f85) (endK E85 Tryz.f85.results.toList R)
noncomputable def rk85(L:Lp)(R:Rp)(n:Nat)(N:St→Prop):Kt:=rk (jof E85 (lp85 n)) N (ct85 L R n)
noncomputable def LOOP85(L:Lp)(R:Rp)(n:Nat)(st:St):Prop:=L (lp85 n) st (ct85 L R n)
theorem hg85:HG Tryz.prog G85:=hg_nil
theorem okf85:Ok Tryz.prog E85:=okf.of Tryz.f85
theorem e85(L:Lp)(R:Rp)(x:Int)(s:List (Elem kc))(d p:List (Elem k3))(b:Bool)(f:List (Elem ki))(n:Int):(bodyP Ef G85 L Tryz.f85 [coreAV x s d p b f n] [] R)=(
    LOOP85 L R 3 ⟨(vJ :: vJ :: .ptr 0 0 :: .ptr 2 0 :: vJ :: vJ :: vJ :: .rsl kc s :: vI (↑s.length:Int) :: vI 0 :: jn 17 []),[(0,.box [.ows 1]),(1,.row kb []),(2,.box [.ows 3]),(3,.row kb [])],1000000,[]⟩):=by kernel_rfl
def st85(x:Int)(s:List (Elem kc))(d p:List (Elem k3))(b:Bool)(f:List (Elem ki))(n:Int)(i:Int)(ys:List (Elem kb)):St :=  ⟨(vJ :: vJ :: AV.ptr 0 0 :: AV.ptr 2 0 :: vJ :: vJ :: vJ :: AV.rsl kc s :: vI (↑s.length:Int) :: .val (.int .i64 i) :: jn 17 []),[(0,AO.box [AV.ows 1]),(1,AO.row kb []),(2,AO.box [AV.ows 3]),(3,.row kb ys)],1000000,[]⟩
theorem b85(L:Lp)(R:Rp)(N:St→Prop)(x:Int)(s:List (Elem kc))(d p:List (Elem k3))(b:Bool)(f:List (Elem ki))(n:Int)(i:Int)(ys:List (Elem kb)):(evP E85 G85 L (lp85 3) (st85 x s d p b f n i ys) (rk85 L R 3 N))=(
    br (decide (i < (↑s.length:Int))) (br (decide (0≤i∧i < (↑s.length:Int))) (br (decide ((ys.length + [((s.getD i.toNat (edflt kc)).1,(s.getD i.toNat (edflt kc)).2.1,(s.getD i.toNat (edflt kc)).2.2.1,ByteArray.empty,ByteArray.empty,ByteArray.empty,ByteArray.empty,ByteArray.empty,ByteArray.empty,ByteArray.empty,ByteArray.empty,())].length) * 168≤140737488355328)) (N ⟨(vJ :: vJ :: .ptr 0 0 :: .ptr 2 0 :: vJ :: vJ :: vJ :: .rsl kc s :: vI (↑s.length:Int) :: vI (IntKind.i64.wrap (i+1)) :: jn 17 []),[(0,.box [.ows 1]),(1,.row kb []),(2,.box [.ows 3]),(3,.row kb (ys ++ [((s.getD i.toNat (edflt kc)).1,(s.getD i.toNat (edflt kc)).2.1,(s.getD i.toNat (edflt kc)).2.2.1,ByteArray.empty,ByteArray.empty,ByteArray.empty,ByteArray.empty,ByteArray.empty,ByteArray.empty,ByteArray.empty,ByteArray.empty,())]))],1000000,[]⟩) False) False) (R (some ⟨.agg [.ows 0],[.row kb ys],[]⟩))):=by kernel_rfl
theorem h85:G1Ok Tryz.prog 85 g80:=by
  intro args obs k h
  unfold g80 at h
  split at h
  · rename_i k us
    split at h
    rotate_left
    · exact h.elim
    rename_i c hc
    obtain rfl:=coreOf_inv hc
    obtain ⟨x,s,d,p,b,f,n⟩:=c
    obtain ⟨hp,h⟩:=br_and h
    have hl:s.length≤1048576:=smCo_s hp
    refine ⟨_,ctr_fn okf hg85 Tryz.func85 (by kernel_rfl) (by kernel_rfl) (by kernel_rfl) fun C => ?_,h⟩
    show bodyP Ef G85 _ Tryz.f85 [coreAV x s d p b f n] [] _
    rw [e85]
    refine loopUp okf85 hg85 (fun i ys=>st85 x s d p b f n i ys) s.length (fun i ys=>ys=(bkS s).take i) (fun N i ys hi hy next => ?_) [] rfl
    show evP E85 G85 _ (lp85 3) (st85 x s d p b f n i ys) (rk85 _ _ 3 _)
    rw [b85,wrap_id (n:=(i:Int)+1) (by omega) (by omega),Int.toNat_natCast]
    have hyl:ys.length≤1048576:=by rw [hy,List.length_take]; unfold bkS; rw [List.length_map]; omega
    refine br_dec (fun h2 => ?_) (fun h2 => ?_)
    · refine br_yes ⟨by omega,h2⟩ (br_yes ?_ ?_)
      · show (ys.length+1) * 168≤_
        omega
      · exact next (by omega) _ (by rw [hy]; exact (map_take bkOf s (edflt kc) (by omega)).symm)
    · show _=_
      rw [hy,List.take_of_length_le (by unfold bkS; rw [List.length_map]; omega)]
  · exact h.elim
noncomputable def E72:Env:=Ef.of Tryz.f72
noncomputable def G72:Gk:=gk []
noncomputable def lp72(n:Nat):Code:=(loopOf n (codeOf Tryz.f72)).getD .skip
noncomputable def ct72(L:Lp)(R:Rp)(n:Nat):Kt:=contOf E72 G72 L n (codeOf Tryz.f72) (endK E72 Tryz.f72.results.toList R)
noncomputable def rk72(L:Lp)(R:Rp)(n:Nat)(N:St→Prop):Kt:=rk (jof E72 (lp72 n)) N (ct72 L R n)
noncomputable def LOOP72(L:Lp)(R:Rp)(n:Nat)(st:St):Prop:=L (lp72 n) st (ct72 L R n)
theorem hg72:HG Tryz.prog G72:=hg_nil
theorem okf72:Ok Tryz.prog E72:=okf.of Tryz.f72
theorem e72(L:Lp)(R:Rp)(xs:List (Elem k3))(t:Int):(bodyP Ef G72 L Tryz.f72 [.rsl k3 xs,.val (.int .i64 t)] [] R)=(
    LOOP72 L R 2 ⟨(.rsl k3 xs :: vI t :: jn 4 (vI 0 :: jn 29 [])),[],1000000,[]⟩):=by kernel_rfl
def st72(xs:List (Elem k3))(t i:Int):St :=  ⟨(AV.rsl k3 xs :: vI t :: jn 4 (.val (.int .i64 i) :: jn 29 [])),[],1000000,[]⟩
theorem b72(L:Lp)(R:Rp)(N:St→Prop)(xs:List (Elem k3))(t i:Int):(evP E72 G72 L (lp72 2) (st72 xs t i) (rk72 L R 2 N))=(
    br (decide (i < (↑xs.length:Int))) (br (decide (0≤i∧i < (↑xs.length:Int))) (br (decide ((xs.getD i.toNat (edflt k3)).2.1 < t)) (N (st72 xs t (IntKind.i64.wrap (i+1)))) (br (decide (i < (↑xs.length:Int))) (br (decide (0≤i∧i < (↑xs.length:Int))) (R (some ⟨.tup [vI i,vB ((xs.getD i.toNat (edflt k3)).2.1==t)],[],[]⟩)) False) (R (some ⟨.tup [vI i,vB false],[],[]⟩)))) False) (br (decide (i < (↑xs.length:Int))) (br (decide (0≤i∧i < (↑xs.length:Int))) (R (some ⟨.tup [vI i,vB ((xs.getD i.toNat (edflt k3)).2.1==t)],[],[]⟩)) False) (R (some ⟨.tup [vI i,vB false],[],[]⟩)))):=by kernel_rfl
theorem h72:G1Ok Tryz.prog 72 g72:=by
  intro args obs k h
  unfold g72 at h
  split at h
  · rename_i k xs t
    obtain ⟨hl,h⟩:=brd h
    refine ⟨_,ctr_fn okf hg72 Tryz.func72 (by kernel_rfl) (by kernel_rfl) (by kernel_rfl) fun C => ?_,h⟩
    rw [e72]
    refine loopLn okf72 hg72 (fun i=>st72 xs t i) xs.length (fun i=>decide ((atP xs i).2.1 < t)) (by omega) (fun N i hi hw next stop last => ?_)
    show evP E72 G72 _ (lp72 2) (st72 xs t i) (rk72 _ _ 2 _)
    rw [b72,hw,Int.toNat_natCast]
    refine br_dec (fun h2=>br_yes ⟨by omega,h2⟩ (br_dec (fun h3 => ?_) (fun h3=>br_yes h2 (br_yes ⟨by omega,h2⟩ ?_)))) (fun h2=>br_no h2 ?_)
    · exact next (by omega) (decide_eq_true h3)
    · show _=_
      have e:lnD xs t=i:=stop (by omega) (decide_eq_false h3)
      unfold okD
      rw [e,decide_eq_true (show i < xs.length by omega),Bool.true_and]
    · show _=_
      have e:lnD xs t=i:=last (by omega)
      unfold okD
      rw [e,decide_eq_false (show ¬ i < xs.length by omega),Bool.false_and]
  · exact h.elim
noncomputable def G144:Gk:=gk []
theorem hg144:HG Tryz.prog G144:=hg_nil
theorem e144(L:Lp)(R:Rp)(a b c t:Int):(bodyP Ef G144 L Tryz.f144 [.agg [.val (.int .i64 a),.val (.int .i64 b),.val (.int .i64 c)],.val (.int .i64 t)] [] R)=(
    R (some ⟨vI (IntKind.i64.wrap (b - t)),[],[]⟩)):=by kernel_rfl
theorem h144:G1Ok Tryz.prog 144 g144:=by
  intro args obs k h
  unfold g144 at h
  split at h
  · rename_i k a b c t
    refine ⟨_,ctr_fn okf hg144 Tryz.func144 (by kernel_rfl) (by kernel_rfl) (by kernel_rfl) fun C => ?_,h⟩
    rw [e144]
  · exact h.elim
noncomputable def E143:Env:=Ef.of Tryz.f143
noncomputable def G143:Gk:=gk [(144,g144)]
noncomputable def lp143(n:Nat):Code:=(loopOf n (codeOf Tryz.f143)).getD .skip
noncomputable def ct143(L:Lp)(R:Rp)(n:Nat):Kt:=contOf E143 G143 L n (codeOf Tryz.f143) (endK E143 Tryz.f143.results.toList R)
noncomputable def rk143(L:Lp)(R:Rp)(n:Nat)(N:St→Prop):Kt:=rk (jof E143 (lp143 n)) N (ct143 L R n)
noncomputable def LOOP143(L:Lp)(R:Rp)(n:Nat)(st:St):Prop:=L (lp143 n) st (ct143 L R n)
theorem hg143:HG Tryz.prog G143:=(hg_cons h144 hg_nil)
theorem okf143:Ok Tryz.prog E143:=okf.of Tryz.f143
theorem e143(L:Lp)(R:Rp)(xs:List (Elem k3))(t:Int):(bodyP Ef G143 L Tryz.f143 [.rsl k3 xs,.val (.int .i64 t),.fn 144 []] [] R)=(
    LOOP143 L R 3 ⟨[.rsl k3 xs,vI t,.fn 144 [],vJ,vJ,vJ,vJ,vJ,vI (↑xs.length:Int),vI 0,vI (↑xs.length:Int),vJ,vJ,vJ,vJ,vJ,vJ,vJ,vJ,vJ,vJ,vJ,vJ,vJ,vJ,vJ,vJ,vJ,vJ,vJ,vJ,vJ,vJ,vJ,vJ,vJ,vJ,vJ,vJ,vJ,vJ,vJ,vJ,vJ,vJ,vJ,vJ,vJ,vJ],[],1000000,[]⟩):=by kernel_rfl
def st143(xs:List (Elem k3))(t i j:Int):St :=  ⟨[AV.rsl k3 xs,vI t,AV.fn 144 [],vJ,vJ,vJ,vJ,vJ,vI (↑xs.length:Int),.val (.int .i64 i),.val (.int .i64 j),vJ,vJ,vJ,vJ,vJ,vJ,vJ,vJ,vJ,vJ,vJ,vJ,vJ,vJ,vJ,vJ,vJ,vJ,vJ,vJ,vJ,vJ,vJ,vJ,vJ,vJ,vJ,vJ,vJ,vJ,vJ,vJ,vJ,vJ,vJ,vJ,vJ,vJ],[],1000000,[]⟩
theorem b143(L:Lp)(R:Rp)(N:St→Prop)(xs:List (Elem k3))(t i j:Int):(evP E143 G143 L (lp143 3) (st143 xs t i j) (rk143 L R 3 N))=(
    br (decide (i < j)) (br (decide (0≤IntKind.i64.wrap ((IntKind.u64.wrap (IntKind.i64.wrap (i+j))).fdiv 2)∧IntKind.i64.wrap ((IntKind.u64.wrap (IntKind.i64.wrap (i+j))).fdiv 2) < (↑xs.length:Int))) (br (decide (IntKind.i64.wrap ((xs.getD (IntKind.i64.wrap ((IntKind.u64.wrap (IntKind.i64.wrap (i+j))).fdiv 2)).toNat (edflt k3)).2.1 - t) < 0)) (N ⟨[.rsl k3 xs,vI t,.fn 144 [],vJ,vJ,vJ,vJ,vJ,vI (↑xs.length:Int),vI (IntKind.i64.wrap (IntKind.i64.wrap ((IntKind.u64.wrap (IntKind.i64.wrap (i+j))).fdiv 2)+1)),vI j,vJ,vJ,vJ,vJ,vJ,vJ,vJ,vJ,vJ,vJ,vJ,vJ,vJ,vJ,vJ,vJ,vJ,vJ,vJ,vJ,vJ,vJ,vJ,vJ,vJ,vJ,vJ,vJ,vJ,vJ,vJ,vJ,vJ,vJ,vJ,vJ,vJ,vJ],[],1000000,[]⟩) (N ⟨[.rsl k3 xs,vI t,.fn 144 [],vJ,vJ,vJ,vJ,vJ,vI (↑xs.length:Int),vI i,vI (IntKind.i64.wrap ((IntKind.u64.wrap (IntKind.i64.wrap (i+j))).fdiv 2)),vJ,vJ,vJ,vJ,vJ,vJ,vJ,vJ,vJ,vJ,vJ,vJ,vJ,vJ,vJ,vJ,vJ,vJ,vJ,vJ,vJ,vJ,vJ,vJ,vJ,vJ,vJ,vJ,vJ,vJ,vJ,vJ,vJ,vJ,vJ,vJ,vJ,vJ],[],1000000,[]⟩)) False) (br (decide (i < (↑xs.length:Int))) (br (decide (0≤i∧i < (↑xs.length:Int))) (R (some ⟨.tup [vI i,vB (IntKind.i64.wrap ((xs.getD i.toNat (edflt k3)).2.1 - t)==0)],[],[]⟩)) False) (R (some ⟨.tup [vI i,vB false],[],[]⟩)))):=by kernel_rfl
theorem h143:G1Ok Tryz.prog 143 g143:=by
  intro args obs k h
  unfold g143 at h
  split at h
  · rename_i k xs t
    obtain ⟨hl,h⟩:=brd h
    refine ⟨_,ctr_fn okf hg143 Tryz.func143 (by kernel_rfl) (by kernel_rfl) (by kernel_rfl) fun C => ?_,h⟩
    rw [e143]
    refine loopBs okf143 hg143 (fun i j=>st143 xs t i j) xs.length (fun i=>decide (IntKind.i64.wrap ((atP xs i).2.1 - t) < 0)) (by omega) (fun N i j hij hj hm hw yes no done => ?_) _ rfl
    show evP E143 G143 _ (lp143 3) (st143 xs t i j) (rk143 _ _ 3 _)
    rw [b143,hm]
    refine br_dec (fun h2 => ?_) (fun h2 => ?_)
    · rw [hw (by omega),Int.toNat_natCast]
      exact br_yes ⟨by omega,by omega⟩ (br_intro (fun h3=>yes (by omega) h3) (fun h3=>no (by omega) h3))
    · have e:bsD xs t=i:=done (by omega)
      refine br_dec (fun h3=>br_yes ⟨by omega,h3⟩ ?_) (fun h3 => ?_)
      · show _=_
        unfold bkD
        rw [e,decide_eq_true (show i < xs.length by omega),Bool.true_and,Int.toNat_natCast]
      · show _=_
        unfold bkD
        rw [e,decide_eq_false (show ¬ i < xs.length by omega),Bool.false_and]
  · exact h.elim
noncomputable def G75:Gk:=gk [(143,g143)]
theorem hg75:HG Tryz.prog G75:=(hg_cons h143 hg_nil)
theorem e75(L:Lp)(R:Rp)(xs:List (Elem k3))(t:Int):(bodyP Ef G75 L Tryz.f75 [.rsl k3 xs,.val (.int .i64 t)] [] R)=(
    br (decide (xs.length≤1048576)) (R (some ⟨.tup [vI (↑(bsD xs t):Int),vB (bkD xs t)],[],[]⟩)) False):=by kernel_rfl
theorem h75:G1Ok Tryz.prog 75 g75:=by
  intro args obs k h
  unfold g75 at h
  split at h
  · rename_i k xs t
    obtain ⟨hl,h⟩:=br_and h
    refine ⟨_,ctr_fn okf hg75 Tryz.func75 (by kernel_rfl) (by kernel_rfl) (by kernel_rfl) fun C => ?_,h⟩
    rw [e75]
    exact br_t hl rfl
  · exact h.elim
noncomputable def E107:Env:=Ef.of Tryz.f107
noncomputable def G107:Gk:=gk []
noncomputable def lp107(n:Nat):Code:=(loopOf n (codeOf Tryz.f107)).getD .skip
noncomputable def ct107(L:Lp)(R:Rp)(n:Nat):Kt:=contOf E107 G107 L n (codeOf Tryz.f107) (endK E107 Tryz.f107.results.toList R)
noncomputable def rk107(L:Lp)(R:Rp)(n:Nat)(N:St→Prop):Kt:=rk (jof E107 (lp107 n)) N (ct107 L R n)
noncomputable def LOOP107(L:Lp)(R:Rp)(n:Nat)(st:St):Prop:=L (lp107 n) st (ct107 L R n)
theorem hg107:HG Tryz.prog G107:=hg_nil
theorem okf107:Ok Tryz.prog E107:=okf.of Tryz.f107
theorem e107(L:Lp)(R:Rp)(f:List (Elem ki)):(bodyP Ef G107 L Tryz.f107 [.rsl ki f] [] R)=(
    LOOP107 L R 2 ⟨(.rsl ki f :: vJ :: vJ :: vI 0 :: jn 34 []),[],1000000,[]⟩):=by kernel_rfl
def st107(f:List (Elem ki))(i:Int):St :=  ⟨(AV.rsl ki f :: vJ :: vJ :: .val (.int .i64 i) :: jn 34 []),[],1000000,[]⟩
theorem b107(L:Lp)(R:Rp)(N:St→Prop)(f:List (Elem ki))(i:Int):(evP E107 G107 L (lp107 2) (st107 f i) (rk107 L R 2 N))=(
    br (decide (i < (↑f.length:Int))) (br (decide (0≤i∧i < (↑f.length:Int))) (br (decide ((f.getD i.toNat (edflt ki)).1 < 13)) (R (some ⟨vB false,[],[]⟩)) (br (decide (0≤i∧i < (↑f.length:Int))) (br (decide ((f.getD i.toNat (edflt ki)).1≥120)) (R (some ⟨vB false,[],[]⟩)) (br (decide (i > 0)) (br (decide (0≤i∧i < (↑f.length:Int))) (br (decide (0≤IntKind.i64.wrap (i - 1)∧IntKind.i64.wrap (i - 1) < (↑f.length:Int))) (br (decide ((f.getD i.toNat (edflt ki)).1≤(f.getD (IntKind.i64.wrap (i - 1)).toNat (edflt ki)).1)) (R (some ⟨vB false,[],[]⟩)) (N (st107 f (IntKind.i64.wrap (i+1))))) False) False) (N (st107 f (IntKind.i64.wrap (i+1)))))) False)) False) (R (some ⟨vB true,[],[]⟩))):=by kernel_rfl
theorem plc_l{f:List (Elem ki)}{i:Nat}(h:atI f i < 13):plc1 f i=false:=by unfold plc1; rw [decide_eq_false (show ¬ 13≤atI f i by omega)]; simp
theorem plc_h{f:List (Elem ki)}{i:Nat}(h:atI f i≥120):plc1 f i=false:=by unfold plc1; rw [decide_eq_false (show ¬ atI f i≤119 by omega)]; simp
theorem plc_o{f:List (Elem ki)}{i:Nat}(h0:(i:Int) > 0)(h:atI f i≤atI f (i - 1)):plc1 f i=false:=by
  unfold plc1
  rw [decide_eq_false (show ¬ atI f (i - 1) < atI f i by omega),show (i==0)=false from beq_eq_false_iff_ne.2 (by omega)]
  simp
theorem plc_t{f:List (Elem ki)}{i:Nat}(h1 : ¬ atI f i < 13)(h2 : ¬ atI f i≥120)(h3:i=0∨atI f (i - 1) < atI f i):plc1 f i=true:=by
  unfold plc1
  rw [decide_eq_true (show 13≤atI f i by omega),decide_eq_true (show atI f i≤119 by omega)]
  rcases h3 with h3 | h3
  · subst h3; rfl
  · rw [decide_eq_true h3]; simp
theorem h107:G1Ok Tryz.prog 107 g107:=by
  intro args obs k h
  unfold g107 at h
  split at h
  · rename_i k f
    obtain ⟨hl,h⟩:=brd h
    refine ⟨_,ctr_fn okf hg107 Tryz.func107 (by kernel_rfl) (by kernel_rfl) (by kernel_rfl) fun C => ?_,h⟩
    rw [e107]
    refine loopAll okf107 hg107 (fun i=>st107 f i) f.length (plc1 f) (by omega) (fun N i hi hw next fails done => ?_)
    show evP E107 G107 _ (lp107 2) (st107 f i) (rk107 _ _ 2 _)
    rw [b107,hw,Int.toNat_natCast]
    refine br_dec (fun h2=>br_yes ⟨by omega,h2⟩ (br_dec (fun h3 => ?_) (fun h3=>br_yes ⟨by omega,h2⟩ (br_dec (fun h4 => ?_) (fun h4=>br_dec (fun h5=>br_yes ⟨by omega,h2⟩ ?_) (fun h5 => ?_)))))) (fun h2 => ?_)
    · show _=_
      rw [show plcs f=false from fails (by omega) (plc_l h3)]
    · show _=_
      rw [show plcs f=false from fails (by omega) (plc_h h4)]
    · rw [ix_pred h5 (by omega),Int.toNat_natCast]
      refine br_yes ⟨by omega,by omega⟩ (br_dec (fun h6 => ?_) (fun h6 => ?_))
      · show _=_
        rw [show plcs f=false from fails (by omega) (plc_o h5 h6)]
      · exact next (by omega) (plc_t h3 h4 (.inr (Int.not_le.1 h6)))
    · exact next (by omega) (plc_t h3 h4 (.inl (by omega)))
    · show _=_
      rw [show plcs f=true from done (by omega)]
  · exact h.elim
end Go.Proofs.YtkjnijddbiconaaGreatDoor.Ev