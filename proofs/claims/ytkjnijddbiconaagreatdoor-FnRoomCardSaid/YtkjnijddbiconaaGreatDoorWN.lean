/- A store that is played: calls that are about sets. -/
import Derived.Test.YtkjnijddbiconaaGreatDoorWM
import Derived.Test.YtkjnijddbiconaaGreatDoorD15
import Derived.Test.YtkjnijddbiconaaGreatDoorWA
import Derived.Test.YtkjnijddbiconaaGreatDoorEvD
namespace Go.Proofs.YtkjnijddbiconaaGreatDoor.Ev
open Go
set_option linter.unusedVariables false
set_option linter.unusedSimpArgs false
set_option maxRecDepth 100000
def mkC(a:ByteArray)(k:Int)(c:ByteArray)(e:Elem kc):Elem kc:=(a,k,c,e.snd.snd.snd.fst,e.snd.snd.snd.snd.fst,e.snd.snd.snd.snd.snd.fst,e.snd.snd.snd.snd.snd.snd.fst,e.snd.snd.snd.snd.snd.snd.snd.fst,e.snd.snd.snd.snd.snd.snd.snd.snd.fst,e.snd.snd.snd.snd.snd.snd.snd.snd.snd.fst,e.snd.snd.snd.snd.snd.snd.snd.snd.snd.snd.fst,e.snd.snd.snd.snd.snd.snd.snd.snd.snd.snd.snd.fst,e.snd.snd.snd.snd.snd.snd.snd.snd.snd.snd.snd.snd.fst,e.snd.snd.snd.snd.snd.snd.snd.snd.snd.snd.snd.snd.snd.fst,e.snd.snd.snd.snd.snd.snd.snd.snd.snd.snd.snd.snd.snd.snd.fst,e.snd.snd.snd.snd.snd.snd.snd.snd.snd.snd.snd.snd.snd.snd.snd.fst,e.snd.snd.snd.snd.snd.snd.snd.snd.snd.snd.snd.snd.snd.snd.snd.snd.fst,e.snd.snd.snd.snd.snd.snd.snd.snd.snd.snd.snd.snd.snd.snd.snd.snd.snd.fst,e.snd.snd.snd.snd.snd.snd.snd.snd.snd.snd.snd.snd.snd.snd.snd.snd.snd.snd.fst,e.snd.snd.snd.snd.snd.snd.snd.snd.snd.snd.snd.snd.snd.snd.snd.snd.snd.snd.snd.fst,e.snd.snd.snd.snd.snd.snd.snd.snd.snd.snd.snd.snd.snd.snd.snd.snd.snd.snd.snd.snd.fst,e.snd.snd.snd.snd.snd.snd.snd.snd.snd.snd.snd.snd.snd.snd.snd.snd.snd.snd.snd.snd.snd.fst,e.snd.snd.snd.snd.snd.snd.snd.snd.snd.snd.snd.snd.snd.snd.snd.snd.snd.snd.snd.snd.snd.snd.fst,e.snd.snd.snd.snd.snd.snd.snd.snd.snd.snd.snd.snd.snd.snd.snd.snd.snd.snd.snd.snd.snd.snd.snd.fst,e.snd.snd.snd.snd.snd.snd.snd.snd.snd.snd.snd.snd.snd.snd.snd.snd.snd.snd.snd.snd.snd.snd.snd.snd.fst,e.snd.snd.snd.snd.snd.snd.snd.snd.snd.snd.snd.snd.snd.snd.snd.snd.snd.snd.snd.snd.snd.snd.snd.snd.snd.fst,e.snd.snd.snd.snd.snd.snd.snd.snd.snd.snd.snd.snd.snd.snd.snd.snd.snd.snd.snd.snd.snd.snd.snd.snd.snd.snd.fst,0,0,0,false,())
def v24(e:Elem kc):List Value := [.int .i64 e.snd.snd.snd.fst,.int .i64 e.snd.snd.snd.snd.fst,.int .i64 e.snd.snd.snd.snd.snd.fst,.int .i64 e.snd.snd.snd.snd.snd.snd.fst,.int .i64 e.snd.snd.snd.snd.snd.snd.snd.fst,.int .i64 e.snd.snd.snd.snd.snd.snd.snd.snd.fst,.int .i64 e.snd.snd.snd.snd.snd.snd.snd.snd.snd.fst,.int .i64 e.snd.snd.snd.snd.snd.snd.snd.snd.snd.snd.fst,.int .i64 e.snd.snd.snd.snd.snd.snd.snd.snd.snd.snd.snd.fst,.int .i64 e.snd.snd.snd.snd.snd.snd.snd.snd.snd.snd.snd.snd.fst,.int .i64 e.snd.snd.snd.snd.snd.snd.snd.snd.snd.snd.snd.snd.snd.fst,.int .i64 e.snd.snd.snd.snd.snd.snd.snd.snd.snd.snd.snd.snd.snd.snd.fst,.int .i64 e.snd.snd.snd.snd.snd.snd.snd.snd.snd.snd.snd.snd.snd.snd.snd.fst,.int .i64 e.snd.snd.snd.snd.snd.snd.snd.snd.snd.snd.snd.snd.snd.snd.snd.snd.fst,.int .i64 e.snd.snd.snd.snd.snd.snd.snd.snd.snd.snd.snd.snd.snd.snd.snd.snd.snd.fst,.int .i64 e.snd.snd.snd.snd.snd.snd.snd.snd.snd.snd.snd.snd.snd.snd.snd.snd.snd.snd.fst,.int .i64 e.snd.snd.snd.snd.snd.snd.snd.snd.snd.snd.snd.snd.snd.snd.snd.snd.snd.snd.snd.fst,.int .i64 e.snd.snd.snd.snd.snd.snd.snd.snd.snd.snd.snd.snd.snd.snd.snd.snd.snd.snd.snd.snd.fst,.int .i64 e.snd.snd.snd.snd.snd.snd.snd.snd.snd.snd.snd.snd.snd.snd.snd.snd.snd.snd.snd.snd.snd.fst,.int .i64 e.snd.snd.snd.snd.snd.snd.snd.snd.snd.snd.snd.snd.snd.snd.snd.snd.snd.snd.snd.snd.snd.snd.fst,.int .i64 e.snd.snd.snd.snd.snd.snd.snd.snd.snd.snd.snd.snd.snd.snd.snd.snd.snd.snd.snd.snd.snd.snd.snd.fst,.int .i64 e.snd.snd.snd.snd.snd.snd.snd.snd.snd.snd.snd.snd.snd.snd.snd.snd.snd.snd.snd.snd.snd.snd.snd.snd.fst,.int .i64 e.snd.snd.snd.snd.snd.snd.snd.snd.snd.snd.snd.snd.snd.snd.snd.snd.snd.snd.snd.snd.snd.snd.snd.snd.snd.fst,.int .i64 e.snd.snd.snd.snd.snd.snd.snd.snd.snd.snd.snd.snd.snd.snd.snd.snd.snd.snd.snd.snd.snd.snd.snd.snd.snd.snd.fst]
abbrev e00(a:ByteArray):Elem kc:=(a,1,ByteArray.empty,0,0,0,0,0,0,0,0,0,0,0,0,0,0,0,0,0,0,0,0,0,0,0,0,0,0,0,false,())
noncomputable def G233:Gk:=gk [(80,g80),(216,g216),(272,g272),(273,g273s)]
theorem hg233:HG Tryz.prog G233:=(hg_cons h80 (hg_cons h216 (hg_cons h272 (hg_cons h273s hg_nil))))
theorem e233(L:Lp)(R:Rp)(x:Int)(s:List (Elem kc))(d p:List (Elem k3))(b:Bool)(f:List (Elem ki))(n:Int)(o:Int)(A C:ByteArray)(i:Int)(t:ByteArray):(bodyP Er G233 L Tryz.f233 [coreOwn x b n 0 1 2 3,.agg [.val (.int .i64 o),.val (.string A),.val (.string C),.val (.int .i64 i),.val (.string t)]] [.row kc s,.row k3 d,.row k3 p,.row ki f] R)=(
    br (o==1) (br (smCs s&&(decide (s.length≤100)&&(decide (d.length≤100)&&smC (e00 A)))) (R (some ⟨.tup [.agg [vI x,.ows 0,.ows 1,.ows 2,vB (nwF x s d p b f n (e00 A)).b,.ows 3,vI n],vB (nwF x s d p b f n (e00 A)).o],[.row kc (nwF x s d p b f n (e00 A)).s,.row k3 (nwF x s d p b f n (e00 A)).d,.row k3 p,.row ki f],[none,none,none,none]⟩)) False) (br (smCo (x,s,d,p,b,f,n)) (br (decide ((bkS s).length≤1048576)) (br (decide (0≤(↑(lnB (bkS s) A):Int)∧(↑(lnB (bkS s) A):Int) < (↑s.length:Int))) (br (o==2) (br (decide ((0:Int)≤0∧0≤(↑(lnB (bkS s) A):Int)∧(↑(lnB (bkS s) A):Int)≤(↑s.length:Int)∧(↑s.length:Int)≤(↑s.length:Int))) (br (decide ((0+(List.take ((↑(lnB (bkS s) A):Int) - 0).toNat (List.drop 0 s)).length) * 264≤140737488355328)) (br (decide (0≤IntKind.i64.wrap ((↑(lnB (bkS s) A):Int)+1)∧IntKind.i64.wrap ((↑(lnB (bkS s) A):Int)+1)≤(↑s.length:Int)∧(↑s.length:Int)≤(↑s.length:Int)∧(↑s.length:Int)≤(↑s.length:Int))) (br (decide ((([]++List.take ((↑(lnB (bkS s) A):Int) - 0).toNat (List.drop 0 s)).length+(List.take ((↑s.length:Int) - IntKind.i64.wrap ((↑(lnB (bkS s) A):Int)+1)).toNat (List.drop (IntKind.i64.wrap ((↑(lnB (bkS s) A):Int)+1)).toNat s)).length) * 264≤140737488355328)) (br (decide (d.length≤1000)&&decide ((z24 (s.getD (↑(lnB (bkS s) A):Int).toNat (edflt kc))).length=24)) (R (some ⟨.tup [.agg [vI x,.ows 0,.ows 1,.ows 2,vB (rzF x ([]++List.take ((↑(lnB (bkS s) A):Int) - 0).toNat (List.drop 0 s)++List.take ((↑s.length:Int) - IntKind.i64.wrap ((↑(lnB (bkS s) A):Int)+1)).toNat (List.drop (IntKind.i64.wrap ((↑(lnB (bkS s) A):Int)+1)).toNat s)) d p b f n (z24 (s.getD (↑(lnB (bkS s) A):Int).toNat (edflt kc))) false).b,.ows 3,vI n],vB (rzF x ([]++List.take ((↑(lnB (bkS s) A):Int) - 0).toNat (List.drop 0 s)++List.take ((↑s.length:Int) - IntKind.i64.wrap ((↑(lnB (bkS s) A):Int)+1)).toNat (List.drop (IntKind.i64.wrap ((↑(lnB (bkS s) A):Int)+1)).toNat s)) d p b f n (z24 (s.getD (↑(lnB (bkS s) A):Int).toNat (edflt kc))) false).o],[.row kc ([]++List.take ((↑(lnB (bkS s) A):Int) - 0).toNat (List.drop 0 s)++List.take ((↑s.length:Int) - IntKind.i64.wrap ((↑(lnB (bkS s) A):Int)+1)).toNat (List.drop (IntKind.i64.wrap ((↑(lnB (bkS s) A):Int)+1)).toNat s)),.row k3 (rzF x ([]++List.take ((↑(lnB (bkS s) A):Int) - 0).toNat (List.drop 0 s)++List.take ((↑s.length:Int) - IntKind.i64.wrap ((↑(lnB (bkS s) A):Int)+1)).toNat (List.drop (IntKind.i64.wrap ((↑(lnB (bkS s) A):Int)+1)).toNat s)) d p b f n (z24 (s.getD (↑(lnB (bkS s) A):Int).toNat (edflt kc))) false).d,.row k3 p,.row ki f,.row kc s],[some 4,none,none,none]⟩)) False) False) False) False) False) (br (o==4) (br (smCs s&&(decide (s.length≤100)&&(decide (d.length≤100)&&smC (mkC C 2 A (s.getD (↑(lnB (bkS s) A):Int).toNat (edflt kc)))))) (R (some ⟨.tup [.agg [vI x,.ows 0,.ows 1,.ows 2,vB (nwF x s d p b f n (mkC C 2 A (s.getD (↑(lnB (bkS s) A):Int).toNat (edflt kc)))).b,.ows 3,vI n],vB (nwF x s d p b f n (mkC C 2 A (s.getD (↑(lnB (bkS s) A):Int).toNat (edflt kc)))).o],[.row kc (nwF x s d p b f n (mkC C 2 A (s.getD (↑(lnB (bkS s) A):Int).toNat (edflt kc)))).s,.row k3 (nwF x s d p b f n (mkC C 2 A (s.getD (↑(lnB (bkS s) A):Int).toNat (edflt kc)))).d,.row k3 p,.row ki f],[none,none,none,none]⟩)) False) (br (o==5) (br (smCs s&&(decide (s.length≤100)&&(decide (d.length≤100)&&smC (mkC C 1 A (s.getD (↑(lnB (bkS s) A):Int).toNat (edflt kc)))))) (R (some ⟨.tup [.agg [vI x,.ows 0,.ows 1,.ows 2,vB (nwF x s d p b f n (mkC C 1 A (s.getD (↑(lnB (bkS s) A):Int).toNat (edflt kc)))).b,.ows 3,vI n],vB (nwF x s d p b f n (mkC C 1 A (s.getD (↑(lnB (bkS s) A):Int).toNat (edflt kc)))).o],[.row kc (nwF x s d p b f n (mkC C 1 A (s.getD (↑(lnB (bkS s) A):Int).toNat (edflt kc)))).s,.row k3 (nwF x s d p b f n (mkC C 1 A (s.getD (↑(lnB (bkS s) A):Int).toNat (edflt kc)))).d,.row k3 p,.row ki f],[none,none,none,none]⟩)) False) (br (smCo (x,s,d,p,b,f,n)) (br (decide ((bkS s).length≤1048576)) (br (decide (0≤(↑(lnB (bkS s) C):Int)∧(↑(lnB (bkS s) C):Int) < (↑s.length:Int))) (br (decide (d.length≤1000)&&decide ((z24 (s.getD (↑(lnB (bkS s) C):Int).toNat (edflt kc))).length=24)) (br (decide ((rzF x s d p b f n (z24 (s.getD (↑(lnB (bkS s) C):Int).toNat (edflt kc))) true).d.length≤1000)&&decide ((z24 (s.getD (↑(lnB (bkS s) A):Int).toNat (edflt kc))).length=24)) (br (decide (0≤(↑(lnB (bkS s) C):Int)∧(↑(lnB (bkS s) C):Int) < (↑s.length:Int))) (br (decide (0≤(↑(lnB (bkS s) A):Int)∧(↑(lnB (bkS s) A):Int) < (↑s.length:Int))) (br (decide (0≤(↑(lnB (bkS s) A):Int)∧(↑(lnB (bkS s) A):Int) < (↑(updR kc s (↑(lnB (bkS s) A):Int).toNat 3 (v24 (s.getD (↑(lnB (bkS s) C):Int).toNat (edflt kc)))).length:Int))) (br (rzF x s d p b f n (z24 (s.getD (↑(lnB (bkS s) C):Int).toNat (edflt kc))) true).o (R (some ⟨.tup [.agg [vI x,.ows 0,.ows 1,.ows 2,vB (rzF x s (rzF x s d p b f n (z24 (s.getD (↑(lnB (bkS s) C):Int).toNat (edflt kc))) true).d p (rzF x s d p b f n (z24 (s.getD (↑(lnB (bkS s) C):Int).toNat (edflt kc))) true).b f n (z24 (s.getD (↑(lnB (bkS s) A):Int).toNat (edflt kc))) false).b,.ows 3,vI n],vB (rzF x s (rzF x s d p b f n (z24 (s.getD (↑(lnB (bkS s) C):Int).toNat (edflt kc))) true).d p (rzF x s d p b f n (z24 (s.getD (↑(lnB (bkS s) C):Int).toNat (edflt kc))) true).b f n (z24 (s.getD (↑(lnB (bkS s) A):Int).toNat (edflt kc))) false).o],[.row kc (updR kc (updR kc s (↑(lnB (bkS s) A):Int).toNat 3 (v24 (s.getD (↑(lnB (bkS s) C):Int).toNat (edflt kc)))) (↑(lnB (bkS s) A):Int).toNat 30 [Value.bool true]),.row k3 (rzF x s (rzF x s d p b f n (z24 (s.getD (↑(lnB (bkS s) C):Int).toNat (edflt kc))) true).d p (rzF x s d p b f n (z24 (s.getD (↑(lnB (bkS s) C):Int).toNat (edflt kc))) true).b f n (z24 (s.getD (↑(lnB (bkS s) A):Int).toNat (edflt kc))) false).d,.row k3 p,.row ki f],[none,none,none,none]⟩)) (R (some ⟨.tup [.agg [vI x,.ows 0,.ows 1,.ows 2,vB (rzF x s (rzF x s d p b f n (z24 (s.getD (↑(lnB (bkS s) C):Int).toNat (edflt kc))) true).d p (rzF x s d p b f n (z24 (s.getD (↑(lnB (bkS s) C):Int).toNat (edflt kc))) true).b f n (z24 (s.getD (↑(lnB (bkS s) A):Int).toNat (edflt kc))) false).b,.ows 3,vI n],vB false],[.row kc (updR kc (updR kc s (↑(lnB (bkS s) A):Int).toNat 3 (v24 (s.getD (↑(lnB (bkS s) C):Int).toNat (edflt kc)))) (↑(lnB (bkS s) A):Int).toNat 30 [Value.bool true]),.row k3 (rzF x s (rzF x s d p b f n (z24 (s.getD (↑(lnB (bkS s) C):Int).toNat (edflt kc))) true).d p (rzF x s d p b f n (z24 (s.getD (↑(lnB (bkS s) C):Int).toNat (edflt kc))) true).b f n (z24 (s.getD (↑(lnB (bkS s) A):Int).toNat (edflt kc))) false).d,.row k3 p,.row ki f],[none,none,none,none]⟩))) False) False) False) False) False) False) False) False)))) False) False) False)):=by kernel_rfl
abbrev fmN1(x:Int)(s:List (Elem kc))(p:List (Elem k3))(f:List (Elem ki))(n:Int)(y:Nw):Res:=⟨.tup [coreOwn x y.b n 0 1 2 3,.val (.bool y.o)],[.row kc y.s,.row k3 y.d,.row k3 p,.row ki f,.row kc s],[some 4,none,none,none]⟩
def nsB(x:Int)(s:List (Elem kc))(d p:List (Elem k3))(b:Bool)(f:List (Elem ki))(n:Int)(o:Int)(A C:ByteArray):Bool:=smCs s&&(decide (s.length≤100)&&(decide (d.length≤100)&&(smCo (x,s,d,p,b,f,n)&&(decide (A.size≤1048576)&&(decide (C.size≤1048576)&&((o==1 || decide (lnB (bkS s) A < s.length))&&(o==1 || o==2 || o==4 || o==5 || decide (lnB (bkS s) C < s.length))))))))
def fmNs(x:Int)(s:List (Elem kc))(p:List (Elem k3))(f:List (Elem ki))(n:Int)(y:Nw × Bool):Res:=match y.2 with
  | false=>fmN x p f n y.1
  | true=>fmN1 x s p f n y.1
theorem smC_mkC(a:ByteArray)(k:Int)(c:ByteArray)(e:Elem kc)(ha:a.size≤1048576)(hc:c.size≤1048576):smC (mkC a k c e)=true:=by
  show (decide (a.size≤1048576)&&decide (c.size≤1048576))=true
  rw [decide_eq_true ha,decide_eq_true hc]; rfl
theorem smC_v24(e y:Elem kc):smC (putV kc 3 (v24 y) e)=smC e:=rfl
theorem smCs_kill{s:List (Elem kc)}(h:smCs s=true)(hl:s.length≤100)(i j k:Nat):([]++(s.drop 0).take i++(s.drop j).take k).length≤i+(s.length - j)∧smCs ([]++(s.drop 0).take i++(s.drop j).take k)=true:=by
  have hlen:([]++(s.drop 0).take i++(s.drop j).take k).length≤i+(s.length - j):=by
    simp only [List.length_append,List.length_take,List.length_drop,List.length_nil]
    omega
  refine ⟨hlen,smCs_mk (fun y hy => ?_) (by simp only [List.length_append,List.length_take,List.length_drop,List.length_nil]; omega)⟩
  have ha:=smCs_all h
  simp only [List.mem_append,List.nil_append] at hy
  rcases hy with hy | hy
  · exact ha y (List.mem_of_mem_drop (List.mem_of_mem_take hy))
  · exact ha y (List.mem_of_mem_drop (List.mem_of_mem_take hy))
theorem upM{s:List (Elem kc)}(hs:smCs s=true){i:Nat}(hi:i < s.length)(e:Elem kc) :
    (updR kc (updR kc s i 3 (v24 e)) i 30 [.bool true]).length=s.length∧smCs (updR kc (updR kc s i 3 (v24 e)) i 30 [.bool true])=true:=by
  refine ⟨by rw [updR_l,updR_l],?_⟩
  unfold updR
  have h1:=smCs_set hs i (e:=putV kc 3 (v24 e) (s.getD i (edflt kc))) (by rw [smC_v24]; exact smCs_at hs hi)
  refine smCs_set h1 i ?_
  rw [smC_30]
  exact smCs_at h1 (by rw [List.length_set]; exact hi)
theorem nsE{x:Int}{s:List (Elem kc)}{d p:List (Elem k3)}{b:Bool}{f:List (Elem ki)}{n:Int}{o:Int}{A C:ByteArray}{i:Int}{t:ByteArray}(hp:nsB x s d p b f n o A C=true) :
    ∃ y:Nw × Bool,qNw (s.length+1) y.1∧Ctr Tryz.prog 233 [coreOwn x b n 0 1 2 3,.agg [.val (.int .i64 o),.val (.string A),.val (.string C),.val (.int .i64 i),.val (.string t)]] [.row kc s,.row k3 d,.row k3 p,.row ki f] (fmNs x s p f n y):=by
  unfold nsB at hp
  simp only [Bool.and_eq_true,decide_eq_true_eq] at hp
  obtain ⟨hs,hl,hd,hC,hA,hB,hk,hj⟩:=hp
  refine ex_ctr (form:=fun y:Nw × Bool=>fmNs x s p f n y) okr hg233 Tryz.func233 (by kernel_rfl) (by kernel_rfl) (by kernel_rfl) ?_
  simp only [e233]
  have rz : ∀ (s':List (Elem kc)) (d':List (Elem k3)) (b':Bool) (zs:List Int) (m:Bool),d'.length≤100→zs.length=24→(rzF x s' d' p b' f n zs m).d.length≤100:=fun s' d' b' zs m h1 h2=>by
    have:=(rzF_ok (x:=x) (s:=s') (d0:=d') (p:=p) (b0:=b') (f:=f) (n:=n) h2 m (by omega)).1
    omega
  have nw : ∀ e:Elem kc,smC e=true→Got (fun y:Nw × Bool=>qNw (s.length+1) y.1) (fun C y=>br (smCs s&&(decide (s.length≤100)&&(decide (d.length≤100)&&smC e))) (Wk (some (fmN x p f n (nwF x s d p b f n e))) (fmNs x s p f n y)) False):=fun e he =>
    ex_t (by rw [hs,decide_eq_true hl,decide_eq_true hd,he]; rfl) (ex_end (x:=(nwF x s d p b f n e,false)) (nwF_ok hs hl hd he).1 fun C=>wk_rfl _)
  have e0 : ∀ a:ByteArray,a.size≤1048576→smC (e00 a)=true:=fun a ha=>by
    show (decide (a.size≤1048576)&&decide (ByteArray.empty.size≤1048576))=true
    rw [decide_eq_true ha]; rfl
  have bl:(bkS s).length≤1048576:=by unfold bkS; rw [List.length_map]; omega
  refine ex_intro (fun h1=>nw _ (e0 A hA)) (fun h1=>ex_t hC (ex_yes bl ?_))
  have hk:lnB (bkS s) A < s.length:=by simpa [h1] using hk
  have kI:0≤(lnB (bkS s) A:Int)∧(lnB (bkS s) A:Int) < (s.length:Int):=by omega
  have w1:IntKind.i64.wrap ((lnB (bkS s) A:Int)+1)=(lnB (bkS s) A:Int)+1:=wrap_id (by omega) (by omega)
  simp only [w1]
  refine ex_yes kI (ex_intro (fun h2 => ?_) (fun h2=>ex_intro (fun h3=>nw _ (smC_mkC _ _ _ _ hB hA)) (fun h3=>ex_intro (fun h4=>nw _ (smC_mkC _ _ _ _ hB hA)) (fun h4 => ?_))))
  · have l1:((s.drop 0).take ((lnB (bkS s) A:Int) - 0).toNat).length≤100:=by rw [List.length_take,List.length_drop]; omega
    have l2:((s.drop ((lnB (bkS s) A:Int)+1).toNat).take ((s.length:Int) - ((lnB (bkS s) A:Int)+1)).toNat).length≤100:=by rw [List.length_take,List.length_drop]; omega
    obtain ⟨q1,q2⟩:=smCs_kill hs hl ((lnB (bkS s) A:Int) - 0).toNat ((lnB (bkS s) A:Int)+1).toNat ((s.length:Int) - ((lnB (bkS s) A:Int)+1)).toNat
    refine ex_yes ⟨by omega,by omega,by omega,by omega⟩ (ex_yes (by omega) (ex_yes ⟨by omega,by omega,by omega,by omega⟩ (ex_yes (by rw [List.nil_append]; omega) (ex_t (by rw [decide_eq_true (show d.length≤1000 by omega)]; rfl) ?_))))
    exact ex_end (x:=((⟨_,_,_,_⟩:Nw),true)) ⟨Nat.le_trans q1 (by omega),q2,rz _ _ _ _ _ hd rfl⟩ (fun C=>wk_rfl _)
  · have hj:lnB (bkS s) C < s.length:=by simpa [h1,h2,h3,h4] using hj
    have jI:0≤(lnB (bkS s) C:Int)∧(lnB (bkS s) C:Int) < (s.length:Int):=by omega
    have r1:(rzF x s d p b f n (z24 (s.getD (↑(lnB (bkS s) C):Int).toNat (edflt kc))) true).d.length≤100:=rz _ _ _ _ _ hd rfl
    have hkn:(lnB (bkS s) A:Int).toNat < s.length:=by omega
    obtain ⟨q1,q2⟩:=upM hs hkn (s.getD (↑(lnB (bkS s) C):Int).toNat (edflt kc))
    refine ex_t hC (ex_yes bl (ex_yes jI (ex_t (by rw [decide_eq_true (show d.length≤1000 by omega)]; rfl) (ex_t (by rw [decide_eq_true (show _≤1000 from Nat.le_trans r1 (by decide))]; rfl) (ex_yes jI (ex_yes kI (ex_yes (by rw [updR_l]; exact kI) (ex_intro (fun h5 => ?_) (fun h5 => ?_)))))))))
    · exact ex_end (x:=((⟨_,_,_,_⟩:Nw),false)) ⟨Nat.le_trans (Nat.le_of_eq q1) (by omega),q2,rz _ _ _ _ _ r1 rfl⟩ (fun C=>wk_rfl _)
    · exact ex_end (x:=((⟨_,_,_,_⟩:Nw),false)) ⟨Nat.le_trans (Nat.le_of_eq q1) (by omega),q2,rz _ _ _ _ _ r1 rfl⟩ (fun C=>wk_rfl _)
theorem nsC{x:Int}{s:List (Elem kc)}{d p:List (Elem k3)}{b:Bool}{f:List (Elem ki)}{n:Int}{o:Int}{A C:ByteArray}{i:Int}{t:ByteArray}(hp:nsB x s d p b f n o A C=true) : ∃ y:Nw,qNw (s.length+1) y∧Ctr Tryz.prog 233 [coreOwn x b n 0 1 2 3,.agg [.val (.int .i64 o),.val (.string A),.val (.string C),.val (.int .i64 i),.val (.string t)]] [.row kc s,.row k3 d,.row k3 p,.row ki f] (fmN x p f n y):=by
  obtain ⟨⟨y,c⟩,hy,h⟩:=nsE (i:=i) (t:=t) hp
  refine ⟨y,hy,?_⟩
  cases c with
  | false=>exact h
  | true=>exact ctr_cut (obs1 := [.row kc y.s,.row k3 y.d,.row k3 p,.row ki f]) h (by kernel_rfl) trivial (fun i q hq=>by rcases i with _ | _ | _ | _ | i<;>simp at hq)
noncomputable def nsF(x:Int)(s:List (Elem kc))(d p:List (Elem k3))(b:Bool)(f:List (Elem ki))(n:Int)(o:Int)(A C:ByteArray)(i:Int)(t:ByteArray):Nw:=pick fun y:Nw=>qNw (s.length+1) y∧Ctr Tryz.prog 233 [coreOwn x b n 0 1 2 3,.agg [.val (.int .i64 o),.val (.string A),.val (.string C),.val (.int .i64 i),.val (.string t)]] [.row kc s,.row k3 d,.row k3 p,.row ki f] (fmN x p f n y)
theorem nsF_ok{x:Int}{s:List (Elem kc)}{d p:List (Elem k3)}{b:Bool}{f:List (Elem ki)}{n:Int}{o:Int}{A C:ByteArray}{i:Int}{t:ByteArray}(hp:nsB x s d p b f n o A C=true):qNw (s.length+1) (nsF x s d p b f n o A C i t)∧Ctr Tryz.prog 233 [coreOwn x b n 0 1 2 3,.agg [.val (.int .i64 o),.val (.string A),.val (.string C),.val (.int .i64 i),.val (.string t)]] [.row kc s,.row k3 d,.row k3 p,.row ki f] (fmN x p f n (nsF x s d p b f n o A C i t)):=pick_ok (nsC hp)
noncomputable def g233:G1
  | [.agg [.val (.int .i64 x),.ows 0,.ows 1,.ows 2,.val (.bool b),.ows 3,.val (.int .i64 n)],.agg [.val (.int .i64 o),.val (.string A),.val (.string C),.val (.int .i64 i),.val (.string t)]],[.row cx s0,.row [.int .i64,.int .i64,.int .i64] d,.row [.int .i64,.int .i64,.int .i64] p,.row [.int .i64] f],k=>match castE kc cx s0 with
    | some s=>br (nsB x s d p b f n o A C) (k (fmN x p f n (nsF x s d p b f n o A C i t))) False
    | none=>False
  | _,_,_=>False
theorem h233:G1Ok Tryz.prog 233 g233:=by
  intro args obs k h
  unfold g233 at h
  split at h
  · split at h
    rotate_left
    · exact h.elim
    rename_i s hs
    cases castE_inv hs
    obtain ⟨hp,h⟩:=br_and h
    exact ⟨_,(nsF_ok hp).2,h⟩
  · exact h.elim
def g236:G1
  | [.agg [.rsl [.str,.int .i64,.str,.str,.str,.str,.str,.str,.str,.str,.str] xs]],[],k=>br (decide (xs.length≤1048576)) (k ⟨.agg [.ows 0],[.row kb xs],[]⟩) False
  | _,_,_=>False
def nwR(xs:List (Elem kb))(e:Elem kb):List (Elem kb) × Int:=match nameOk e.1 with
  | false=>(xs,5)
  | true=>match okB xs e.1 with
    | true=>(xs,2)
    | false=>match (xs.length:Int)==6 with
      | true=>(xs,4)
      | false=>(xs.take (lnB xs e.1) ++ [e]++xs.drop (lnB xs e.1),0)
def g268:G1
  | [.agg [.ows 0],.agg us],[.row [.str,.int .i64,.str,.str,.str,.str,.str,.str,.str,.str,.str] xs],k=>match elemOf kb us with
    | some e=>br (decide (xs.length≤100)&&decide (e.1.size≤1000000)) (k ⟨.tup [.agg [.ows 0],.val (.int .i64 (nwR xs e).2)],[.row kb (nwR xs e).1],[none]⟩) False
    | none=>False
  | _,_,_=>False
def ptR(xs:List (Elem kb))(q i:Int)(t:ByteArray):List (Elem kb) × Int:=match decide (i < 0) || (decide (i≥8) || decide ((t.size:Int) > 24)) with
  | true=>(xs,5)
  | false=>match (atB xs q.toNat).2.1 != 1 with
    | true=>(xs,3)
    | false=>(updR kb xs q.toNat (3+i.toNat) [.string t],0)
def g270:G1
  | [.agg [.ows 0],.val (.int .i64 q),.agg [.val (.int .i64 o),.val (.string a),.val (.string c),.val (.int .i64 i),.val (.string t)]],[.row [.str,.int .i64,.str,.str,.str,.str,.str,.str,.str,.str,.str] xs],k =>
    br (decide (0≤q∧q < (xs.length:Int))) (k ⟨.tup [.agg [.ows 0],.val (.int .i64 (ptR xs q i t).2)],[.row kb (ptR xs q i t).1],[none]⟩) False
  | _,_,_=>False
def blV(e:Elem kb):List Value := [.string e.2.2.2.1,.string e.2.2.2.2.1,.string e.2.2.2.2.2.1,.string e.2.2.2.2.2.2.1,.string e.2.2.2.2.2.2.2.1,.string e.2.2.2.2.2.2.2.2.1,.string e.2.2.2.2.2.2.2.2.2.1,.string e.2.2.2.2.2.2.2.2.2.2.1]
def bkR(xs:List (Elem kb))(q:Int)(a:ByteArray):List (Elem kb) × Int:=match okB xs a with
  | false=>(xs,1)
  | true=>match (atB xs q.toNat).2.1 != 1 || ((atB xs (lnB xs a)).2.1 != 2 || !strEq (atB xs (lnB xs a)).2.2.1 (atB xs q.toNat).1) with
    | true=>(xs,3)
    | false=>(updR kb xs q.toNat 3 (blV (atB xs (lnB xs a))),0)
def g271:G1
  | [.agg [.ows 0],.val (.int .i64 q),.val (.string a)],[.row [.str,.int .i64,.str,.str,.str,.str,.str,.str,.str,.str,.str] xs],k =>
    br (decide (0≤q∧q < (xs.length:Int))&&decide (xs.length≤1000)) (k ⟨.tup [.agg [.ows 0],.val (.int .i64 (bkR xs q a).2)],[.row kb (bkR xs q a).1],[none]⟩) False
  | _,_,_=>False
def busy(xs:List (Elem kb))(q:Int):Bool:=anyB xs.length fun j=>strEq (atB xs j).2.2.1 (atB xs q.toNat).1
def g269:G1
  | [.agg [.ows 0],.val (.int .i64 q)],[.row [.str,.int .i64,.str,.str,.str,.str,.str,.str,.str,.str,.str] xs],k =>
    br (decide (0≤q∧q < (xs.length:Int))&&decide (xs.length≤1000)) (br (busy xs q) (k ⟨.tup [.agg [.ows 0],.val (.int .i64 6)],[.row kb xs],[none]⟩) (k ⟨.tup [.agg [.ows 0],.val (.int .i64 0)],[.row kb (xs.take q.toNat++xs.drop (q.toNat+1)),.row kb xs],[some 1]⟩)) False
  | _,_,_=>False
def lnW:List (Elem ks) := [(⟨#[97]⟩,()),(⟨#[98]⟩,()),(⟨#[99]⟩,()),(⟨#[100]⟩,()),(⟨#[101]⟩,()),(⟨#[102]⟩,()),(⟨#[103]⟩,()),(⟨#[118,111,108]⟩,())]
def nmT(b:List (Elem ku))(p:Int):ByteArray:=at1 lnW (pk b p 8).toNat
def g230:G1
  | [.ptr 0 0],[.box [.rsl [.int .u8] b,.val (.int .i64 p)]],k=>br (okY b&&(decide (b.length≤1048576)&&decide (0≤p∧p≤1000000))) (k ⟨.val (.string (nmT b p)),[.box [.rsl ku b,.val (.int .i64 (p+1))]],[some 0]⟩) False
  | _,_,_=>False
def mnyF:Nat→ByteArray→ByteArray→Nat→ByteArray
  | 0,o,_,_=>o
  | f+1,o,s,n=>match decide (0 < n) with
    | false=>o
    | true=>match n % 2==1 with
      | true=>mnyF f (o++s) (s++s) (n / 2)
      | false=>mnyF f o (s++s) (n / 2)
def mny(s:ByteArray)(n:Int):ByteArray:=mnyF (n.toNat+1) ⟨#[]⟩ s n.toNat
def g231:G1
  | [.val (.string s),.val (.int .i64 n)],[],k=>br (decide (s.size≤10)&&decide (0≤n∧n≤100)) (k ⟨.val (.string (mny s n)),[],[]⟩) False
  | _,_,_=>False
theorem lnB_le(xs:List (Elem kb))(t:ByteArray):lnB xs t≤xs.length:=ln_le _ _
theorem okB_lt{xs:List (Elem kb)}{t:ByteArray}(h:okB xs t=true):lnB xs t < xs.length:=by
  unfold okB at h
  rw [Bool.and_eq_true,decide_eq_true_eq] at h
  exact h.1
noncomputable def G236:Gk:=gk []
theorem hg236:HG Tryz.prog G236:=hg_nil
theorem e236(L:Lp)(R:Rp)(xs:List (Elem kb)):(bodyP Er G236 L Tryz.f236 [.agg [.rsl kb xs]] [] R)=(
    br (decide ((0+xs.length) * 168≤140737488355328)) (R (some ⟨.agg [.ows 0],[.row kb ([]++xs)],[]⟩)) False):=by kernel_rfl
theorem h236:G1Ok Tryz.prog 236 g236:=by
  intro args obs k h
  unfold g236 at h
  split at h
  · rename_i k xs
    obtain ⟨hl,h⟩:=brd h
    refine ⟨_,ctr_fn okr hg236 Tryz.func236 (by kernel_rfl) (by kernel_rfl) (by kernel_rfl) fun C => ?_,h⟩
    rw [e236]
    exact br_yes (by omega) rfl
  · exact h.elim
noncomputable def G268:Gk:=gk [(216,g216),(167,g167)]
theorem hg268:HG Tryz.prog G268:=(hg_cons h216 (hg_cons h167 hg_nil))
theorem e268(L:Lp)(R:Rp)(xs:List (Elem kb))(e:Elem kb):(bodyP Er G268 L Tryz.f268 [.agg [.ows 0],.agg (setC e)] [.row kb xs] R)=(
    br (decide (xs.length≤1048576)) (br (decide (ByteArray.size e.1≤1048576)) (br (!nameOk e.1) (R (some ⟨.tup [.agg [.ows 0],vI 5],[.row kb xs],[none]⟩)) (br (okB xs e.1) (R (some ⟨.tup [.agg [.ows 0],vI 2],[.row kb xs],[none]⟩)) (br ((↑xs.length:Int)==6) (R (some ⟨.tup [.agg [.ows 0],vI 4],[.row kb xs],[none]⟩)) (br (decide (0≤(↑(lnB xs e.1):Int)∧(↑(lnB xs e.1):Int)≤(↑xs.length:Int)∧(↑xs.length:Int)≤(↑xs.length:Int)∧(↑xs.length:Int)≤(↑xs.length:Int))) (br (decide ((0+(List.take ((↑xs.length:Int) - (↑(lnB xs e.1):Int)).toNat (List.drop (↑(lnB xs e.1):Int).toNat xs)).length) * 168≤140737488355328)) (br (decide ((0:Int)≤0∧0≤(↑(lnB xs e.1):Int)∧(↑(lnB xs e.1):Int)≤(↑xs.length:Int)∧(↑xs.length:Int)≤(↑xs.length:Int))) (br (decide (((List.take ((↑(lnB xs e.1):Int) - 0).toNat (List.drop 0 xs)).length + [e].length) * 168≤140737488355328)) (br (decide (((List.take ((↑(lnB xs e.1):Int) - 0).toNat (List.drop 0 xs) ++ [e]).length+([]++List.take ((↑xs.length:Int) - (↑(lnB xs e.1):Int)).toNat (List.drop (↑(lnB xs e.1):Int).toNat xs)).length) * 168≤140737488355328)) (R (some ⟨.tup [.agg [.ows 0],vI 0],[.row kb (List.take ((↑(lnB xs e.1):Int) - 0).toNat (List.drop 0 xs) ++ [e]++([]++List.take ((↑xs.length:Int) - (↑(lnB xs e.1):Int)).toNat (List.drop (↑(lnB xs e.1):Int).toNat xs)))],[none]⟩)) False) False) False) False) False)))) False) False):=by kernel_rfl
noncomputable def E269:Env:=Er.of Tryz.f269
noncomputable def G269:Gk:=gk []
noncomputable def lp269(n:Nat):Code:=(loopOf n (codeOf Tryz.f269)).getD .skip
noncomputable def ct269(L:Lp)(R:Rp)(n:Nat):Kt:=contOf E269 G269 L n (codeOf Tryz.f269) (endK E269 Tryz.f269.results.toList R)
noncomputable def rk269(L:Lp)(R:Rp)(n:Nat)(N:St→Prop):Kt:=rk (jof E269 (lp269 n)) N (ct269 L R n)
noncomputable def LOOP269(L:Lp)(R:Rp)(n:Nat)(st:St):Prop:=L (lp269 n) st (ct269 L R n)
theorem hg269:HG Tryz.prog G269:=hg_nil
theorem okf269:Ok Tryz.prog E269:=okr.of Tryz.f269
theorem e269(L:Lp)(R:Rp)(xs:List (Elem kb))(q:Int):(bodyP Er G269 L Tryz.f269 [.agg [.ows 0],.val (.int .i64 q)] [.row kb xs] R)=(
    LOOP269 L R 2 ⟨(vJ :: vI q :: .ptr 1 0 :: vJ :: .ptr 2 0 :: vJ :: vI 0 :: jn 35 []),[(0,.row kb xs),(1,.box [.ows 0]),(2,.box [.ows 3]),(3,.row kb [])],1000000,[some 0]⟩):=by kernel_rfl
noncomputable def G270:Gk:=gk []
theorem hg270:HG Tryz.prog G270:=hg_nil
theorem e270(L:Lp)(R:Rp)(xs:List (Elem kb))(q o:Int)(a c:ByteArray)(i:Int)(t:ByteArray):(bodyP Er G270 L Tryz.f270 [.agg [.ows 0],.val (.int .i64 q),.agg [.val (.int .i64 o),.val (.string a),.val (.string c),.val (.int .i64 i),.val (.string t)]] [.row kb xs] R)=(
    br (decide (i < 0)) (R (some ⟨.tup [.agg [.ows 0],vI 5],[.row kb xs],[none]⟩)) (br (decide (i≥8)) (R (some ⟨.tup [.agg [.ows 0],vI 5],[.row kb xs],[none]⟩)) (br (decide ((↑t.size:Int) > 24)) (R (some ⟨.tup [.agg [.ows 0],vI 5],[.row kb xs],[none]⟩)) (br (decide (0≤q∧q < (↑xs.length:Int))) (br ((xs.getD q.toNat (edflt kb)).2.1 != 1) (R (some ⟨.tup [.agg [.ows 0],vI 3],[.row kb xs],[none]⟩)) (br (decide (0≤q∧q < (↑xs.length:Int))) (br (i==0) (R (some ⟨.tup [.agg [.ows 0],vI 0],[.row kb (updR kb xs q.toNat 3 [Value.string t])],[none]⟩)) (br (i==1) (R (some ⟨.tup [.agg [.ows 0],vI 0],[.row kb (updR kb xs q.toNat 4 [Value.string t])],[none]⟩)) (br (i==2) (R (some ⟨.tup [.agg [.ows 0],vI 0],[.row kb (updR kb xs q.toNat 5 [Value.string t])],[none]⟩)) (br (i==3) (R (some ⟨.tup [.agg [.ows 0],vI 0],[.row kb (updR kb xs q.toNat 6 [Value.string t])],[none]⟩)) (br (i==4) (R (some ⟨.tup [.agg [.ows 0],vI 0],[.row kb (updR kb xs q.toNat 7 [Value.string t])],[none]⟩)) (br (i==5) (R (some ⟨.tup [.agg [.ows 0],vI 0],[.row kb (updR kb xs q.toNat 8 [Value.string t])],[none]⟩)) (br (i==6) (R (some ⟨.tup [.agg [.ows 0],vI 0],[.row kb (updR kb xs q.toNat 9 [Value.string t])],[none]⟩)) (br (i==7) (R (some ⟨.tup [.agg [.ows 0],vI 0],[.row kb (updR kb xs q.toNat 10 [Value.string t])],[none]⟩)) False)))))))) False)) False)))):=by kernel_rfl
noncomputable def G271:Gk:=gk [(216,g216)]
theorem hg271:HG Tryz.prog G271:=(hg_cons h216 hg_nil)
theorem e271(L:Lp)(R:Rp)(xs:List (Elem kb))(q:Int)(a:ByteArray):(bodyP Er G271 L Tryz.f271 [.agg [.ows 0],.val (.int .i64 q),.val (.string a)] [.row kb xs] R)=(
    br (decide (xs.length≤1048576)) (br (!okB xs a) (R (some ⟨.tup [.agg [.ows 0],vI 1],[.row kb xs],[none]⟩)) (br (decide (0≤q∧q < (↑xs.length:Int))) (br ((xs.getD q.toNat (edflt kb)).2.1 != 1) (R (some ⟨.tup [.agg [.ows 0],vI 3],[.row kb xs],[none]⟩)) (br (decide (0≤(↑(lnB xs a):Int)∧(↑(lnB xs a):Int) < (↑xs.length:Int))) (br ((xs.getD (↑(lnB xs a):Int).toNat (edflt kb)).2.1 != 2) (R (some ⟨.tup [.agg [.ows 0],vI 3],[.row kb xs],[none]⟩)) (br (decide (0≤(↑(lnB xs a):Int)∧(↑(lnB xs a):Int) < (↑xs.length:Int))) (br (decide (0≤q∧q < (↑xs.length:Int))) (br (!strEq (xs.getD (↑(lnB xs a):Int).toNat (edflt kb)).2.2.1 (xs.getD q.toNat (edflt kb)).1) (R (some ⟨.tup [.agg [.ows 0],vI 3],[.row kb xs],[none]⟩)) (br (decide (0≤(↑(lnB xs a):Int)∧(↑(lnB xs a):Int) < (↑xs.length:Int))) (br (decide (0≤q∧q < (↑xs.length:Int))) (R (some ⟨.tup [.agg [.ows 0],vI 0],[.row kb (updR kb xs q.toNat 3 [Value.string (xs.getD (↑(lnB xs a):Int).toNat (edflt kb)).2.2.2.1,Value.string (xs.getD (↑(lnB xs a):Int).toNat (edflt kb)).2.2.2.2.1,Value.string (xs.getD (↑(lnB xs a):Int).toNat (edflt kb)).2.2.2.2.2.1,Value.string (xs.getD (↑(lnB xs a):Int).toNat (edflt kb)).2.2.2.2.2.2.1,Value.string (xs.getD (↑(lnB xs a):Int).toNat (edflt kb)).2.2.2.2.2.2.2.1,Value.string (xs.getD (↑(lnB xs a):Int).toNat (edflt kb)).2.2.2.2.2.2.2.2.1,Value.string (xs.getD (↑(lnB xs a):Int).toNat (edflt kb)).2.2.2.2.2.2.2.2.2.1,Value.string (xs.getD (↑(lnB xs a):Int).toNat (edflt kb)).2.2.2.2.2.2.2.2.2.2.1])],[none]⟩)) False) False)) False) False)) False)) False)) False):=by kernel_rfl
noncomputable def G230:Gk:=gk [(114,g114)]
theorem hg230:HG Tryz.prog G230:=(hg_cons h114 hg_nil)
theorem e230(L:Lp)(R:Rp)(b:List (Elem [.int .u8]))(p:Int):(bodyP Er G230 L Tryz.f230 [.ptr 0 0] [.box [.rsl [.int .u8] b,.val (.int .i64 p)]] R)=(
    br (okY b&&(decide (b.length≤1048576)&&(decide (0≤p∧p≤1000000)&&true))) (R (some ⟨vS (at1 [({ data := #[97] },()),({ data := #[98] },()),({ data := #[99] },()),({ data := #[100] },()),({ data := #[101] },()),({ data := #[102] },()),({ data := #[103] },()),({ data := #[118,111,108] },())] (pk b p 8).toNat),[.box [.rsl ku b,vI (p+1)]],[some 0]⟩)) False):=by kernel_rfl
noncomputable def E231:Env:=Er.of Tryz.f231
noncomputable def G231:Gk:=gk []
noncomputable def lp231(n:Nat):Code:=(loopOf n (codeOf Tryz.f231)).getD .skip
noncomputable def ct231(L:Lp)(R:Rp)(n:Nat):Kt:=contOf E231 G231 L n (codeOf Tryz.f231) (endK E231 Tryz.f231.results.toList R)
noncomputable def rk231(L:Lp)(R:Rp)(n:Nat)(N:St→Prop):Kt:=rk (jof E231 (lp231 n)) N (ct231 L R n)
noncomputable def LOOP231(L:Lp)(R:Rp)(n:Nat)(st:St):Prop:=L (lp231 n) st (ct231 L R n)
theorem hg231:HG Tryz.prog G231:=hg_nil
theorem okf231:Ok Tryz.prog E231:=okr.of Tryz.f231
theorem e231(L:Lp)(R:Rp)(s:ByteArray)(n:Int):(bodyP Er G231 L Tryz.f231 [.val (.string s),.val (.int .i64 n)] [] R)=(
    LOOP231 L R 2 ⟨[vS s,vI n,vJ,vJ,vJ,vS { data := #[] },vJ,vJ,vJ,vJ,vJ,vJ,vJ,vJ,vJ,vJ,vJ,vJ,vJ,vJ],[],1000000,[]⟩):=by kernel_rfl
def st231(s o:ByteArray)(n:Int):St :=  ⟨(.val (.string s) :: .val (.int .i64 n) :: vJ :: vJ :: vJ :: .val (.string o) :: jn 14 []),[],1000000,[]⟩
theorem b231(L:Lp)(R:Rp)(N:St→Prop)(s o:ByteArray)(n:Int):(evP E231 G231 L (lp231 2) (st231 s o n) (rk231 L R 2 N))=(
    br (decide (n > 0)) (br (n.tmod 2==1) (br (decide (o.size+s.size≤9223372036854775807)) (br (decide (s.size+s.size≤9223372036854775807)) (N (st231 (s++s) (o++s) (IntKind.i64.wrap (n.tdiv 2)))) False) False) (br (decide (s.size+s.size≤9223372036854775807)) (N (st231 (s++s) o (IntKind.i64.wrap (n.tdiv 2)))) False)) (R (some ⟨vS o,[],[]⟩))):=by kernel_rfl
def st269(xs:List (Elem kb))(q i:Int):St :=  ⟨(vJ :: .val (.int .i64 q) :: AV.ptr 1 0 :: vJ :: AV.ptr 2 0 :: vJ :: .val (.int .i64 i) :: jn 35 []),[(0,.row kb xs),(1,AO.box [AV.ows 0]),(2,AO.box [AV.ows 3]),(3,AO.row kb [])],1000000,[some 0]⟩
theorem b269(L:Lp)(R:Rp)(N:St→Prop)(xs:List (Elem kb))(q i:Int):(evP E269 G269 L (lp269 2) (st269 xs q i) (rk269 L R 2 N))=(
    br (decide (i < (↑xs.length:Int))) (br (decide (0≤i∧i < (↑xs.length:Int))) (br (decide (0≤q∧q < (↑xs.length:Int))) (br (strEq (xs.getD i.toNat (edflt kb)).2.2.1 (xs.getD q.toNat (edflt kb)).1) (R (some ⟨.tup [.agg [.ows 0],vI 6],[.row kb xs],[none]⟩)) (N (st269 xs q (IntKind.i64.wrap (i+1))))) False) False) (br (decide ((0:Int)≤0∧0≤q∧q≤(↑xs.length:Int)∧(↑xs.length:Int)≤(↑xs.length:Int))) (br (decide ((0+(List.take (q - 0).toNat (List.drop 0 xs)).length) * 168≤140737488355328)) (br (decide (0≤IntKind.i64.wrap (q+1)∧IntKind.i64.wrap (q+1)≤(↑xs.length:Int)∧(↑xs.length:Int)≤(↑xs.length:Int)∧(↑xs.length:Int)≤(↑xs.length:Int))) (br (decide ((([]++List.take (q - 0).toNat (List.drop 0 xs)).length+(List.take ((↑xs.length:Int) - IntKind.i64.wrap (q+1)).toNat (List.drop (IntKind.i64.wrap (q+1)).toNat xs)).length) * 168≤140737488355328)) (R (some ⟨.tup [.agg [.ows 0],vI 0],[.row kb ([]++List.take (q - 0).toNat (List.drop 0 xs)++List.take ((↑xs.length:Int) - IntKind.i64.wrap (q+1)).toNat (List.drop (IntKind.i64.wrap (q+1)).toNat xs)),.row kb xs],[some 1]⟩)) False) False) False) False)):=by kernel_rfl
theorem h269:G1Ok Tryz.prog 269 g269:=by
  intro args obs k h
  unfold g269 at h
  split at h
  · rename_i k q xs
    obtain ⟨hb,hl,h⟩:=brb2 h
    rw [decide_eq_true_eq] at hb hl
    have hq:((q.toNat:Nat):Int)=q:=by omega
    rcases Bool.eq_false_or_eq_true (busy xs q) with hB | hB
    · rw [hB] at h
      refine ⟨_,ctr_fn okr hg269 Tryz.func269 (by kernel_rfl) (by kernel_rfl) (by kernel_rfl) fun C => ?_,h⟩
      rw [e269]
      refine loopAll okf269 hg269 (fun i=>st269 xs q i) xs.length (fun j => !strEq (atB xs j).2.2.1 (atB xs q.toNat).1) (by omega) fun N i hi hw next fails done => ?_
      show evP E269 G269 _ (lp269 2) (st269 xs q i) (rk269 _ _ 2 _)
      rw [b269,hw,Int.toNat_natCast]
      refine br_dec (fun h2=>br_yes ⟨by omega,h2⟩ (br_yes hb (br_intro (fun h3=>rfl) (fun h3=>next (by omega) (by show (!strEq (atB xs i).2.2.1 (atB xs q.toNat).1)=true; rw [h3]; rfl))))) (fun h2 => ?_)
      have hd:=done (by omega)
      unfold busy at hB
      rw [anyB_all,hd] at hB
      cases hB
    · rw [hB] at h
      refine ⟨_,ctr_fn okr hg269 Tryz.func269 (by kernel_rfl) (by kernel_rfl) (by kernel_rfl) fun C => ?_,h⟩
      rw [e269]
      have hall : ∀ j,j < xs.length→strEq (atB xs j).2.2.1 (atB xs q.toNat).1=false:=fun j hj=>anyB_at hB hj
      refine loopUp okf269 hg269 (α:=Unit) (fun i _=>st269 xs q i) xs.length (fun _ _=>True) (fun N i _ hi _ next => ?_) () trivial
      show evP E269 G269 _ (lp269 2) (st269 xs q i) (rk269 _ _ 2 _)
      rw [b269,wrap_id (n:=(i:Int)+1) (by omega) (by omega),wrap_id (n:=q+1) (by omega) (by omega),Int.toNat_natCast]
      refine br_dec (fun h2=>br_yes ⟨by omega,h2⟩ (br_yes hb (br_f (hall i (by omega)) (next (by omega) () trivial)))) (fun h2 => ?_)
      have l1:(xs.take q.toNat).length≤xs.length:=by rw [List.length_take]; omega
      have l2:(xs.drop (q.toNat+1)).length≤xs.length:=by rw [List.length_drop]; omega
      rw [Int.sub_zero,List.drop_zero,show (q+1).toNat=q.toNat+1 by omega,show ((xs.length:Int) - (q+1)).toNat=xs.length - (q.toNat+1) by omega,List.take_of_length_le (l:=xs.drop (q.toNat+1)) (by rw [List.length_drop]; exact Nat.le_refl _),List.nil_append]
      exact br_yes ⟨by omega,by omega,by omega,by omega⟩ (br_yes (by omega) (br_yes ⟨by omega,by omega,by omega,by omega⟩ (br_yes (by omega) rfl)))
  · exact h.elim
theorem h270:G1Ok Tryz.prog 270 g270:=by
  intro args obs k h
  unfold g270 at h
  split at h
  · rename_i k q o a c i t xs
    obtain ⟨hb,h⟩:=brd h
    refine ⟨_,ctr_fn okr hg270 Tryz.func270 (by kernel_rfl) (by kernel_rfl) (by kernel_rfl) fun C => ?_,h⟩
    rw [e270]
    have hu : ∀ n:Nat,i=n→updR kb xs q.toNat (3+n) [.string t]=updR kb xs q.toNat (3+i.toNat) [.string t]:=fun n hn=>by rw [hn,Int.toNat_natCast]
    unfold ptR
    refine br_intro (fun h1 => ?_) (fun h1=>br_intro (fun h2 => ?_) (fun h2=>br_intro (fun h3 => ?_) (fun h3=>br_yes hb (br_intro (fun h4 => ?_) (fun h4=>br_yes hb ?_)))))
    · rw [h1]; rfl
    · rw [h1,h2]; rfl
    · rw [h1,h2,h3]; rfl
    · have h4:((atB xs q.toNat).2.1 != 1)=true:=h4
      rw [h1,h2,h3,h4]; rfl
    · have h4:((atB xs q.toNat).2.1 != 1)=false:=h4
      have g1:=of_decide_eq_false h1
      have g2:=of_decide_eq_false h2
      rw [h1,h2,h3,h4]
      refine br_intro (fun h5 => ?_) (fun h5=>br_intro (fun h6 => ?_) (fun h6=>br_intro (fun h115 => ?_) (fun h115=>br_intro (fun h116 => ?_) (fun h116=>br_intro (fun h9 => ?_) (fun h9=>br_intro (fun h10 => ?_) (fun h10=>br_intro (fun h11 => ?_) (fun h11=>br_intro (fun h12 => ?_) (fun h12 => ?_))))))))
      · rw [← hu 0 (eq_of_beq h5)]; rfl
      · rw [← hu 1 (eq_of_beq h6)]; rfl
      · rw [← hu 2 (eq_of_beq h115)]; rfl
      · rw [← hu 3 (eq_of_beq h116)]; rfl
      · rw [← hu 4 (eq_of_beq h9)]; rfl
      · rw [← hu 5 (eq_of_beq h10)]; rfl
      · rw [← hu 6 (eq_of_beq h11)]; rfl
      · rw [← hu 7 (eq_of_beq h12)]; rfl
      · have q5:i≠0:=by simpa using h5
        have q6:i≠1:=by simpa using h6
        have q7:i≠2:=by simpa using h115
        have q8:i≠3:=by simpa using h116
        have q9:i≠4:=by simpa using h9
        have q10:i≠5:=by simpa using h10
        have q11:i≠6:=by simpa using h11
        have q12:i≠7:=by simpa using h12
        omega
  · exact h.elim
theorem h271:G1Ok Tryz.prog 271 g271:=by
  intro args obs k h
  unfold g271 at h
  split at h
  · rename_i k q a xs
    obtain ⟨hb,hl,h⟩:=brb2 h
    rw [decide_eq_true_eq] at hb hl
    refine ⟨_,ctr_fn okr hg271 Tryz.func271 (by kernel_rfl) (by kernel_rfl) (by kernel_rfl) fun C => ?_,h⟩
    rw [e271]
    rw [Int.toNat_natCast]
    unfold bkR
    refine br_yes (by omega) (br_not (fun h1 => ?_) (fun h1 => ?_))
    · rw [h1]
    have hlt:=okB_lt h1
    have hj:0≤(lnB xs a:Int)∧(lnB xs a:Int) < xs.length:=by omega
    refine br_yes hb (br_intro (fun h2 => ?_) (fun h2=>br_yes hj (br_intro (fun h3 => ?_) (fun h3=>br_yes hj (br_yes hb (br_intro (fun h4 => ?_) (fun h4=>br_yes hj (br_yes hb ?_))))))))
    · have h2:((atB xs q.toNat).2.1 != 1)=true:=h2
      rw [h1,h2]; rfl
    · have h2:((atB xs q.toNat).2.1 != 1)=false:=h2
      have h3:((atB xs (lnB xs a)).2.1 != 2)=true:=h3
      rw [h1,h2,h3]; rfl
    · have h2:((atB xs q.toNat).2.1 != 1)=false:=h2
      have h3:((atB xs (lnB xs a)).2.1 != 2)=false:=h3
      have h4:(!strEq (atB xs (lnB xs a)).2.2.1 (atB xs q.toNat).1)=true:=h4
      rw [h1,h2,h3,h4]; rfl
    · have h2:((atB xs q.toNat).2.1 != 1)=false:=h2
      have h3:((atB xs (lnB xs a)).2.1 != 2)=false:=h3
      have h4:(!strEq (atB xs (lnB xs a)).2.2.1 (atB xs q.toNat).1)=false:=h4
      rw [h1,h2,h3,h4]; rfl
  · exact h.elim
theorem h230:G1Ok Tryz.prog 230 g230:=by
  intro args obs k h
  unfold g230 at h
  split at h
  · rename_i k b p
    obtain ⟨hq,h⟩:=br_and h
    simp only [Bool.and_eq_true,decide_eq_true_eq] at hq
    obtain ⟨hb,hl,hp0,hp1⟩:=hq
    refine ⟨_,ctr_fn okr hg230 Tryz.func230 (by kernel_rfl) (by kernel_rfl) (by kernel_rfl) fun C => ?_,h⟩
    rw [e230]
    refine br_t (by rw [hb,decide_eq_true hl,decide_eq_true (show 0≤p∧p≤1000000 by omega)]; rfl) ?_
    rfl
  · exact h.elim
theorem h231:G1Ok Tryz.prog 231 g231:=by
  intro args obs k h
  unfold g231 at h
  split at h
  · rename_i k s n
    obtain ⟨hs,hn,h⟩:=brb2 h
    rw [decide_eq_true_eq] at hs hn
    refine ⟨_,ctr_fn okr hg231 Tryz.func231 (by kernel_rfl) (by kernel_rfl) (by kernel_rfl) fun C => ?_,h⟩
    rw [e231]
    obtain ⟨m,hm⟩ : ∃ m:Nat,n=m:=⟨n.toNat,by omega⟩
    subst hm
    refine loopR okf231 hg231 (ι := {p:ByteArray × ByteArray × Nat × Nat // p.2.2.1 < p.2.2.2∧p.2.2.1≤100∧p.2.2.1 * p.1.size≤1000∧p.2.1.size+p.2.2.1 * p.1.size≤1000∧mnyF p.2.2.2 p.2.1 p.1 p.2.2.1=mny s (m:Int)}) (fun p=>st231 p.1.1 p.1.2.1 p.1.2.2.1) (fun p=>p.1.2.2.1) (fun ⟨(u,o,j,f),hf,h0,h1,h2,he⟩ => ?_) ⟨(s,⟨#[]⟩,m,m+1),by simp,by show m≤100; omega,?_,?_,?_⟩
    · show evP E231 G231 _ (lp231 2) (st231 u o j) (rk231 _ _ 2 _)
      simp only at hf h0 h1 h2 he
      have hd:(j:Int).tdiv 2=((j / 2:Nat):Int):=rfl
      have hmod:(j:Int).tmod 2=((j % 2:Nat):Int):=rfl
      rw [b231,hd,hmod,wrap_id (by omega) (by omega)]
      obtain ⟨f,rfl⟩ : ∃ g,f=g+1:=⟨f - 1,by omega⟩
      refine br_dec (fun h3 => ?_) (fun h3 => ?_)
      · have hj:0 < j:=by omega
        have hu:u.size≤j * u.size:=Nat.le_mul_of_pos_left _ hj
        have huu:(u++u).size=2 * u.size:=by rw [ByteArray.size_append]; omega
        have hhalf:j / 2 * (2 * u.size)≤j * u.size:=by
          rw [← Nat.mul_assoc]
          exact Nat.mul_le_mul_right _ (by omega)
        unfold mnyF at he
        rw [decide_eq_true hj] at he
        refine br_intro (fun h4=>br_yes (by omega) (br_yes (by omega) ?_)) (fun h4=>br_yes (by omega) ?_)
        · have e1:j % 2=1:=by have:=eq_of_beq h4; omega
          have e2:(j % 2==1)=true:=by rw [e1]; rfl
          have e3:j / 2 * (2 * u.size)+u.size=j * u.size:=by
            have:j=j / 2 * 2+1:=by omega
            conv=>rhs; rw [this,Nat.add_mul]
            rw [← Nat.mul_assoc]; omega
          refine ⟨⟨(u++u,o++u,j / 2,f),by show j / 2 < f; omega,by show j / 2≤100; omega,by show j / 2 * (u++u).size≤1000; rw [huu]; omega,by show (o++u).size+j / 2 * (u++u).size≤1000; rw [huu,ByteArray.size_append]; omega,?_⟩,rfl,by show j / 2 < j; omega⟩
          rw [e2] at he
          exact he
        · have e1:j % 2≠1:=fun e=>by rw [e] at h4; exact absurd h4 (by decide)
          have e2:(j % 2==1)=false:=by simpa using e1
          refine ⟨⟨(u++u,o,j / 2,f),by show j / 2 < f; omega,by show j / 2≤100; omega,by show j / 2 * (u++u).size≤1000; rw [huu]; omega,by show o.size+j / 2 * (u++u).size≤1000; rw [huu]; omega,?_⟩,rfl,by show j / 2 < j; omega⟩
          rw [e2] at he
          exact he
      · have hj:j=0:=by omega
        subst hj
        show _=_
        unfold mnyF at he
        rw [← he]
        rfl
    · show m * s.size≤1000
      have:m * s.size≤100 * 10:=Nat.mul_le_mul (by omega) hs
      omega
    · show 0+m * s.size≤1000
      have:m * s.size≤100 * 10:=Nat.mul_le_mul (by omega) hs
      omega
    · show mnyF (m+1) ⟨#[]⟩ s m=mny s (m:Int)
      unfold mny
      rw [Int.toNat_natCast]
  · exact h.elim
theorem h268:G1Ok Tryz.prog 268 g268:=by
  intro args obs k h
  unfold g268 at h
  split at h
  · rename_i us xs
    split at h
    · rename_i e he
      obtain ⟨hl,hs,h⟩:=brb2 h
      rw [decide_eq_true_eq] at hl hs
      obtain rfl:us=setC e:=by
        unfold elemOf at he
        split at he
        · rename_i vs hvs
          have h1:=ofVals_vals kb vs e he
          have h2:=flatAVs_inv hvs
          rw [h2,h1]
          rfl
        · cases he
      refine ⟨_,ctr_fn okr hg268 Tryz.func268 (by kernel_rfl) (by kernel_rfl) (by kernel_rfl) fun C => ?_,h⟩
      have hk:=lnB_le xs e.1
      rw [e268,Int.toNat_natCast,Int.sub_zero,Int.toNat_natCast,show ((xs.length:Int) - (lnB xs e.1:Int)).toNat=xs.length - lnB xs e.1 by omega,List.drop_zero,List.take_of_length_le (l:=xs.drop (lnB xs e.1)) (by rw [List.length_drop]; exact Nat.le_refl _),List.nil_append]
      unfold nwR
      have l1:(xs.take (lnB xs e.1)).length≤xs.length:=by rw [List.length_take]; omega
      have l2:(xs.drop (lnB xs e.1)).length≤xs.length:=by rw [List.length_drop]; omega
      refine br_yes (by omega) (br_yes (Nat.le_trans hs (by decide)) (br_not (fun h1 => ?_) (fun h1=>br_intro (fun h2 => ?_) (fun h2=>br_intro (fun h3 => ?_) (fun h3 => ?_)))))
      · rw [h1]
      · rw [h1,h2]
      · rw [h1,h2,h3]
      · rw [h1,h2,h3]
        refine br_yes ⟨by omega,by omega,by omega,by omega⟩ (br_yes (by omega) (br_yes ⟨by omega,by omega,by omega,by omega⟩ (br_yes ?_ (br_yes ?_ rfl))))
        · show ((xs.take (lnB xs e.1)).length+1) * 168≤_
          omega
        · rw [List.length_append]
          show ((xs.take (lnB xs e.1)).length+1+(xs.drop (lnB xs e.1)).length) * 168≤_
          omega
    · exact h.elim
  · exact h.elim
end Go.Proofs.YtkjnijddbiconaaGreatDoor.Ev