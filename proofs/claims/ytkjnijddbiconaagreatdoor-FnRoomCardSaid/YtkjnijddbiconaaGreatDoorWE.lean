/- Lists of dedup entries that are drawn: counts, entries that are added. -/
import Derived.Test.YtkjnijddbiconaaGreatDoorWB
import Derived.Test.YtkjnijddbiconaaGreatDoorC7
import Derived.Test.YtkjnijddbiconaaGreatDoorEvD
import Derived.Test.YtkjnijddbiconaaGreatDoorWA
namespace Go.Proofs.YtkjnijddbiconaaGreatDoor.Ev
open Go
set_option linter.unusedVariables false
set_option linter.unusedSimpArgs false
set_option maxRecDepth 100000
def g238:G1
  | [.rsl [.int .i64,.int .i64,.int .i64] xs],[],k=>br (decide (xs.length≤1048576)) (k ⟨.ows 0,[.row k3 xs],[]⟩) False
  | _,_,_=>False
noncomputable def G238:Gk:=gk []
theorem hg238:HG Tryz.prog G238:=hg_nil
theorem e238(L:Lp)(R:Rp)(xs:List (Elem k3)):(bodyP Ef G238 L Tryz.f238 [.rsl k3 xs] [] R)=(
    br (decide ((0+xs.length) * 24≤140737488355328)) (R (some ⟨.ows 0,[.row k3 ([]++xs)],[]⟩)) False):=by kernel_rfl
theorem h238:G1Ok Tryz.prog 238 g238:=by
  intro args obs k h
  unfold g238 at h
  split at h
  · rename_i k xs
    obtain ⟨hl,h⟩:=brd h
    refine ⟨_,ctr_fn okf hg238 Tryz.func238 (by kernel_rfl) (by kernel_rfl) (by kernel_rfl) fun C => ?_,h⟩
    rw [e238]
    exact br_yes (by omega) rfl
  · exact h.elim
def incE(e:Elem k3):Elem k3:=(e.1,e.2.1,IntKind.i64.wrap (e.2.2.1+1),())
def daR(xs:List (Elem k3))(s t:Int):List (Elem k3) × Bool:=match ddtOk xs with
  | false=>([],false)
  | true=>match entryOk (s,t,1,()) with
    | false=>(xs,false)
    | true=>match okD xs t with
      | true=>match (at3 xs (lnD xs t)).1 != s || (at3 xs (lnD xs t)).2.2.1==1000 with
        | true=>(xs,false)
        | false=>(xs.set (lnD xs t) (incE (at3 xs (lnD xs t))),true)
      | false=>match (xs.length:Int)==48 with
        | true=>(xs,false)
        | false=>(xs.take (lnD xs t) ++ [(s,t,1,())]++xs.drop (lnD xs t),true)
def g191:G1
  | [.rsl [.int .i64,.int .i64,.int .i64] xs,.val (.int .i64 s),.val (.int .i64 t)],[],k=>br (decide (xs.length≤1048576)) (k ⟨.tup [.ows 0,.val (.bool (daR xs s t).2)],[.row k3 (daR xs s t).1],[]⟩) False
  | _,_,_=>False
theorem lnD_le(xs:List (Elem k3))(t:Int):lnD xs t≤xs.length:=ln_le _ _
noncomputable def G191:Gk:=gk [(72,g72),(46,g112),(238,g238),(120,g186)]
theorem hg191:HG Tryz.prog G191:=(hg_cons h72 (hg_cons h46 (hg_cons h238 (hg_cons h120 hg_nil))))
theorem e191(L:Lp)(R:Rp)(xs:List (Elem k3))(s t:Int):(bodyP Ef G191 L Tryz.f191 [.rsl k3 xs,.val (.int .i64 s),.val (.int .i64 t)] [] R)=(
    br (decide (xs.length≤1048576)) (br (!ddtOk xs) (R (some ⟨.tup [.ows 0,vB false],[.row k3 []],[]⟩)) (br (decide (xs.length≤1048576)) (br (decide (xs.length≤1048576)) (br (!entryOk (s,t,1,())) (R (some ⟨.tup [.ows 0,vB false],[.row k3 xs],[]⟩)) (br (okD xs t) (br (decide (0≤(↑(lnD xs t):Int)∧(↑(lnD xs t):Int) < (↑xs.length:Int))) (br ((xs.getD (↑(lnD xs t):Int).toNat (edflt k3)).1 != s) (R (some ⟨.tup [.ows 0,vB false],[.row k3 xs],[]⟩)) (br (decide (0≤(↑(lnD xs t):Int)∧(↑(lnD xs t):Int) < (↑xs.length:Int))) (br ((xs.getD (↑(lnD xs t):Int).toNat (edflt k3)).2.2.1==1000) (R (some ⟨.tup [.ows 0,vB false],[.row k3 xs],[]⟩)) (br (decide (0≤(↑(lnD xs t):Int)∧(↑(lnD xs t):Int) < (↑xs.length:Int))) (br (decide (0≤(↑(lnD xs t):Int)∧(↑(lnD xs t):Int) < (↑xs.length:Int))) (R (some ⟨.tup [.ows 0,vB true],[.row k3 (xs.set (↑(lnD xs t):Int).toNat ((xs.getD (↑(lnD xs t):Int).toNat (edflt k3)).1,(xs.getD (↑(lnD xs t):Int).toNat (edflt k3)).2.1,IntKind.i64.wrap ((xs.getD (↑(lnD xs t):Int).toNat (edflt k3)).2.2.1+1),()))],[]⟩)) False) False)) False)) False) (br ((↑xs.length:Int)==48) (R (some ⟨.tup [.ows 0,vB false],[.row k3 xs],[]⟩)) (br (decide (0≤(↑(lnD xs t):Int)∧(↑(lnD xs t):Int)≤(↑xs.length:Int)∧(↑xs.length:Int)≤(↑xs.length:Int)∧(↑xs.length:Int)≤(↑xs.length:Int))) (br (decide ((List.take ((↑xs.length:Int) - (↑(lnD xs t):Int)).toNat (List.drop (↑(lnD xs t):Int).toNat xs)).length≤1048576)) (br (decide ((0:Int)≤0∧0≤(↑(lnD xs t):Int)∧(↑(lnD xs t):Int)≤(↑xs.length:Int)∧(↑xs.length:Int)≤(↑xs.length:Int))) (br (decide (((List.take ((↑(lnD xs t):Int) - 0).toNat (List.drop 0 xs)).length + [(s,t,1,())].length) * 24≤140737488355328)) (br (decide (((List.take ((↑(lnD xs t):Int) - 0).toNat (List.drop 0 xs) ++ [(s,t,1,())]).length+(List.take ((↑xs.length:Int) - (↑(lnD xs t):Int)).toNat (List.drop (↑(lnD xs t):Int).toNat xs)).length) * 24≤140737488355328)) (R (some ⟨.tup [.ows 0,vB true],[.row k3 (List.take ((↑(lnD xs t):Int) - 0).toNat (List.drop 0 xs) ++ [(s,t,1,())]++List.take ((↑xs.length:Int) - (↑(lnD xs t):Int)).toNat (List.drop (↑(lnD xs t):Int).toNat xs))],[]⟩)) False) False) False) False) False)))) False) False)) False):=by kernel_rfl
theorem h191:G1Ok Tryz.prog 191 g191:=by
  intro args obs k h
  unfold g191 at h
  split at h
  · rename_i k xs s t
    obtain ⟨hl,h⟩:=br_and h
    have hl':=of_decide_eq_true hl
    have hk:=lnD_le xs t
    refine ⟨_,ctr_fn okf hg191 Tryz.func191 (by kernel_rfl) (by kernel_rfl) (by kernel_rfl) fun C => ?_,h⟩
    rw [e191]
    rw [Int.toNat_natCast,Int.sub_zero,Int.toNat_natCast,show ((xs.length:Int) - (lnD xs t:Int)).toNat=xs.length - lnD xs t by omega,List.drop_zero,List.take_of_length_le (l:=xs.drop (lnD xs t)) (by rw [List.length_drop]; exact Nat.le_refl _)]
    unfold daR
    refine br_t hl (br_not (fun h1 => ?_) (fun h1=>br_t hl (br_t hl (br_not (fun h2 => ?_) (fun h2=>br_intro (fun h3 => ?_) (fun h3=>br_intro (fun h4 => ?_) (fun h4 => ?_)))))))
    · rw [h1]
    · rw [h1,h2]
    · have hlt:=okD_lt h3
      have hb:0≤(lnD xs t:Int)∧(lnD xs t:Int) < xs.length:=by omega
      refine br_yes hb (br_intro (fun h4 => ?_) (fun h4=>br_yes hb (br_intro (fun h5 => ?_) (fun h5=>br_yes hb (br_yes hb ?_)))))
      · have h4:((at3 xs (lnD xs t)).1 != s)=true:=h4
        rw [h1,h2,h3,h4]
        rfl
      · have h4:((at3 xs (lnD xs t)).1 != s)=false:=h4
        have h5:((at3 xs (lnD xs t)).2.2.1==1000)=true:=h5
        rw [h1,h2,h3,h4,h5]
        rfl
      · have h4:((at3 xs (lnD xs t)).1 != s)=false:=h4
        have h5:((at3 xs (lnD xs t)).2.2.1==1000)=false:=h5
        rw [h1,h2,h3,h4,h5]
        rfl
    · rw [h1,h2,h3,h4]
    · have e1:(xs.drop (lnD xs t)).length≤xs.length:=by rw [List.length_drop]; omega
      have e2:(xs.take (lnD xs t)).length≤xs.length:=by rw [List.length_take]; omega
      rw [h1,h2,h3,h4]
      refine br_yes ⟨by omega,by omega,by omega,by omega⟩ (br_yes (by omega) (br_yes ⟨by omega,by omega,by omega,by omega⟩ (br_yes ?_ (br_yes ?_ rfl))))
      · show ((xs.take (lnD xs t)).length+1) * 24≤_
        omega
      · rw [List.length_append]
        show ((xs.take (lnD xs t)).length+1+(xs.drop (lnD xs t)).length) * 24≤_
        omega
  · exact h.elim
abbrev D3:=List (Elem ks) × List (Elem ks) × List (Elem kl)
def dwX(a b:List (Elem ks))(c:List (Elem kl))(s i:Int)(t:ByteArray):D3 × Bool:=match dkOk a b c with
  | false=>(([],[],[]),false)
  | true=>match !(secOk a.length s i&&decide ((t.size:Int)≤420)) || ((c.length:Int)==600) with
    | true=>((a,b,c),false)
    | false=>((a,b,c ++ [(s,i,t,())]),true)
def g237w:G1
  | [.agg [.rsl [.str] a,.rsl [.str] b,.rsl [.int .i64,.int .i64,.str] c],.val (.int .i64 s),.val (.int .i64 i),.val (.string t)],[],k =>
    br (smD a b c) (k ⟨.tup [.agg [.ows 0,.ows 1,.ows 2],.val (.bool (dwX a b c s i t).2)],[.row ks (dwX a b c s i t).1.1,.row ks (dwX a b c s i t).1.2.1,.row kl (dwX a b c s i t).1.2.2],[]⟩) False
  | _,_,_=>False
def bwX(a b:List (Elem ks))(c:List (Elem kl))(i:Int)(t:ByteArray):D3 × Bool:=match dkOk a b c with
  | false=>(([],[],[]),false)
  | true=>match decide ((c.length:Int) > 598) with
    | true=>((a,b,c),false)
    | false=>match (dwX a b c 0 i t).2 with
      | false=>dwX a b c 0 i t
      | true=>dwX (dwX a b c 0 i t).1.1 (dwX a b c 0 i t).1.2.1 (dwX a b c 0 i t).1.2.2 1 i t
def g189w:G1
  | [.agg [.rsl [.str] a,.rsl [.str] b,.rsl [.int .i64,.int .i64,.str] c],.val (.int .i64 i),.val (.string t)],[],k =>
    br (smD a b c) (k ⟨.tup [.agg [.ows 0,.ows 1,.ows 2],.val (.bool (bwX a b c i t).2)],[.row ks (bwX a b c i t).1.1,.row ks (bwX a b c i t).1.2.1,.row kl (bwX a b c i t).1.2.2],[]⟩) False
  | _,_,_=>False
theorem smD_iff{a b:List (Elem ks)}{c:List (Elem kl)}:smD a b c=true↔a.length≤1048576∧b.length≤1048576∧c.length≤1048576:=by
  simp [smD,and_assoc]
def fitD(a b:List (Elem ks))(c:List (Elem kl)):Prop:=a.length≤120∧b.length≤1000∧c.length≤1000
theorem fitD_sm{a b:List (Elem ks)}{c:List (Elem kl)}(h:fitD a b c):smD a b c=true:=by
  obtain ⟨h1,h2,h3⟩:=h
  exact smD_iff.2 ⟨by omega,by omega,by omega⟩
theorem fitD_nil:fitD [] [] []:=⟨Nat.zero_le _,Nat.zero_le _,Nat.zero_le _⟩
theorem dkOk_c{a b:List (Elem ks)}{c:List (Elem kl)}(h:dkOk a b c=true):c.length≤600:=by
  simp only [dkOk,Bool.and_eq_true,decide_eq_true_eq] at h
  exact h.1.1.1.2
theorem dwX_fit{a b:List (Elem ks)}{c:List (Elem kl)}(h:fitD a b c)(s i:Int)(t:ByteArray):fitD (dwX a b c s i t).1.1 (dwX a b c s i t).1.2.1 (dwX a b c s i t).1.2.2:=by
  unfold dwX
  cases hd:dkOk a b c with
  | false=>exact fitD_nil
  | true =>
    have hc:=dkOk_c hd
    cases he : !(secOk a.length s i&&decide ((t.size:Int)≤420)) || ((c.length:Int)==600) with
    | true=>exact h
    | false=>exact ⟨h.1,h.2.1,by show (c ++ [(s,i,t,())]).length≤1000; rw [List.length_append]; show c.length+1≤1000; omega⟩
theorem bwX_fit{a b:List (Elem ks)}{c:List (Elem kl)}(h:fitD a b c)(i:Int)(t:ByteArray):fitD (bwX a b c i t).1.1 (bwX a b c i t).1.2.1 (bwX a b c i t).1.2.2:=by
  unfold bwX
  cases hd:dkOk a b c with
  | false=>exact fitD_nil
  | true =>
    cases he:decide ((c.length:Int) > 598) with
    | true=>exact h
    | false =>
      have h1:=dwX_fit h 0 i t
      cases hf:(dwX a b c 0 i t).2 with
      | false=>exact h1
      | true=>exact dwX_fit h1 1 i t
noncomputable def G237w:Gk:=gk [(79,g79),(227,g227),(148,g148)]
theorem hg237w:HG Tryz.prog G237w:=(hg_cons h79 (hg_cons h227 (hg_cons h148 hg_nil)))
theorem e237w(L:Lp)(R:Rp)(a b:List (Elem ks))(c:List (Elem kl))(s i:Int)(t:ByteArray):(bodyP E0 G237w L Tryz.f237 [.agg [.rsl ks a,.rsl ks b,.rsl kl c],.val (.int .i64 s),.val (.int .i64 i),.val (.string t)] [] R)=(
    br (smD a b c) (br (!dkOk a b c) (R (some ⟨.tup [.agg [.ows 0,.ows 1,.ows 2],vB false],[.row ks [],.row ks [],.row kl []],[]⟩)) (br (smD a b c) (br (!(secOk a.length s i&&decide ((↑t.size:Int)≤420))) (R (some ⟨.tup [.agg [.ows 0,.ows 1,.ows 2],vB false],[.row ks a,.row ks b,.row kl c],[]⟩)) (br ((↑c.length:Int)==600) (R (some ⟨.tup [.agg [.ows 0,.ows 1,.ows 2],vB false],[.row ks a,.row ks b,.row kl c],[]⟩)) (br (decide ((c.length + [(s,i,t,())].length) * 32≤140737488355328)) (R (some ⟨.tup [.agg [.ows 0,.ows 1,.ows 2],vB true],[.row ks a,.row ks b,.row kl (c ++ [(s,i,t,())])],[]⟩)) False))) False)) False):=by kernel_rfl
theorem h237w:G1Ok Tryz.prog 237 g237w:=by
  intro args obs k h
  unfold g237w at h
  split at h
  · rename_i k a b c s i t
    obtain ⟨hp,h⟩:=br_and h
    have hp':=smD_iff.1 hp
    refine ⟨_,ctr_fn ok0 hg237w Tryz.func237 (by kernel_rfl) (by kernel_rfl) (by kernel_rfl) fun C => ?_,h⟩
    rw [e237w]
    unfold dwX
    refine br_t hp (br_not (fun h1 => ?_) (fun h1=>br_t hp (br_not (fun h2 => ?_) (fun h2=>br_intro (fun h3 => ?_) (fun h3=>br_yes ?_ ?_)))))
    · rw [h1]
    · rw [h1,h2]
      rfl
    · rw [h1,h2,h3]
      rfl
    · show (c.length+1) * 32≤_
      omega
    · rw [h1,h2,h3]
      rfl
  · exact h.elim
noncomputable def G189w:Gk:=gk [(79,g79),(227,g227),(237,g237w)]
theorem hg189w:HG Tryz.prog G189w:=(hg_cons h79 (hg_cons h227 (hg_cons h237w hg_nil)))
theorem e189w(L:Lp)(R:Rp)(a b:List (Elem ks))(c:List (Elem kl))(i:Int)(t:ByteArray):(bodyP E0 G189w L Tryz.f189 [.agg [.rsl ks a,.rsl ks b,.rsl kl c],.val (.int .i64 i),.val (.string t)] [] R)=(
    br (smD a b c) (br (!dkOk a b c) (R (some ⟨.tup [.agg [.ows 0,.ows 1,.ows 2],vB false],[.row ks [],.row ks [],.row kl []],[]⟩)) (br (decide ((↑c.length:Int) > 598)) (br (smD a b c) (R (some ⟨.tup [.agg [.ows 0,.ows 1,.ows 2],vB false],[.row ks a,.row ks b,.row kl c],[]⟩)) False) (br (smD a b c) (br (!(dwX a b c 0 i t).2) (R (some ⟨.tup [.agg [.ows 0,.ows 1,.ows 2],vB false],[.row ks (dwX a b c 0 i t).1.1,.row ks (dwX a b c 0 i t).1.2.1,.row kl (dwX a b c 0 i t).1.2.2],[]⟩)) (br (smD (dwX a b c 0 i t).1.1 (dwX a b c 0 i t).1.2.1 (dwX a b c 0 i t).1.2.2) (R (some ⟨.tup [.agg [.ows 0,.ows 1,.ows 2],vB (dwX (dwX a b c 0 i t).1.1 (dwX a b c 0 i t).1.2.1 (dwX a b c 0 i t).1.2.2 1 i t).2],[.row ks (dwX (dwX a b c 0 i t).1.1 (dwX a b c 0 i t).1.2.1 (dwX a b c 0 i t).1.2.2 1 i t).1.1,.row ks (dwX (dwX a b c 0 i t).1.1 (dwX a b c 0 i t).1.2.1 (dwX a b c 0 i t).1.2.2 1 i t).1.2.1,.row kl (dwX (dwX a b c 0 i t).1.1 (dwX a b c 0 i t).1.2.1 (dwX a b c 0 i t).1.2.2 1 i t).1.2.2],[]⟩)) False)) False))) False):=by kernel_rfl
theorem h189w:G1Ok Tryz.prog 189 g189w:=by
  intro args obs k h
  unfold g189w at h
  split at h
  · rename_i k a b c i t
    obtain ⟨hp,h⟩:=br_and h
    have hp':=smD_iff.1 hp
    refine ⟨_,ctr_fn ok0 hg189w Tryz.func189 (by kernel_rfl) (by kernel_rfl) (by kernel_rfl) fun C => ?_,h⟩
    rw [e189w]
    unfold bwX
    refine br_t hp (br_not (fun h1 => ?_) (fun h1=>br_intro (fun h2=>br_t hp ?_) (fun h2=>br_t hp (br_not (fun h3 => ?_) (fun h3=>br_t ?_ ?_)))))
    · rw [h1]
    · rw [h1,h2]
    · rw [h1,h2,h3]
      simp only [h3]
    · refine smD_iff.2 ?_
      have hc:=dkOk_c h1
      unfold dwX
      rw [h1]
      cases he : !(secOk a.length 0 i&&decide ((t.size:Int)≤420)) || ((c.length:Int)==600) with
      | true=>exact hp'
      | false=>exact ⟨hp'.1,hp'.2.1,by show (c ++ [(0,i,t,())]).length≤_; rw [List.length_append]; show c.length+1≤_; omega⟩
    · rw [h1,h2,h3]
  · exact h.elim
noncomputable def E267:Env:=Ef.of Tryz.f267
noncomputable def G267:Gk:=gk [(79,g79),(227,g227)]
noncomputable def lp267(n:Nat):Code:=(loopOf n (codeOf Tryz.f267)).getD .skip
noncomputable def ct267(L:Lp)(R:Rp)(n:Nat):Kt:=contOf E267 G267 L n (codeOf Tryz.f267) (endK E267 Tryz.f267.results.toList R)
noncomputable def rk267(L:Lp)(R:Rp)(n:Nat)(N:St→Prop):Kt:=rk (jof E267 (lp267 n)) N (ct267 L R n)
noncomputable def LOOP267(L:Lp)(R:Rp)(n:Nat)(st:St):Prop:=L (lp267 n) st (ct267 L R n)
theorem hg267:HG Tryz.prog G267:=(hg_cons h79 (hg_cons h227 hg_nil))
theorem okf267:Ok Tryz.prog E267:=okf.of Tryz.f267
theorem e267(L:Lp)(R:Rp)(a b:List (Elem ks))(c:List (Elem kl)):(bodyP Ef G267 L Tryz.f267 [.agg [.rsl ks a,.rsl ks b,.rsl kl c]] [] R)=(
    br (smD a b c) (br (!dkOk a b c) (R (some ⟨.agg [.ows 0,.ows 1,.ows 2],[.row ks [],.row ks [],.row kl []],[]⟩)) (br (smD a b c) (LOOP267 L R 5 ⟨(vJ :: .ptr 0 0 :: .ptr 1 0 :: .ptr 5 0 :: vI 0 :: jn 37 []),[(0,.box [.rsl ks a,.rsl ks b,.rsl kl c]),(1,.box [.ows 2,.ows 3,.ows 4]),(2,.row ks []),(3,.row ks []),(4,.row kl []),(5,.box [.ows 6,.ows 7,.ows 8]),(6,.row ks a),(7,.row ks b),(8,.row kl c)],1000000,[]⟩) False)) False):=by kernel_rfl
def st267(a b:List (Elem ks))(c:List (Elem kl))(u v:List (Elem ks))(i:Int):St :=  ⟨(vJ :: AV.ptr 0 0 :: AV.ptr 1 0 :: AV.ptr 5 0 :: .val (.int .i64 i) :: jn 37 []),[(0,AO.box [AV.rsl ks a,AV.rsl ks b,AV.rsl kl c]),(1,AO.box [AV.ows 2,AV.ows 3,AV.ows 4]),(2,AO.row ks []),(3,AO.row ks []),(4,AO.row kl []),(5,AO.box [AV.ows 6,AV.ows 7,AV.ows 8]),(6,.row ks u),(7,.row ks v),(8,AO.row kl c)],1000000,[]⟩
theorem b267(L:Lp)(R:Rp)(N:St→Prop)(a b:List (Elem ks))(c:List (Elem kl))(u v:List (Elem ks))(i:Int):(evP E267 G267 L (lp267 5) (st267 a b c u v i) (rk267 L R 5 N))=(
    br (decide (i < (↑c.length:Int))) (br (decide (0≤i∧i < (↑c.length:Int))) (br ((c.getD i.toNat (edflt kl)).1==0) (br (decide (0≤i∧i < (↑c.length:Int))) (br (decide (0≤i∧i < (↑c.length:Int))) (br (decide (0≤(c.getD i.toNat (edflt kl)).2.1∧(c.getD i.toNat (edflt kl)).2.1 < (↑u.length:Int))) (N (st267 a b c (u.set (Int.toNat (c.getD i.toNat (edflt kl)).2.1) (c.getD i.toNat (edflt kl)).2.2) v (IntKind.i64.wrap (i+1)))) False) False) False) (br ((c.getD i.toNat (edflt kl)).1==1) (br (decide (0≤i∧i < (↑c.length:Int))) (br (decide (0≤i∧i < (↑c.length:Int))) (br (decide (0≤(c.getD i.toNat (edflt kl)).2.1∧(c.getD i.toNat (edflt kl)).2.1 < (↑v.length:Int))) (N (st267 a b c u (v.set (Int.toNat (c.getD i.toNat (edflt kl)).2.1) (c.getD i.toNat (edflt kl)).2.2) (IntKind.i64.wrap (i+1)))) False) False) False) False)) False) (R (some ⟨.agg [.ows 0,.ows 1,.ows 2],[.row ks u,.row ks v,.row kl []],[]⟩))):=by kernel_rfl
theorem late_in{a b:List (Elem ks)}{c:List (Elem kl)}(h:dkOk a b c=true){i:Nat}(hi:i < c.length) :
    ((0:Int)≤(c.getD i (edflt kl)).1∧(1:Int)≥(c.getD i (edflt kl)).1)∧(0:Int)≤(c.getD i (edflt kl)).2.1∧(a.length:Int) > (c.getD i (edflt kl)).2.1:=by
  simp only [dkOk,Bool.and_eq_true,Bool.not_eq_true'] at h
  have h1:=h.2
  unfold anyBad at h1
  cases hb:badL a.length (c.getD i (edflt kl)) with
  | true=>rw [anyB_t (i:=i) hi hb] at h1; cases h1
  | false =>
    unfold badL at hb
    rw [Bool.or_eq_false_iff,Bool.not_eq_false'] at hb
    have h2:=hb.1
    simp only [secOk,Bool.and_eq_true,decide_eq_true_eq] at h2
    exact ⟨⟨h2.1.1.1,h2.1.1.2⟩,h2.1.2,h2.2⟩
theorem dkOk_ab{a b:List (Elem ks)}{c:List (Elem kl)}(h:dkOk a b c=true):b.length=a.length:=by
  simp only [dkOk,Bool.and_eq_true,decide_eq_true_eq] at h
  exact h.1.1.1.1.2
abbrev D2:=List (Elem ks) × List (Elem ks)
theorem flE{a b:List (Elem ks)}{c:List (Elem kl)}(hp:smD a b c=true) : ∃ x:D2,(x.1.length≤a.length∧x.2.length≤b.length) ∧
    Ctr Tryz.prog 267 [.agg [.rsl ks a,.rsl ks b,.rsl kl c]] [] ⟨.agg [.ows 0,.ows 1,.ows 2],[.row ks x.1,.row ks x.2,.row kl []],[]⟩:=by
  refine ex_ctr (form:=fun x:D2=>⟨.agg [.ows 0,.ows 1,.ows 2],[.row ks x.1,.row ks x.2,.row kl []],[]⟩) okf hg267 Tryz.func267 (by kernel_rfl) (by kernel_rfl) (by kernel_rfl) ?_
  simp only [e267]
  have hp':=smD_iff.1 hp
  refine ex_t hp (ex_not (fun h1 => ?_) (fun h1=>ex_t hp ?_))
  · exact ex_end (x:=(([],[]):D2)) ⟨Nat.zero_le _,Nat.zero_le _⟩ fun C=>wk_rfl _
  · have hab:=dkOk_ab h1
    refine ex_loop okf267 hg267 (fun y:D2 × Nat=>st267 a b c y.1.1 y.1.2 (y.2:Int)) (fun y=>c.length - y.2) (fun y=>y.1.1.length=a.length∧y.1.2.length=b.length∧y.2≤c.length) (fun ⟨⟨u,v⟩,i⟩ ⟨hu,hv,hi⟩ next => ?_) ((a,b),0) ⟨rfl,rfl,Nat.zero_le _⟩
    show Got _ (fun C p=>evP E267 G267 _ (lp267 5) (st267 a b c u v (i:Int)) (rk267 _ _ 5 _))
    simp only [b267,Int.toNat_natCast,wrap_id (n:=(i:Int)+1) (by omega) (by omega)]
    have hu:u.length=a.length:=hu
    have hv:v.length=b.length:=hv
    have hi:i≤c.length:=hi
    refine ex_dec (fun h2 => ?_) (fun h2 => ?_)
    · have hlt:i < c.length:=by omega
      obtain ⟨⟨q1,q2⟩,q3,q4⟩:=late_in h1 hlt
      have hb:0≤(i:Int)∧(i:Int) < c.length:=by omega
      have q5:(u.length:Int) > (c.getD i (edflt kl)).2.1:=by omega
      have q6:(v.length:Int) > (c.getD i (edflt kl)).2.1:=by omega
      refine ex_yes hb (ex_intro (fun h3=>ex_yes hb (ex_yes hb (ex_yes ⟨q3,q5⟩ ?_))) (fun h3=>ex_t ?_ (ex_yes hb (ex_yes hb (ex_yes ⟨q3,q6⟩ ?_)))))
      · exact next ((u.set (c.getD i (edflt kl)).2.1.toNat (c.getD i (edflt kl)).2.2,v),i+1) ⟨by simpa using hu,hv,hlt⟩ (by show c.length - (i+1) < c.length - i; omega)
      · have h3 : ¬ (c.getD i (edflt kl)).1=(0:Int):=fun e=>by rw [e] at h3; cases h3
        have h4 : ¬ (0:Int)=(c.getD i (edflt kl)).1:=fun e=>h3 e.symm
        have h5:(1:Int)=(c.getD i (edflt kl)).1:=by omega
        rw [← h5]
        rfl
      · exact next ((u,v.set (c.getD i (edflt kl)).2.1.toNat (c.getD i (edflt kl)).2.2),i+1) ⟨hu,by simpa using hv,hlt⟩ (by show c.length - (i+1) < c.length - i; omega)
    · exact ex_end (x:=(((u,v):D2),0)) ⟨by show u.length≤_; omega,by show v.length≤_; omega⟩ fun C=>wk_rfl _
noncomputable def flF(a b:List (Elem ks))(c:List (Elem kl)):D2:=pick fun x:D2=>(x.1.length≤a.length∧x.2.length≤b.length) ∧
    Ctr Tryz.prog 267 [.agg [.rsl ks a,.rsl ks b,.rsl kl c]] [] ⟨.agg [.ows 0,.ows 1,.ows 2],[.row ks x.1,.row ks x.2,.row kl []],[]⟩
theorem flF_ok{a b:List (Elem ks)}{c:List (Elem kl)}(hp:smD a b c=true):((flF a b c).1.length≤a.length∧(flF a b c).2.length≤b.length) ∧
    Ctr Tryz.prog 267 [.agg [.rsl ks a,.rsl ks b,.rsl kl c]] [] ⟨.agg [.ows 0,.ows 1,.ows 2],[.row ks (flF a b c).1,.row ks (flF a b c).2,.row kl []],[]⟩:=pick_ok (flE hp)
noncomputable def g267:G1
  | [.agg [.rsl [.str] a,.rsl [.str] b,.rsl [.int .i64,.int .i64,.str] c]],[],k=>br (smD a b c) (k ⟨.agg [.ows 0,.ows 1,.ows 2],[.row ks (flF a b c).1,.row ks (flF a b c).2,.row kl []],[]⟩) False
  | _,_,_=>False
theorem h267:G1Ok Tryz.prog 267 g267:=by
  intro args obs k h
  unfold g267 at h
  split at h
  · obtain ⟨hp,h⟩:=br_and h
    exact ⟨_,(flF_ok hp).2,h⟩
  · exact h.elim
def joinT(ys:List (Elem ks))(sep:ByteArray):ByteArray:=⟨(sep.data.toList.intercalate (ys.map fun e=>e.1.data.toList)).toArray⟩
def ptrT(a b c:Int):ByteArray:=match ptrOk a b c with
  | false=>ByteArray.empty
  | true=>match a==0 with
    | true=>⟨#[45]⟩
    | false=>dec a++⟨#[46]⟩++dec b++⟨#[46]⟩++dec c
def g166:G1
  | [.agg [.val (.int .i64 a),.val (.int .i64 b),.val (.int .i64 c)]],[],k=>k ⟨.val (.string (ptrT a b c)),[],[]⟩
  | _,_,_=>False
noncomputable def G166:Gk:=gk [(109,g195),(164,g164p)]
theorem hg166:HG Tryz.prog G166:=(hg_cons h109 (hg_cons h164p hg_nil))
theorem e166(L:Lp)(R:Rp)(a b c:Int):(bodyP E0 G166 L Tryz.f166 [.agg [.val (.int .i64 a),.val (.int .i64 b),.val (.int .i64 c)]] [] R)=(
    br (!ptrOk a b c) (R (some ⟨vS { data := #[] },[],[]⟩)) (br (a==0) (R (some ⟨vS { data := #[45] },[],[]⟩)) (br (decide (0≤a∧a≤9223372036854775807)) (br (decide ((dec a).size+1≤9223372036854775807)) (br (decide (0≤b∧b≤9223372036854775807)) (br (decide ((dec a ++ { data := #[46] }).size+(dec b).size≤9223372036854775807)) (br (decide ((dec a ++ { data := #[46] }++dec b).size+1≤9223372036854775807)) (br (decide (0≤c∧c≤9223372036854775807)) (br (decide ((dec a ++ { data := #[46] }++dec b ++ { data := #[46] }).size+(dec c).size≤9223372036854775807)) (R (some ⟨vS (dec a ++ { data := #[46] }++dec b ++ { data := #[46] }++dec c),[],[]⟩)) False) False) False) False) False) False) False))):=by kernel_rfl
theorem h166:G1Ok Tryz.prog 166 g166:=by
  intro args obs k h
  unfold g166 at h
  split at h
  · rename_i k a b c
    refine ⟨_,ctr_fn ok0 hg166 Tryz.func166 (by kernel_rfl) (by kernel_rfl) (by kernel_rfl) fun C => ?_,h⟩
    rw [e166]
    refine br_not (fun h1 => ?_) (fun h1=>br_intro (fun h2 => ?_) (fun h2 => ?_))
    · show _=_
      unfold ptrT
      rw [h1]
      rfl
    · show _=_
      unfold ptrT
      rw [h1,h2]
    obtain ⟨r1,r2,r3⟩:=ptr_range h1
    have s1:=dec_size (n:=a) (by omega) (by omega)
    have s2:=dec_size (n:=b) (by omega) (by omega)
    have s3:=dec_size (n:=c) (by omega) (by omega)
    refine br_yes (by omega) (br_yes (by omega) (br_yes (by omega) (br_yes ?_ (br_yes ?_ (br_yes (by omega) (br_yes ?_ ?_))))))
    · rw [ByteArray.size_append]
      show (dec a).size+1+(dec b).size≤_
      omega
    · rw [ByteArray.size_append,ByteArray.size_append]
      show (dec a).size+1+(dec b).size+1≤_
      omega
    · rw [ByteArray.size_append,ByteArray.size_append,ByteArray.size_append]
      show (dec a).size+1+(dec b).size+1+(dec c).size≤_
      omega
    · show _=_
      unfold ptrT
      rw [h1,h2]
  · exact h.elim
def entT(e:Elem k3):ByteArray:=dec e.1++⟨#[46]⟩++dec e.2.1++⟨#[46]⟩++dec e.2.2.1
def entS(xs:List (Elem k3)):List (Elem ks):=xs.map fun e=>(entT e,())
def ddtT(xs:List (Elem k3)):ByteArray:=match ddtOk xs with
  | true=>joinT (entS xs) ⟨#[32]⟩
  | false=>ByteArray.empty
def g312:G1
  | [.rsl [.int .i64,.int .i64,.int .i64] xs],[],k=>br (decide (xs.length≤1048576)) (k ⟨.val (.string (ddtT xs)),[],[]⟩) False
  | _,_,_=>False
theorem ddtOk_len{xs:List (Elem k3)}(h:ddtOk xs=true):xs.length≤48:=by
  simp [ddtOk] at h
  exact h.1
theorem ddtOk_ent{xs:List (Elem k3)}(h:ddtOk xs=true){k:Nat}(hk:k < xs.length):(0≤(xs.getD k (edflt k3)).1∧(xs.getD k (edflt k3)).1≤65520)∧(0≤(xs.getD k (edflt k3)).2.1∧(xs.getD k (edflt k3)).2.1≤65520)∧(0≤(xs.getD k (edflt k3)).2.2.1∧(xs.getD k (edflt k3)).2.2.1≤65520):=by
  simp only [ddtOk,Bool.and_eq_true,List.all_eq_true] at h
  have:=h.2 k (by simpa using hk)
  simp only [okAt,at3,entryOk,within,Bool.and_eq_true] at this
  obtain ⟨⟨⟨⟨a1,a2⟩,a3,a4⟩,a5,a6⟩,_⟩:=this
  exact ⟨⟨of_decide_eq_true a1,of_decide_eq_true a2⟩,⟨Int.le_trans (by decide) (of_decide_eq_true a3),Int.le_trans (of_decide_eq_true a4) (by decide)⟩,⟨Int.le_trans (by decide) (of_decide_eq_true a5),Int.le_trans (of_decide_eq_true a6) (by decide)⟩⟩
theorem big{x:Int}(h:0≤x∧x≤65520):0≤x∧x≤9223372036854775807:=⟨h.1,by omega⟩
theorem ent_size{a:Int}(ha:0≤a∧a≤65520):(dec a).size≤32761:=by
  have s1:=dec_size (n:=a) (by omega) (by omega)
  omega
theorem intercalate_snoc(s x:List UInt8) : ∀ (l:List (List UInt8)),l ≠ []→s.intercalate (l ++ [x])=s.intercalate l++s++x
  | [],h=>absurd rfl h
  | [y],_=>by simp [List.intercalate,List.intersperse]
  | y :: z :: l,_=>by
    have ih:=intercalate_snoc s x (z :: l) (by simp)
    simp only [List.intercalate,List.cons_append,List.intersperse,List.flatten_cons] at ih ⊢
    cases l with
    | nil =>
      simp [List.intersperse] at ih ⊢
    | cons u l =>
      simp only [List.cons_append,List.intersperse,List.flatten_cons,List.append_assoc] at ih ⊢
      rw [ih]
theorem joinT_one(t sep:ByteArray):joinT [(t,())] sep=t:=by
  unfold joinT
  apply ByteArray.ext
  apply Array.ext'
  simp [List.intercalate,List.intersperse]
theorem joinT_snoc(ys:List (Elem ks))(t sep:ByteArray)(h:ys ≠ []):joinT (ys ++ [(t,())]) sep=joinT ys sep++sep++t:=by
  unfold joinT
  rw [List.map_append]
  apply ByteArray.ext
  rw [ByteArray.data_append,ByteArray.data_append]
  apply Array.ext'
  rw [Array.toList_append,Array.toList_append]
  show sep.data.toList.intercalate (ys.map _ ++ [t.data.toList])=sep.data.toList.intercalate _++sep.data.toList++t.data.toList
  exact intercalate_snoc _ _ _ (by simpa using h)
theorem entS_next(xs:List (Elem k3)){i:Nat}(hi:i < xs.length):(entS xs).take (i+1)=(entS xs).take i ++ [(entT (xs.getD i (edflt k3)),())]:=by
  have hx:(entS xs)[i]? = some (entT (xs.getD i (edflt k3)),()):=by
    unfold entS
    rw [List.getElem?_map,List.getD_eq_getElem?_getD,List.getElem?_eq_getElem hi]
    rfl
  rw [List.take_add_one,hx]
  rfl
noncomputable def E312:Env:=E0.of Tryz.f312
noncomputable def G312:Gk:=gk [(46,g112),(164,g164p)]
noncomputable def lp312(n:Nat):Code:=(loopOf n (codeOf Tryz.f312)).getD .skip
noncomputable def ct312(L:Lp)(R:Rp)(n:Nat):Kt:=contOf E312 G312 L n (codeOf Tryz.f312) (endK E312 Tryz.f312.results.toList R)
noncomputable def rk312(L:Lp)(R:Rp)(n:Nat)(N:St→Prop):Kt:=rk (jof E312 (lp312 n)) N (ct312 L R n)
noncomputable def LOOP312(L:Lp)(R:Rp)(n:Nat)(st:St):Prop:=L (lp312 n) st (ct312 L R n)
theorem hg312:HG Tryz.prog G312:=(hg_cons h46 (hg_cons h164p hg_nil))
theorem okf312:Ok Tryz.prog E312:=ok0.of Tryz.f312
theorem e312(L:Lp)(R:Rp)(xs:List (Elem k3)):(bodyP E0 G312 L Tryz.f312 [.rsl k3 xs] [] R)=(
    LOOP312 L R 3 ⟨[.rsl k3 xs,vU,vS { data := #[] },vS { data := #[] },vI 0,vJ,vJ,vJ,vJ,vJ,vJ,vJ,vJ,vJ,vJ,vJ,vJ,vJ,vJ,vJ,vJ,vJ,vJ,vJ,vJ,vJ,vJ,vJ,vJ,vJ,vJ,vJ,vJ,vJ,vJ,vJ,vJ,vJ,vJ,vJ,vJ,vJ,vJ,vU],[],1000000,[]⟩):=by kernel_rfl
def st312(xs:List (Elem k3))(o:ByteArray)(i:Int):St :=  ⟨[AV.rsl k3 xs,vU,vS { data := #[] },.val (.string o),.val (.int .i64 i),vJ,vJ,vJ,vJ,vJ,vJ,vJ,vJ,vJ,vJ,vJ,vJ,vJ,vJ,vJ,vJ,vJ,vJ,vJ,vJ,vJ,vJ,vJ,vJ,vJ,vJ,vJ,vJ,vJ,vJ,vJ,vJ,vJ,vJ,vJ,vJ,vJ,vJ,vU],[],1000000,[]⟩
theorem b312(L:Lp)(R:Rp)(N:St→Prop)(xs:List (Elem k3))(o:ByteArray)(i:Int):(evP E312 G312 L (lp312 3) (st312 xs o i) (rk312 L R 3 N))=(
    br (decide (xs.length≤1048576)) (br (ddtOk xs) (br (decide (i < (↑xs.length:Int))) (br (decide (i > 0)) (br (decide (o.size+1≤9223372036854775807)) (br (decide (0≤i∧i < (↑xs.length:Int))) (br (decide (0≤(xs.getD i.toNat (edflt k3)).1∧(xs.getD i.toNat (edflt k3)).1≤9223372036854775807)) (br (decide ((o ++ { data := #[32] }).size+(dec (xs.getD i.toNat (edflt k3)).1).size≤9223372036854775807)) (br (decide ((o ++ { data := #[32] }++dec (xs.getD i.toNat (edflt k3)).1).size+1≤9223372036854775807)) (br (decide (0≤i∧i < (↑xs.length:Int))) (br (decide (0≤(xs.getD i.toNat (edflt k3)).2.1∧(xs.getD i.toNat (edflt k3)).2.1≤9223372036854775807)) (br (decide ((o ++ { data := #[32] }++dec (xs.getD i.toNat (edflt k3)).1 ++ { data := #[46] }).size+(dec (xs.getD i.toNat (edflt k3)).2.1).size≤9223372036854775807)) (br (decide ((o ++ { data := #[32] }++dec (xs.getD i.toNat (edflt k3)).1 ++ { data := #[46] }++dec (xs.getD i.toNat (edflt k3)).2.1).size+1≤9223372036854775807)) (br (decide (0≤i∧i < (↑xs.length:Int))) (br (decide (0≤(xs.getD i.toNat (edflt k3)).2.2.1∧(xs.getD i.toNat (edflt k3)).2.2.1≤9223372036854775807)) (br (decide ((o ++ { data := #[32] }++dec (xs.getD i.toNat (edflt k3)).1 ++ { data := #[46] }++dec (xs.getD i.toNat (edflt k3)).2.1 ++ { data := #[46] }).size+(dec (xs.getD i.toNat (edflt k3)).2.2.1).size≤9223372036854775807)) (N (st312 xs (o ++ { data := #[32] }++dec (xs.getD i.toNat (edflt k3)).1 ++ { data := #[46] }++dec (xs.getD i.toNat (edflt k3)).2.1 ++ { data := #[46] }++dec (xs.getD i.toNat (edflt k3)).2.2.1) (IntKind.i64.wrap (i+1)))) False) False) False) False) False) False) False) False) False) False) False) False) (br (decide (0≤i∧i < (↑xs.length:Int))) (br (decide (0≤(xs.getD i.toNat (edflt k3)).1∧(xs.getD i.toNat (edflt k3)).1≤9223372036854775807)) (br (decide (o.size+(dec (xs.getD i.toNat (edflt k3)).1).size≤9223372036854775807)) (br (decide ((o++dec (xs.getD i.toNat (edflt k3)).1).size+1≤9223372036854775807)) (br (decide (0≤i∧i < (↑xs.length:Int))) (br (decide (0≤(xs.getD i.toNat (edflt k3)).2.1∧(xs.getD i.toNat (edflt k3)).2.1≤9223372036854775807)) (br (decide ((o++dec (xs.getD i.toNat (edflt k3)).1 ++ { data := #[46] }).size+(dec (xs.getD i.toNat (edflt k3)).2.1).size≤9223372036854775807)) (br (decide ((o++dec (xs.getD i.toNat (edflt k3)).1 ++ { data := #[46] }++dec (xs.getD i.toNat (edflt k3)).2.1).size+1≤9223372036854775807)) (br (decide (0≤i∧i < (↑xs.length:Int))) (br (decide (0≤(xs.getD i.toNat (edflt k3)).2.2.1∧(xs.getD i.toNat (edflt k3)).2.2.1≤9223372036854775807)) (br (decide ((o++dec (xs.getD i.toNat (edflt k3)).1 ++ { data := #[46] }++dec (xs.getD i.toNat (edflt k3)).2.1 ++ { data := #[46] }).size+(dec (xs.getD i.toNat (edflt k3)).2.2.1).size≤9223372036854775807)) (N (st312 xs (o++dec (xs.getD i.toNat (edflt k3)).1 ++ { data := #[46] }++dec (xs.getD i.toNat (edflt k3)).2.1 ++ { data := #[46] }++dec (xs.getD i.toNat (edflt k3)).2.2.1) (IntKind.i64.wrap (i+1)))) False) False) False) False) False) False) False) False) False) False) False)) (R (some ⟨vS o,[],[]⟩))) (R (some ⟨vS o,[],[]⟩))) False):=by kernel_rfl
theorem h312:G1Ok Tryz.prog 312 g312:=by
  intro args obs k h
  unfold g312 at h
  split at h
  · rename_i k xs
    obtain ⟨hl,h⟩:=brd h
    refine ⟨_,ctr_fn ok0 hg312 Tryz.func312 (by kernel_rfl) (by kernel_rfl) (by kernel_rfl) fun C => ?_,h⟩
    rw [e312]
    refine loopUp okf312 hg312 (fun i o=>st312 xs o i) xs.length (fun i o=>o=joinT ((entS xs).take i) ⟨#[32]⟩∧o.size≤100000 * i∧(0 < i→ddtOk xs=true)) (fun N i o hi ⟨ho,hs,hd⟩ next => ?_) ⟨#[]⟩ ⟨rfl,Nat.le_refl _,fun h=>absurd h (by omega)⟩
    show evP E312 G312 _ (lp312 3) (st312 xs o i) (rk312 _ _ 3 _)
    rw [b312,wrap_id (n:=(i:Int)+1) (by omega) (by omega),Int.toNat_natCast]
    have hel:(entS xs).length=xs.length:=by simp [entS]
    refine br_yes hl (br_intro (fun h1=>br_dec (fun h2 => ?_) (fun h2 => ?_)) (fun h1 => ?_))
    · have h222:=ddtOk_len h1
      have hi':i < xs.length:=by omega
      obtain ⟨r1,r2,r3⟩:=ddtOk_ent h1 hi'
      have s1:=ent_size r1
      have s2:=ent_size r2
      have s3:=ent_size r3
      have e24:(⟨#[32]⟩:ByteArray).size=1:=rfl
      have e115:(⟨#[46]⟩:ByteArray).size=1:=rfl
      have et:(entT (xs.getD i (edflt k3))).size≤98300:=by
        unfold entT
        simp only [ByteArray.size_append,e115]
        omega
      refine br_dec (fun h3 => ?_) (fun h3 => ?_)
      · refine br_yes (by omega) (br_yes ⟨by omega,h2⟩ (br_yes (big r1) (br_yes ?_ (br_yes ?_ (br_yes ⟨by omega,h2⟩ (br_yes (big r2) (br_yes ?_ (br_yes ?_ (br_yes ⟨by omega,h2⟩ (br_yes (big r3) (br_yes ?_ ?_)))))))))))
        · simp only [ByteArray.size_append,e24,e115]
          omega
        · simp only [ByteArray.size_append,e24,e115]
          omega
        · simp only [ByteArray.size_append,e24,e115]
          omega
        · simp only [ByteArray.size_append,e24,e115]
          omega
        · simp only [ByteArray.size_append,e24,e115]
          omega
        · have e:o++⟨#[32]⟩++dec (xs.getD i (edflt k3)).1++⟨#[46]⟩++dec (xs.getD i (edflt k3)).2.1++⟨#[46]⟩++dec (xs.getD i (edflt k3)).2.2.1=o++⟨#[32]⟩++entT (xs.getD i (edflt k3)):=by
            unfold entT
            simp only [ByteArray.append_assoc]
          rw [e]
          refine next hi' _ ⟨?_,?_,fun _=>h1⟩
          · rw [entS_next xs hi',joinT_snoc _ _ _ (fun e0=>by
              have:=congrArg List.length e0
              rw [List.length_take,List.length_nil] at this
              omega),← ho]
          · simp only [ByteArray.size_append,e24]
            omega
      · have h0:i=0:=by omega
        subst h0
        have ho0:o=⟨#[]⟩:=ho
        subst ho0
        have e0:(⟨#[]⟩:ByteArray).size=0:=rfl
        refine br_yes ⟨by omega,h2⟩ (br_yes (big r1) (br_yes ?_ (br_yes ?_ (br_yes ⟨by omega,h2⟩ (br_yes (big r2) (br_yes ?_ (br_yes ?_ (br_yes ⟨by omega,h2⟩ (br_yes (big r3) (br_yes ?_ ?_))))))))))
        · simp only [ByteArray.size_append,e0,e115]
          omega
        · simp only [ByteArray.size_append,e0,e115]
          omega
        · simp only [ByteArray.size_append,e0,e115]
          omega
        · simp only [ByteArray.size_append,e0,e115]
          omega
        · simp only [ByteArray.size_append,e0,e115]
          omega
        · have e:(⟨#[]⟩:ByteArray)++dec (xs.getD 0 (edflt k3)).1++⟨#[46]⟩++dec (xs.getD 0 (edflt k3)).2.1++⟨#[46]⟩++dec (xs.getD 0 (edflt k3)).2.2.1=entT (xs.getD 0 (edflt k3)):=by
            unfold entT
            have:(⟨#[]⟩:ByteArray)++dec (xs.getD 0 (edflt k3)).1=dec (xs.getD 0 (edflt k3)).1:=ByteArray.empty_append
            rw [this]
          rw [e]
          refine next hi' _ ⟨?_,by omega,fun _=>h1⟩
          rw [entS_next xs hi']
          exact (joinT_one _ _).symm
    · show _=_
      unfold ddtT
      rw [h1,ho,List.take_of_length_le (by omega)]
    · show _=_
      have h0:i=0:=by
        cases i with
        | zero=>rfl
        | succ i=>rw [hd (by omega)] at h1; cases h1
      subst h0
      unfold ddtT
      rw [h1,ho]
      rfl
  · exact h.elim
set_option maxHeartbeats 1000000
theorem ddt_mono{d:List (Elem k3)}(h:ddtOk d=true) : ∀ (j i:Nat),i < j→j < d.length→adD d i < adD d j
  | 0,i,hi,_=>absurd hi (by omega)
  | j+1,i,hi,hj=>by
    have h2:=ddt_step h hj
    by_cases e:i=j
    · rw [e]; exact h2
    · have:=ddt_mono h j i (by omega) (by omega)
      omega
theorem bs_lnD{d:List (Elem k3)}(h:ddtOk d=true){t:Int}(h0:0≤t)(h1:t≤1000000):bsD d t=lnD d t:=by
  have hc : ∀ i,i < d.length→decide (IntKind.i64.wrap ((atP d i).2.1 - t) < 0)=decide ((atP d i).2.1 < t):=by
    intro i hi
    have he:=(ddt_ent h hi).1
    have hw:IntKind.i64.wrap (adD d i - t)=adD d i - t:=wrap_id (by omega) (by omega)
    show decide (IntKind.i64.wrap (adD d i - t) < 0)=decide (adD d i < t)
    rw [hw]
    apply decide_eq_decide.2
    omega
  unfold bsD lnD
  rw [bsf_ln fun a b hab hb hp => ?_]
  · exact ln_congr hc
  · rw [hc b hb] at hp
    rw [hc a (by omega)]
    by_cases e:a=b
    · subst e; exact hp
    · have:=ddt_mono h b a (by omega) hb
      have hp:adD d b < t:=of_decide_eq_true hp
      exact decide_eq_true (show adD d a < t by omega)
theorem bk_okD{d:List (Elem k3)}(h:ddtOk d=true){t:Int}(h0:0≤t)(h1:t≤1000000):bkD d t=okD d t:=by
  unfold bkD okD
  rw [bs_lnD h h0 h1]
  by_cases hk:lnD d t < d.length
  · have he:=(ddt_ent h hk).1
    have hw:IntKind.i64.wrap (adD d (lnD d t) - t)=adD d (lnD d t) - t:=wrap_id (by omega) (by omega)
    show (decide (lnD d t < d.length)&&(IntKind.i64.wrap (adD d (lnD d t) - t)==0))=(decide (lnD d t < d.length)&&(adD d (lnD d t)==t))
    rw [hw,Bool.eq_iff_iff]
    simp only [Bool.and_eq_true,beq_iff_eq,decide_eq_true_eq]
    omega
  · rw [decide_eq_false hk]
    rfl
def adP(p:Elem k3):Int:=p.1
theorem pOk_rng{p:Elem k3}(h:pOk p=true):0≤adP p∧adP p≤120:=(ptr_range h).1
theorem pr_sum{d:List (Elem k3)}(h:ddtOk d=true){p:Elem k3}(hp:pOk p=true):prI d p=sumK d p:=by
  have hr:=pOk_rng hp
  cases h0:p.1==0 with
  | true =>
    rw [prI_0 h0,sumK_3]
    have:adP p=0:=by have:=eq_of_beq h0; exact this
    exact decide_eq_false (show ¬ adP p > 0 by omega)
  | false =>
    have hn:adP p≠0:=beq_eq_false_iff_ne.1 h0
    have hg:decide (p.1 > 0)=true:=decide_eq_true (show adP p > 0 by omega)
    have hb:bkD d p.1=okD d p.1:=bk_okD (t:=adP p) h hr.1 (by omega)
    have hb2:bsD d p.1=lnD d p.1:=bs_lnD (t:=adP p) h hr.1 (by omega)
    cases hk:okD d p.1 with
    | false=>rw [prI_1 h0 (hb.trans hk),sumK_1 hg hk]
    | true=>rw [prI_2 h0 (hb.trans hk),sumK_2 hg hk,hb2]
theorem okD_at{d:List (Elem k3)}{t:Int}(h:okD d t=true):adD d (lnD d t)=t:=by
  unfold okD at h
  rw [Bool.and_eq_true,beq_iff_eq] at h
  exact h.2
theorem lnD_uniq{d:List (Elem k3)}(h:ddtOk d=true){k:Nat}(hk:k < d.length):lnD d (adD d k)=k:=by
  unfold lnD
  refine ln_at (fun j hj => ?_) hk ?_
  · exact decide_eq_true (ddt_mono h k j hj hk)
  · exact decide_eq_false (show ¬ adD d k < adD d k by omega)
theorem one_k{d:List (Elem k3)}(h:ddtOk d=true){p:Elem k3}(hp:pOk p=true)(hs:sumK d p=true){k:Nat}(hk:k < d.length) :
    (p.1 != 0&&(bsD d p.1==k))=(p.1==adD d k&&decide (adD d k > 0)):=by
  have hr:=pOk_rng hp
  have he:=(ddt_ent h hk).1
  rw [decide_eq_true (show adD d k > 0 by omega),Bool.and_true]
  cases h0:p.1==0 with
  | true =>
    have e0:adP p=0:=eq_of_beq h0
    have:(p.1==adD d k)=false:=beq_eq_false_iff_ne.2 (show adP p≠adD d k by omega)
    rw [this]
    unfold bne
    rw [h0]
    rfl
  | false =>
    have hn:adP p≠0:=beq_eq_false_iff_ne.1 h0
    have hg:decide (p.1 > 0)=true:=decide_eq_true (show adP p > 0 by omega)
    have ho:okD d p.1=true:=by
      cases hk:okD d p.1 with
      | true=>rfl
      | false=>rw [sumK_1 hg hk] at hs; cases hs
    have hb:bsD d p.1=lnD d p.1:=bs_lnD (t:=adP p) h hr.1 (by omega)
    unfold bne
    rw [h0,hb,Bool.not_false,Bool.true_and,Bool.eq_iff_iff,beq_iff_eq,beq_iff_eq]
    constructor
    · intro e
      have:=okD_at ho
      rw [e] at this
      exact this.symm
    · intro e
      rw [show p.1=adD d k from e]
      exact lnD_uniq h hk
theorem countP_cong{α:Type}{f g:α→Bool} : ∀ {l:List α},(∀ a∈l,f a=g a)→l.countP f=l.countP g
  | [],_=>rfl
  | a :: l,h=>by
    rw [List.countP_cons,List.countP_cons,h a (by simp),countP_cong fun b hb=>h b (by simp [hb])]
theorem all_cong{α:Type}{f g:α→Bool} : ∀ {l:List α},(∀ a∈l,f a=g a)→l.all f=l.all g
  | [],_=>rfl
  | a :: l,h=>by
    rw [List.all_cons,List.all_cons,h a (by simp),all_cong fun b hb=>h b (by simp [hb])]
theorem cn_ref{d ps:List (Elem k3)}(h:ddtOk d=true)(hp : ∀ p∈ps,pOk p=true)(hs:ps.all (sumK d)=true){k:Nat}(hk:k < d.length):cnI d ps k=refP ps (adD d k):=by
  unfold cnI refP
  rw [List.all_eq_true] at hs
  exact countP_cong fun p hpm=>one_k h (hp p hpm) (hs p hpm) hk
def sumN'(n:Nat)(f:Nat→Int):Int:=((List.range n).map f).sum
theorem sumN_succ(n:Nat)(f:Nat→Int):sumN' (n+1) f=sumN' n f+f n:=by
  unfold sumN'
  rw [List.range_succ,List.map_append,List.sum_append]
  simp
theorem sumN_congr{n:Nat}{f g:Nat→Int}(h : ∀ k,k < n→f k=g k):sumN' n f=sumN' n g:=by
  unfold sumN'
  rw [List.map_congr_left fun k hk=>h k (by simpa using hk)]
theorem sumN_add(f g:Nat→Int) : ∀ n,sumN' n (fun k=>f k+g k)=sumN' n f+sumN' n g
  | 0=>rfl
  | n+1=>by
    rw [sumN_succ,sumN_succ,sumN_succ,sumN_add f g n]
    omega
theorem sumN_zero : ∀ n,sumN' n (fun _=>0)=0
  | 0=>rfl
  | n+1=>by rw [sumN_succ,sumN_zero n]; rfl
theorem sumN_ind(k0:Nat) : ∀ n,sumN' n (fun k=>if k=k0 then 1 else 0)=if k0 < n then 1 else 0
  | 0=>rfl
  | n+1=>by
    rw [sumN_succ,sumN_ind k0 n]
    by_cases h1:n=k0
    · rw [if_pos h1,if_neg (by omega),if_pos (by omega)]
      rfl
    · rw [if_neg h1]
      by_cases h2:k0 < n
      · rw [if_pos h2,if_pos (by omega)]
        rfl
      · rw [if_neg h2,if_neg (by omega)]
        rfl
theorem allC_sum : ∀ (d:List (Elem k3)),allC d=sumN' d.length (cnD d):=by
  intro d
  unfold allC sumN'
  congr 1
  refine List.ext_getElem (by simp) fun k h1 h2 => ?_
  rw [List.getElem_map,List.getElem_map,List.getElem_range]
  unfold cnD atP
  rw [List.getD_eq_getElem?_getD,List.getElem?_eq_getElem (by simpa using h1)]
  rfl
theorem ref_all{d:List (Elem k3)}(h:ddtOk d=true) : ∀ (ps:List (Elem k3)),(∀ p∈ps,pOk p=true)→ps.all (sumK d)=true→sumN' d.length (fun k=>(refP ps (adD d k):Int))=liveP ps
  | [],_,_=>by
    show sumN' d.length (fun _=>0)=0
    exact sumN_zero _
  | p :: ps,hp,hs=>by
    rw [List.all_cons,Bool.and_eq_true] at hs
    have ih:=ref_all h ps (fun q hq=>hp q (by simp [hq])) hs.2
    have hpp:=hp p (by simp)
    have hr:=pOk_rng hpp
    have e1 : ∀ k,(refP (p :: ps) (adD d k):Int)=(refP ps (adD d k):Int)+if (p.1==adD d k&&decide (adD d k > 0))=true then 1 else 0:=by
      intro k
      unfold refP
      rw [List.countP_cons]
      split<;>simp
    have e2:(liveP (p :: ps):Int)=(liveP ps:Int)+if decide (p.1 > 0)=true then 1 else 0:=by
      unfold liveP
      rw [List.countP_cons]
      split<;>simp
    rw [sumN_congr fun k hk=>e1 k,sumN_add,ih,e2]
    congr 1
    by_cases hg:adP p > 0
    · have hg':decide (p.1 > 0)=true:=decide_eq_true hg
      have ho:okD d p.1=true:=by
        cases hk:okD d p.1 with
        | true=>rfl
        | false=>rw [sumK_1 hg' hk] at hs; cases hs.1
      have e3:sumN' d.length (fun k=>if (p.1==adD d k&&decide (adD d k > 0))=true then 1 else 0)=sumN' d.length (fun k=>if k=lnD d p.1 then 1 else 0):=by
        refine sumN_congr fun k hk => ?_
        have he:=(ddt_ent h hk).1
        rw [decide_eq_true (show adD d k > 0 by omega),Bool.and_true]
        by_cases e:k=lnD d p.1
        · rw [if_pos e,if_pos]
          rw [beq_iff_eq,e]
          exact (okD_at ho).symm
        · rw [if_neg e,if_neg]
          rw [beq_iff_eq]
          intro e'
          exact e (by rw [show p.1=adD d k from e']; exact (lnD_uniq h hk).symm)
      rw [e3,sumN_ind,if_pos (okD_lt ho),if_pos hg']
    · have hg':decide (p.1 > 0)=false:=decide_eq_false hg
      have e3:sumN' d.length (fun k=>if (p.1==adD d k&&decide (adD d k > 0))=true then 1 else 0)=sumN' d.length (fun _=>0):=by
        refine sumN_congr fun k hk => ?_
        have he:=(ddt_ent h hk).1
        rw [show (p.1==adD d k)=false from beq_eq_false_iff_ne.2 (show adP p≠adD d k by omega)]
        rfl
      rw [e3,sumN_zero,hg']
      rfl
theorem beq_symm(a b:Int):(a==b)=(b==a):=by
  rw [Bool.eq_iff_iff,beq_iff_eq,beq_iff_eq]
  exact ⟨Eq.symm,Eq.symm⟩
theorem cnt_eqv{d:List (Elem k3)}{s:List (Elem kc)}(h:ddtOk d=true)(hp : ∀ p∈ptsOf s,pOk p=true):cntI d s=(cntS d s&&(ptsOf s).all (sumK d)):=by
  have e1:(ptsOf s).all (prI d)=(ptsOf s).all (sumK d):=all_cong fun p hpm=>pr_sum h (hp p hpm)
  unfold cntI
  rw [e1]
  cases hs:(ptsOf s).all (sumK d) with
  | false=>rw [Bool.and_false]; rfl
  | true =>
    rw [Bool.true_and,Bool.and_true]
    have e2:(allB d.length fun k=>(atP d k).2.2.1==(cnI d (ptsOf s) k:Int))=allB d.length (cntK d s):=by
      refine allB_congr fun k hk => ?_
      unfold cntK
      rw [cn_ref h hp hs hk]
      exact beq_symm _ _
    rw [e2]
    unfold cntS
    cases hc:allB d.length (cntK d s) with
    | false=>rfl
    | true =>
      rw [Bool.true_and]
      have e3:allC d=liveP (ptsOf s):=by
        rw [allC_sum,← ref_all h (ptsOf s) hp hs]
        refine sumN_congr fun k hk => ?_
        have:=allB_at hc hk
        unfold cntK at this
        exact (eq_of_beq this).symm
      rw [e3]
      simp
end Go.Proofs.YtkjnijddbiconaaGreatDoor.Ev