/- Calls of a book. -/
import Derived.Test.YtkjnijddbiconaaGreatDoorWN
namespace Go.Proofs.YtkjnijddbiconaaGreatDoor.Ev
open Go
set_option linter.unusedVariables false
set_option linter.unusedSimpArgs false
set_option maxRecDepth 100000
def klS(xs:List (Elem kb))(o:Int)(a:ByteArray):Bool:=(o==2)&&(okB xs a && !busy xs (lnB xs a:Int))
def doR(xs:List (Elem kb))(o:Int)(a c:ByteArray)(i:Int)(t:ByteArray):List (Elem kb) × Int:=match o==1 with
  | true=>nwR xs (a,1,ByteArray.empty,ByteArray.empty,ByteArray.empty,ByteArray.empty,ByteArray.empty,ByteArray.empty,ByteArray.empty,ByteArray.empty,ByteArray.empty,())
  | false=>match decide (o < 1) || decide (o > 6) with
    | true=>(xs,5)
    | false=>match okB xs a with
      | false=>(xs,1)
      | true=>match o==2 with
        | true=>(xs,6)
        | false=>match o==3 with
          | true=>ptR xs (lnB xs a:Int) i t
          | false=>match o==6 with
            | true=>bkR xs (lnB xs a:Int) c
            | false=>match o==5 with
              | true=>match (atB xs (lnB xs a)).2.1 != 2 with
                | true=>(xs,3)
                | false=>nwR xs (c,1,(atB xs (lnB xs a)).1,(atB xs (lnB xs a)).2.2.2)
              | false=>match (atB xs (lnB xs a)).2.1 != 1 with
                | true=>(xs,3)
                | false=>nwR xs (c,2,(atB xs (lnB xs a)).1,(atB xs (lnB xs a)).2.2.2)
def g232:G1
  | [.agg [.ows 0],.agg [.val (.int .i64 o),.val (.string a),.val (.string c),.val (.int .i64 i),.val (.string t)]],[.row [.str,.int .i64,.str,.str,.str,.str,.str,.str,.str,.str,.str] xs],k =>
    br (decide (xs.length≤100)&&(decide (a.size≤1000000)&&decide (c.size≤1000000))) (br (klS xs o a) (k ⟨.tup [.agg [.ows 0],.val (.int .i64 0)],[.row kb (xs.take (lnB xs a)++xs.drop (lnB xs a+1)),.row kb xs],[some 1]⟩) (k ⟨.tup [.agg [.ows 0],.val (.int .i64 (doR xs o a c i t).2)],[.row kb (doR xs o a c i t).1],[none]⟩)) False
  | _,_,_=>False
noncomputable def G232:Gk:=gk [(268,g268),(269,g269),(270,g270),(271,g271),(216,g216)]
theorem hg232:HG Tryz.prog G232:=(hg_cons h268 (hg_cons h269 (hg_cons h270 (hg_cons h271 (hg_cons h216 hg_nil)))))
theorem e232(L:Lp)(R:Rp)(xs:List (Elem kb))(o:Int)(a c:ByteArray)(i:Int)(t:ByteArray):(bodyP Er G232 L Tryz.f232 [.agg [.ows 0],.agg [.val (.int .i64 o),.val (.string a),.val (.string c),.val (.int .i64 i),.val (.string t)]] [.row kb xs] R)=(
    br (o==1) (br (decide (xs.length≤100)&&decide (ByteArray.size (a,1,ByteArray.empty,ByteArray.empty,ByteArray.empty,ByteArray.empty,ByteArray.empty,ByteArray.empty,ByteArray.empty,ByteArray.empty,ByteArray.empty,()).1≤1000000)) (R (some ⟨.tup [.agg [.ows 0],vI (nwR xs (a,1,ByteArray.empty,ByteArray.empty,ByteArray.empty,ByteArray.empty,ByteArray.empty,ByteArray.empty,ByteArray.empty,ByteArray.empty,ByteArray.empty,())).2],[.row kb (nwR xs (a,1,ByteArray.empty,ByteArray.empty,ByteArray.empty,ByteArray.empty,ByteArray.empty,ByteArray.empty,ByteArray.empty,ByteArray.empty,ByteArray.empty,())).1],[none]⟩)) False) (br (decide (o < 1)) (R (some ⟨.tup [.agg [.ows 0],vI 5],[.row kb xs],[none]⟩)) (br (decide (o > 6)) (R (some ⟨.tup [.agg [.ows 0],vI 5],[.row kb xs],[none]⟩)) (br (decide (xs.length≤1048576)) (br (!okB xs a) (R (some ⟨.tup [.agg [.ows 0],vI 1],[.row kb xs],[none]⟩)) (br (decide (0≤(↑(lnB xs a):Int)∧(↑(lnB xs a):Int) < (↑xs.length:Int))) (br (o==2) (br (decide (0≤(↑(lnB xs a):Int)∧(↑(lnB xs a):Int) < (↑xs.length:Int))&&decide (xs.length≤1000)) (br (busy xs (↑(lnB xs a):Int)) (R (some ⟨.tup [.agg [.ows 0],vI 6],[.row kb xs],[none]⟩)) (R (some ⟨.tup [.agg [.ows 0],vI 0],[.row kb (List.take (↑(lnB xs a):Int).toNat xs++List.drop ((↑(lnB xs a):Int).toNat+1) xs),.row kb xs],[some 1]⟩))) False) (br (o==3) (br (decide (0≤(↑(lnB xs a):Int)∧(↑(lnB xs a):Int) < (↑xs.length:Int))) (R (some ⟨.tup [.agg [.ows 0],vI (ptR xs (↑(lnB xs a):Int) i t).2],[.row kb (ptR xs (↑(lnB xs a):Int) i t).1],[none]⟩)) False) (br (o==6) (br (decide (0≤(↑(lnB xs a):Int)∧(↑(lnB xs a):Int) < (↑xs.length:Int))&&decide (xs.length≤1000)) (R (some ⟨.tup [.agg [.ows 0],vI (bkR xs (↑(lnB xs a):Int) c).2],[.row kb (bkR xs (↑(lnB xs a):Int) c).1],[none]⟩)) False) (br (o==5) (br ((xs.getD (↑(lnB xs a):Int).toNat (edflt kb)).2.1 != 2) (R (some ⟨.tup [.agg [.ows 0],vI 3],[.row kb xs],[none]⟩)) (br (decide (xs.length≤100)&&decide (ByteArray.size (c,1,(xs.getD (↑(lnB xs a):Int).toNat (edflt kb)).1,(xs.getD (↑(lnB xs a):Int).toNat (edflt kb)).2.2.2).1≤1000000)) (R (some ⟨.tup [.agg [.ows 0],vI (nwR xs (c,1,(xs.getD (↑(lnB xs a):Int).toNat (edflt kb)).1,(xs.getD (↑(lnB xs a):Int).toNat (edflt kb)).2.2.2)).2],[.row kb (nwR xs (c,1,(xs.getD (↑(lnB xs a):Int).toNat (edflt kb)).1,(xs.getD (↑(lnB xs a):Int).toNat (edflt kb)).2.2.2)).1],[none]⟩)) False)) (br ((xs.getD (↑(lnB xs a):Int).toNat (edflt kb)).2.1 != 1) (R (some ⟨.tup [.agg [.ows 0],vI 3],[.row kb xs],[none]⟩)) (br (decide (xs.length≤100)&&decide (ByteArray.size (c,2,(xs.getD (↑(lnB xs a):Int).toNat (edflt kb)).1,(xs.getD (↑(lnB xs a):Int).toNat (edflt kb)).2.2.2).1≤1000000)) (R (some ⟨.tup [.agg [.ows 0],vI (nwR xs (c,2,(xs.getD (↑(lnB xs a):Int).toNat (edflt kb)).1,(xs.getD (↑(lnB xs a):Int).toNat (edflt kb)).2.2.2)).2],[.row kb (nwR xs (c,2,(xs.getD (↑(lnB xs a):Int).toNat (edflt kb)).1,(xs.getD (↑(lnB xs a):Int).toNat (edflt kb)).2.2.2)).1],[none]⟩)) False)))))) False)) False)))):=by kernel_rfl
theorem h232:G1Ok Tryz.prog 232 g232:=by
  intro args obs k h
  unfold g232 at h
  split at h
  · rename_i k o a c i t xs
    obtain ⟨hl,ha,h⟩:=brb2 h
    rw [Bool.and_eq_true,decide_eq_true_eq,decide_eq_true_eq] at ha
    have hl':=of_decide_eq_true hl
    have dl:decide (xs.length≤1048576)=true:=decide_eq_true (by omega)
    have dk:decide (xs.length≤1000)=true:=decide_eq_true (by omega)
    have da:decide (a.size≤1000000)=true:=decide_eq_true ha.1
    have dc:decide (c.size≤1000000)=true:=decide_eq_true ha.2
    have d1:(decide (xs.length≤100)&&decide (a.size≤1000000))=true:=by rw [hl,da]; rfl
    have d2:(decide (xs.length≤100)&&decide (c.size≤1000000))=true:=by rw [hl,dc]; rfl
    rcases Bool.eq_false_or_eq_true (klS xs o a) with hK | hK
    · rw [hK] at h
      refine ⟨_,ctr_fn okr hg232 Tryz.func232 (by kernel_rfl) (by kernel_rfl) (by kernel_rfl) fun C => ?_,h⟩
      unfold klS at hK
      rw [Bool.and_eq_true,Bool.and_eq_true,Bool.not_eq_true'] at hK
      obtain ⟨k1,k2,k3⟩:=hK
      have ho:o=2:=eq_of_beq k1
      have hlt:=okB_lt k2
      have hj:0≤(lnB xs a:Int)∧(lnB xs a:Int) < xs.length:=by omega
      rw [e232,ho,k2,k3,Int.toNat_natCast]
      exact br_f rfl (br_f rfl (br_f rfl (br_t dl (br_f rfl (br_yes hj (br_t rfl (br_t (by rw [decide_eq_true hj,dk]; rfl) (br_f rfl rfl))))))))
    · rw [hK] at h
      refine ⟨_,ctr_fn okr hg232 Tryz.func232 (by kernel_rfl) (by kernel_rfl) (by kernel_rfl) fun C => ?_,h⟩
      unfold klS at hK
      rw [e232,Int.toNat_natCast]
      unfold doR
      refine br_intro (fun h1=>br_t d1 ?_) (fun h1=>br_intro (fun h2 => ?_) (fun h2=>br_intro (fun h3 => ?_) (fun h3=>br_t dl (br_not (fun h4 => ?_) (fun h4 => ?_)))))
      · rw [h1]
        try rfl
      · rw [h1,h2]
        try rfl
      · rw [h1,h2,h3]
        try rfl
      · rw [h1,h2,h3,h4]
        try rfl
      have hlt:=okB_lt h4
      have hj:0≤(lnB xs a:Int)∧(lnB xs a:Int) < xs.length:=by omega
      have dj:(decide (0≤(lnB xs a:Int)∧(lnB xs a:Int) < xs.length)&&decide (xs.length≤1000))=true:=by rw [decide_eq_true hj,dk]; rfl
      refine br_yes hj (br_intro (fun h5=>br_t dj ?_) (fun h5=>br_intro (fun h6=>br_yes hj ?_) (fun h6=>br_intro (fun h115=>br_t dj ?_) (fun h115=>br_intro (fun h116=>br_intro (fun h9 => ?_) (fun h9=>br_t d2 ?_)) (fun h116=>br_intro (fun h9 => ?_) (fun h9=>br_t d2 ?_))))))
      · have hb:busy xs (lnB xs a:Int)=true:=by
          rw [h5,h4,Bool.true_and,Bool.true_and,Bool.not_eq_false'] at hK
          exact hK
        refine br_t hb ?_
        rw [h1,h2,h3,h4,h5]
        try rfl
      · rw [h1,h2,h3,h4,h5,h6]
        try rfl
      · rw [h1,h2,h3,h4,h5,h6,h115]
        try rfl
      · have h9:((atB xs (lnB xs a)).2.1 != 2)=true:=h9
        rw [h1,h2,h3,h4,h5,h6,h115,h116,h9]
        try rfl
      · have h9:((atB xs (lnB xs a)).2.1 != 2)=false:=h9
        rw [h1,h2,h3,h4,h5,h6,h115,h116,h9]
        try rfl
      · have h9:((atB xs (lnB xs a)).2.1 != 1)=true:=h9
        rw [h1,h2,h3,h4,h5,h6,h115,h116,h9]
        try rfl
      · have h9:((atB xs (lnB xs a)).2.1 != 1)=false:=h9
        rw [h1,h2,h3,h4,h5,h6,h115,h116,h9]
        try rfl
  · exact h.elim
end Go.Proofs.YtkjnijddbiconaaGreatDoor.Ev
