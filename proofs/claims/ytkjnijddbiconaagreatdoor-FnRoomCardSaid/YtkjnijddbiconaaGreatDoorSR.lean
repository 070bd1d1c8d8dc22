/- A store that is played: a book's call. -/
import Derived.Test.YtkjnijddbiconaaGreatDoorSQ
namespace Go.Proofs.YtkjnijddbiconaaGreatDoor.Ev
open Go
set_option linter.unusedVariables false
set_option linter.unusedSimpArgs false
set_option maxRecDepth 100000
theorem op1_p(b:List (Elem ku))(p:Int):(op1 b p).p=p+5:=by
  show p+1+1+1+1+1=_
  omega
theorem opR_p(b:List (Elem ku))(p:Int)(xs:List (Elem kb)):p≤(opR b p xs).p∧(opR b p xs).p≤p+17:=by
  unfold opR
  have a1:=op1_p b p
  have a2:=op2_p b (op1 b p)
  have a3:=op3_p b xs (op2 b (op1 b p))
  have a4:=op4_p b xs (op3 b xs (op2 b (op1 b p)))
  have a5:=op5_p b (op4 b xs (op3 b xs (op2 b (op1 b p))))
  omega
def smE(e:Elem kb):Prop:=e.1.size≤100∧e.2.2.1.size≤100
def szO(s:OpS):Prop:=s.a.size≤100∧s.c.size≤100
def smX(xs:List (Elem kb)):Prop:=xs.length≤6 ∧ ∀ e∈xs,smE e
theorem smE_d:smE (edflt kb):=⟨Nat.zero_le _,Nat.zero_le _⟩
theorem smE_at{xs:List (Elem kb)}(h:smX xs)(i:Nat):smE (xs.getD i (edflt kb)):=by
  rw [List.getD_eq_getElem?_getD]
  cases hc:xs[i]? with
  | none=>exact smE_d
  | some e=>exact h.2 e (List.mem_of_getElem? hc)
theorem at_sz : ∀ (ls:List (Elem ks)) (n i:Nat),(ls.all fun e=>decide (e.1.size≤n))=true→(at1 ls i).size≤n
  | [],n,i,h=>by
    unfold at1
    rw [List.getD_nil]
    exact Nat.zero_le _
  | e :: ls,n,i,h=>by
    rw [List.all_cons,Bool.and_eq_true] at h
    cases i with
    | zero=>exact of_decide_eq_true h.1
    | succ i=>exact at_sz ls n i h.2
theorem sm1(b:List (Elem ku))(p:Int):szO (op1 b p):=⟨at_sz lnW 100 _ (by decide),at_sz lnW 100 _ (by decide)⟩
theorem sm2{b:List (Elem ku)}{s:OpS}(h:szO s):szO (op2 b s):=by
  unfold op2
  split<;>exact h
theorem sm3{b:List (Elem ku)}{xs:List (Elem kb)}{s:OpS}(hx:smX xs)(h:szO s):szO (op3 b xs s):=by
  unfold op3
  repeat' split
  · exact h
  · exact ⟨(smE_at hx _).1,h.2⟩
  · exact h
theorem sm4{b:List (Elem ku)}{xs:List (Elem kb)}{s:OpS}(hx:smX xs)(h:szO s):szO (op4 b xs s):=by
  unfold op4
  repeat' split
  · exact h
  · exact ⟨(smE_at hx _).2,(smE_at hx _).1⟩
  · exact h
theorem sm5{b:List (Elem ku)}{s:OpS}(h:szO s):szO (op5 b s):=by
  unfold op5
  repeat' split
  · exact h
  · exact h
  · exact h
  · exact ⟨at_sz opA 100 _ (by decide),h.2⟩
  · exact ⟨h.1,at_sz opB' 100 _ (by decide)⟩
  · exact h
theorem smR(b:List (Elem ku))(p:Int){xs:List (Elem kb)}(h:smX xs):szO (opR b p xs):=sm5 (sm4 h (sm3 h (sm2 (sm1 b p))))
theorem smX_kill{xs:List (Elem kb)}(h:smX xs)(k:Nat):smX (xs.take k++xs.drop (k+1)):=by
  refine ⟨?_,fun e he => ?_⟩
  · have:=h.1
    rw [List.length_append,List.length_take,List.length_drop]
    omega
  · rcases List.mem_append.1 he with he | he
    · exact h.2 e (List.mem_of_mem_take he)
    · exact h.2 e (List.mem_of_mem_drop he)
theorem smX_new{xs:List (Elem kb)}(h:smX xs){e:Elem kb}(he:smE e):smX (nwR xs e).1:=by
  unfold nwR
  split
  · exact h
  split
  · exact h
  split
  · exact h
  rename_i hc
  have hl:=h.1
  have hn:xs.length≠6:=by
    intro e
    rw [e] at hc
    cases hc
  refine ⟨?_,fun u hu => ?_⟩
  · simp only [List.length_append,List.length_take,List.length_drop,List.length_cons,List.length_nil]
    omega
  · rcases List.mem_append.1 hu with hu | hu
    · rcases List.mem_append.1 hu with hu | hu
      · exact h.2 u (List.mem_of_mem_take hu)
      · rw [List.mem_singleton] at hu
        subst hu
        exact he
    · exact h.2 u (List.mem_of_mem_drop hu)
theorem smX_upd{xs:List (Elem kb)}(h:smX xs)(q j:Nat)(vs:List Value):smX (updR kb xs q (3+j) vs):=by
  unfold updR
  refine ⟨by rw [List.length_set]; exact h.1,fun e he => ?_⟩
  rcases List.mem_or_eq_of_mem_set he with he | he
  · exact h.2 e he
  · rw [he,Nat.add_comm]
    exact smE_at h q
theorem smX_do{xs:List (Elem kb)}(h:smX xs)(o:Int){a c:ByteArray}(ha:a.size≤100)(hc:c.size≤100)(i:Int)(t:ByteArray):smX (doR xs o a c i t).1:=by
  unfold doR
  split
  · exact smX_new h ⟨ha,Nat.zero_le _⟩
  split
  · exact h
  split
  · exact h
  split
  · exact h
  split
  · unfold ptR
    split
    · exact h
    split
    · exact h
    · exact smX_upd h _ _ _
  split
  · unfold bkR
    split
    · exact h
    split
    · exact h
    · exact smX_upd h _ 0 _
  split
  · split
    · exact h
    · exact smX_new h ⟨hc,(smE_at h _).1⟩
  · split
    · exact h
    · exact smX_new h ⟨hc,(smE_at h _).1⟩
def bdL(xs:List (Elem kb))(o:Int)(a c:ByteArray)(i:Int)(t:ByteArray):List (Elem kb) × Int:=match bookOk xs with
  | false=>([],5)
  | true=>match klS xs o a with
    | true=>(xs.take (lnB xs a)++xs.drop (lnB xs a+1),0)
    | false=>doR xs o a c i t
def g184:G1
  | [.agg [.rsl [.str,.int .i64,.str,.str,.str,.str,.str,.str,.str,.str,.str] xs],.agg [.val (.int .i64 o),.val (.string a),.val (.string c),.val (.int .i64 i),.val (.string t)]],[],k =>
    br (smB xs&&(decide (xs.length≤100)&&(decide (a.size≤1000000)&&decide (c.size≤1000000)))) (k ⟨.tup [.agg [.ows 0],.val (.int .i64 (bdL xs o a c i t).2)],[.row kb (bdL xs o a c i t).1],[]⟩) False
  | _,_,_=>False
theorem smX_nil:smX []:=⟨Nat.zero_le _,fun e h=>nomatch h⟩
theorem smX_bd{xs:List (Elem kb)}(h:smX xs)(o:Int){a c:ByteArray}(ha:a.size≤100)(hc:c.size≤100)(i:Int)(t:ByteArray):smX (bdL xs o a c i t).1:=by
  unfold bdL
  split
  · exact smX_nil
  split
  · exact smX_kill h _
  · exact smX_do h _ ha hc _ _
theorem smX_B{xs:List (Elem kb)}(h:smX xs):smB xs=true:=by
  unfold smB
  rw [Bool.and_eq_true,decide_eq_true_eq,List.all_eq_true]
  refine ⟨Nat.le_trans h.1 (by decide),fun e he=>decide_eq_true (Nat.le_trans (h.2 e he).1 (by decide))⟩
noncomputable def G184:Gk:=gk [(96,g96),(236,g236),(232,g232)]
theorem hg184:HG Tryz.prog G184:=(hg_cons h96 (hg_cons h236 (hg_cons h232 hg_nil)))
theorem e184(L:Lp)(R:Rp)(xs:List (Elem kb))(o:Int)(a c:ByteArray)(i:Int)(t:ByteArray):(bodyP Er G184 L Tryz.f184 [.agg [.rsl kb xs],.agg [.val (.int .i64 o),.val (.string a),.val (.string c),.val (.int .i64 i),.val (.string t)]] [] R)=(
    br (smB xs) (br (!bookOk xs) (R (some ⟨.tup [.agg [.ows 0],vI 5],[.row kb []],[]⟩)) (br (decide (xs.length≤1048576)) (br (decide (xs.length≤100)&&(decide (a.size≤1000000)&&decide (c.size≤1000000))) (br (klS xs o a) (R (some ⟨.tup [.agg [.ows 0],vI 0],[.row kb (List.take (lnB xs a) xs++List.drop (lnB xs a+1) xs)],[]⟩)) (R (some ⟨.tup [.agg [.ows 0],vI (doR xs o a c i t).2],[.row kb (doR xs o a c i t).1],[]⟩))) False) False)) False):=by kernel_rfl
theorem h184:G1Ok Tryz.prog 184 g184:=by
  intro args obs k h
  unfold g184 at h
  split at h
  · rename_i k xs o a c i t
    obtain ⟨hs,hq,h⟩:=brb2 h
    have hq':=hq
    simp only [Bool.and_eq_true,decide_eq_true_eq] at hq'
    obtain ⟨hl,ha,hc⟩:=hq'
    refine ⟨_,ctr_fn okr hg184 Tryz.func184 (by kernel_rfl) (by kernel_rfl) (by kernel_rfl) fun C => ?_,h⟩
    rw [e184]
    refine br_t hs (br_not (fun h1 => ?_) (fun h1=>br_yes (by omega) (br_t hq (br_intro (fun h2 => ?_) (fun h2 => ?_)))))
    · show _=_
      unfold bdL
      rw [h1]
    · show _=_
      unfold bdL
      rw [h1,h2]
    · show _=_
      unfold bdL
      rw [h1,h2]
  · exact h.elim
end Go.Proofs.YtkjnijddbiconaaGreatDoor.Ev
