/- Calls that are drawn. -/
import Derived.Test.YtkjnijddbiconaaGreatDoorB3
namespace Go.Proofs.YtkjnijddbiconaaGreatDoor.Ev
open Go
set_option linter.unusedVariables false
set_option linter.unusedSimpArgs false
set_option maxRecDepth 100000
structure OpS where
  p:Int
  o:Int
  a:ByteArray
  c:ByteArray
  i:Int
  t:ByteArray
def opW:List (Elem ks) := [(⟨#[120]⟩,()),(⟨#[121]⟩,()),(⟨#[122,122]⟩,()),(⟨#[111,110,101]⟩,()),(⟨#[97,122,122]⟩,()),(⟨#[98,120,108]⟩,()),(⟨#[]⟩,()),(⟨#[120]⟩,()),(⟨#[97,32,98]⟩,()),(⟨#[49,50,51,52,53,54,55,56,57,48,49,50,51,52,53,54,55,56,57,48]⟩,())]
def numS(b:List (Elem ku))(p:Int)(xs:List (Elem ki)):Int:=(xs.getD (pk b p xs.length).toNat (edflt ki)).1
def op1(b:List (Elem ku))(p:Int):OpS:=⟨p+1+1+1+1+1,numS b p [(1,()),(1,()),(2,()),(3,()),(3,()),(3,()),(3,()),(3,()),(3,()),(3,()),(4,()),(4,()),(5,()),(6,())],nmT b (p+1),nmT b (p+1+1),pk b (p+1+1+1) 8,at1 opW (pk b (p+1+1+1+1) 10).toNat⟩
def op2(b:List (Elem ku))(s:OpS):OpS:=match pk b s.p 3==0 with
  | true=>⟨s.p+1+1+1,s.o,s.a,s.c,s.i,strOf [(IntKind.u8.wrap (IntKind.i64.wrap (65+pk b (s.p+1) 26)),()),(IntKind.u8.wrap (IntKind.i64.wrap (48+pk b (s.p+1+1) 10)),())]⟩
  | false=>⟨s.p+1,s.o,s.a,s.c,s.i,s.t⟩
def oneS(b:List (Elem ku))(p:Int)(xs:List (Elem kb)):Elem kb:=xs.getD (pk b (p+1) xs.length).toNat (edflt kb)
def op3(b:List (Elem ku))(xs:List (Elem kb))(s:OpS):OpS:=match decide ((xs.length:Int) > 0)&&(s.o != 1) with
  | false=>s
  | true=>match decide (pk b s.p 5 > 0) with
    | true=>⟨s.p+1+1,s.o,(oneS b s.p xs).1,s.c,s.i,s.t⟩
    | false=>⟨s.p+1,s.o,s.a,s.c,s.i,s.t⟩
def op4(b:List (Elem ku))(xs:List (Elem kb))(s:OpS):OpS:=match (s.o==6)&&decide ((xs.length:Int) > 0) with
  | false=>s
  | true=>match decide (pk b s.p 4 > 0) with
    | true=>⟨s.p+1+1,s.o,(oneS b s.p xs).2.2.1,(oneS b s.p xs).1,s.i,s.t⟩
    | false=>⟨s.p+1,s.o,s.a,s.c,s.i,s.t⟩
def opA:List (Elem ks) := [(⟨#[]⟩,()),(⟨#[65]⟩,()),(⟨#[97,98,99,100,101,102,103]⟩,())]
def opB':List (Elem ks) := [(⟨#[]⟩,()),(⟨#[66]⟩,()),(⟨#[97,98,99,100,101,102,103]⟩,())]
def op5(b:List (Elem ku))(s:OpS):OpS:=match pk b s.p 30==0 with
  | true=>⟨s.p+1+1,numS b (s.p+1) [(0,()),(7,()),(-1,())],s.a,s.c,s.i,s.t⟩
  | false=>match pk b s.p 30==1 with
    | true=>⟨s.p+1+1,s.o,s.a,s.c,numS b (s.p+1) [(-1,()),(8,())],s.t⟩
    | false=>match pk b s.p 30==2 with
      | true=>⟨s.p+1+1,s.o,s.a,s.c,s.i,mny ⟨#[120]⟩ (IntKind.i64.wrap (24+pk b (s.p+1) 2))⟩
      | false=>match pk b s.p 30==3 with
        | true=>⟨s.p+1+1,s.o,at1 opA (pk b (s.p+1) 3).toNat,s.c,s.i,s.t⟩
        | false=>match pk b s.p 30==4 with
          | true=>⟨s.p+1+1,s.o,s.a,at1 opB' (pk b (s.p+1) 3).toNat,s.i,s.t⟩
          | false=>⟨s.p+1,s.o,s.a,s.c,s.i,s.t⟩
def opR(b:List (Elem ku))(p:Int)(xs:List (Elem kb)):OpS:=op5 b (op4 b xs (op3 b xs (op2 b (op1 b p))))
def g182:G1
  | [.ptr 0 0,.agg [.ows 1]],[.box [.rsl [.int .u8] b,.val (.int .i64 p)],.row [.str,.int .i64,.str,.str,.str,.str,.str,.str,.str,.str,.str] xs],k=>br (okY b&&(decide (b.length≤1048576)&&(decide (0≤p∧p≤500000)&&decide (xs.length≤1000))))
    (k ⟨.agg [.val (.int .i64 (opR b p xs).o),.val (.string (opR b p xs).a),.val (.string (opR b p xs).c),.val (.int .i64 (opR b p xs).i),.val (.string (opR b p xs).t)],[.box [.rsl ku b,.val (.int .i64 (opR b p xs).p)],.row kb xs],[some 0,some 1]⟩) False
  | _,_,_=>False
theorem q85_0:codeOf Tryz.f182=(pt85 0).seq (rstC 1 (codeOf Tryz.f182)):=by kernel_rfl
theorem q85_1:rstC 1 (codeOf Tryz.f182)=(pt85 1).seq (rstC 2 (codeOf Tryz.f182)):=by kernel_rfl
theorem q85_2:rstC 2 (codeOf Tryz.f182)=(pt85 2).seq (rstC 3 (codeOf Tryz.f182)):=by kernel_rfl
theorem q85_3:rstC 3 (codeOf Tryz.f182)=(pt85 3).seq (rstC 4 (codeOf Tryz.f182)):=by kernel_rfl
theorem q85_4:rstC 4 (codeOf Tryz.f182)=(pt85 4).seq (rstC 5 (codeOf Tryz.f182)):=by kernel_rfl
theorem q85_5:rstC 5 (codeOf Tryz.f182)=(pt85 5).seq (rstC 6 (codeOf Tryz.f182)):=by kernel_rfl
theorem op2_p(b:List (Elem ku))(s:OpS):s.p≤(op2 b s).p∧(op2 b s).p≤s.p+3:=by
  unfold op2
  split<;>simp<;>omega
theorem op3_p(b:List (Elem ku))(xs:List (Elem kb))(s:OpS):s.p≤(op3 b xs s).p∧(op3 b xs s).p≤s.p+3:=by
  unfold op3
  repeat' split
  all_goals simp<;>omega
theorem op4_p(b:List (Elem ku))(xs:List (Elem kb))(s:OpS):s.p≤(op4 b xs s).p∧(op4 b xs s).p≤s.p+3:=by
  unfold op4
  repeat' split
  all_goals simp<;>omega
theorem op5_p(b:List (Elem ku))(s:OpS):s.p≤(op5 b s).p∧(op5 b s).p≤s.p+3:=by
  unfold op5
  repeat' split
  all_goals simp<;>omega
def sOp(f:List (Elem [.int .u8])→Int→List (Elem kb)→Int→ByteArray→ByteArray→Int→ByteArray→St)(b:List (Elem ku))(xs:List (Elem kb))(s:OpS):St :=  f b s.p xs s.o s.a s.c s.i s.t
section
variable (C:Cx) (r:Res) (b:List (Elem ku)) (xs:List (Elem kb)) (hb:okY b=true) (hl:b.length≤1048576) (hx:xs.length≤1000)
include hb hl
theorem dY(x:Int)(h0:0≤x)(h1:x≤1000000):(okY b&&(decide (b.length≤1048576)&&(decide (0≤x∧x≤1000000)&&true)))=true:=by
  rw [hb,decide_eq_true hl,decide_eq_true (And.intro h0 h1)]
  rfl
theorem dY'(x:Int)(h0:0≤x)(h1:x≤1000000):(okY b&&(decide (b.length≤1048576)&&decide (0≤x∧x≤1000000)))=true:=by
  rw [hb,decide_eq_true hl,decide_eq_true (And.intro h0 h1)]
  rfl
omit hb hl in
theorem r6(s:OpS):RunOk Tryz.prog C (rstC 6 (codeOf Tryz.f182)) (sOp s6 b xs s) (kk85 (fun o=>o=some ⟨.agg [.val (.int .i64 s.o),.val (.string s.a),.val (.string s.c),.val (.int .i64 s.i),.val (.string s.t)],[.box [.rsl ku b,.val (.int .i64 s.p)],.row kb xs],[some 0,some 1]⟩)):=by
  refine run_of okf182 hg182 ?_
  show evP E182 G182 _ (rstC 6 (codeOf Tryz.f182)) (s6 b s.p xs s.o s.a s.c s.i s.t) (kk85 _)
  rw [p6]
theorem r5(s:OpS)(h0:0≤s.p)(h1:s.p≤900000)(n:RunOk Tryz.prog C (rstC 6 (codeOf Tryz.f182)) (sOp s6 b xs (op5 b s)) (kk85 (fun o=>o=some r))):RunOk Tryz.prog C (rstC 5 (codeOf Tryz.f182)) (sOp s5 b xs s) (kk85 (fun o=>o=some r)):=by
  rw [q85_5]
  refine run_cut okf182 hg182 (jj85 5) ?_
  show evP E182 G182 _ (pt85 5) (s5 b s.p xs s.o s.a s.c s.i s.t) (rk (jj85 5) _ (kk85 _))
  rw [p5]
  unfold op5 at n
  have hw:=pk_lt hb (p:=s.p+1) (by omega) (by omega) (show (1:Int)≤2 by omega)
  refine br_t (dY b hb hl s.p (by omega) (by omega)) (br_intro (fun e1=>br_t (dY b hb hl (s.p+1) (by omega) (by omega)) ?_) (fun e1=>br_intro (fun e2=>br_t (dY b hb hl (s.p+1) (by omega) (by omega)) ?_) (fun e2=>br_intro (fun e3=>br_t (dY b hb hl (s.p+1) (by omega) (by omega)) (br_t ?_ ?_)) (fun e3=>br_intro (fun e4=>br_t (dY b hb hl (s.p+1) (by omega) (by omega)) ?_) (fun e4=>br_intro (fun e5=>br_t (dY b hb hl (s.p+1) (by omega) (by omega)) ?_) (fun e5 => ?_))))))
  · rw [e1] at n; exact n
  · rw [e1,e2] at n; exact n
  · rw [Bool.true_and,decide_eq_true_eq,wrap_id (by omega) (by omega)]; omega
  · rw [e1,e2,e3] at n; exact n
  · rw [e1,e2,e3,e4] at n; exact n
  · rw [e1,e2,e3,e4,e5] at n; exact n
  · rw [e1,e2,e3,e4,e5] at n; exact n
include hx
theorem r4(s:OpS)(h0:0≤s.p)(h1:s.p≤900000)(n:RunOk Tryz.prog C (rstC 5 (codeOf Tryz.f182)) (sOp s5 b xs (op4 b xs s)) (kk85 (fun o=>o=some r))):RunOk Tryz.prog C (rstC 4 (codeOf Tryz.f182)) (sOp s2 b xs s) (kk85 (fun o=>o=some r)):=by
  rw [q85_4]
  refine run_cut okf182 hg182 (jj85 4) ?_
  show evP E182 G182 _ (pt85 4) (s2 b s.p xs s.o s.a s.c s.i s.t) (rk (jj85 4) _ (kk85 _))
  rw [p4]
  unfold op4 at n
  refine br_intro (fun e1=>br_intro (fun e2=>br_t (dY b hb hl s.p (by omega) (by omega)) (br_intro (fun e3=>br_t ?_ (br_yes ?_ ?_)) (fun e3 => ?_))) (fun e2 => ?_)) (fun e1 => ?_)
  · rw [hb,decide_eq_true hl,decide_eq_true (show 0≤s.p+1∧s.p+1≤1000000 by omega)]
    exact decide_eq_true (by omega)
  · have:=of_decide_eq_true e2
    exact pk_lt hb (by omega) (by omega) (by omega)
  · rw [e1,e2,e3] at n; exact n
  · rw [e1,e2,e3] at n; exact n
  · rw [e1,e2] at n; exact n
  · rw [e1] at n; exact n
theorem r3(s:OpS)(h0:0≤s.p)(h1:s.p≤900000)(n:RunOk Tryz.prog C (rstC 4 (codeOf Tryz.f182)) (sOp s2 b xs (op3 b xs s)) (kk85 (fun o=>o=some r))):RunOk Tryz.prog C (rstC 3 (codeOf Tryz.f182)) (sOp s2 b xs s) (kk85 (fun o=>o=some r)):=by
  rw [q85_3]
  refine run_cut okf182 hg182 (jj85 3) ?_
  show evP E182 G182 _ (pt85 3) (s2 b s.p xs s.o s.a s.c s.i s.t) (rk (jj85 3) _ (kk85 _))
  rw [p3]
  unfold op3 at n
  refine br_intro (fun e1=>br_intro (fun e2=>br_t (dY b hb hl s.p (by omega) (by omega)) (br_intro (fun e3=>br_t ?_ (br_yes ?_ ?_)) (fun e3 => ?_))) (fun e2 => ?_)) (fun e1 => ?_)
  · rw [hb,decide_eq_true hl,decide_eq_true (show 0≤s.p+1∧s.p+1≤1000000 by omega)]
    exact decide_eq_true (by omega)
  · have:=of_decide_eq_true e1
    exact pk_lt hb (by omega) (by omega) (by omega)
  · rw [e1,e2,e3] at n; exact n
  · rw [e1,e2,e3] at n; exact n
  · rw [e1,e2] at n; exact n
  · rw [e1] at n; exact n
omit hx in
theorem r2(s:OpS)(h0:0≤s.p)(h1:s.p≤900000)(n:RunOk Tryz.prog C (rstC 3 (codeOf Tryz.f182)) (sOp s2 b xs (op2 b s)) (kk85 (fun o=>o=some r))):RunOk Tryz.prog C (rstC 2 (codeOf Tryz.f182)) (sOp s2 b xs s) (kk85 (fun o=>o=some r)):=by
  rw [q85_2]
  refine run_cut okf182 hg182 (jj85 2) ?_
  show evP E182 G182 _ (pt85 2) (s2 b s.p xs s.o s.a s.c s.i s.t) (rk (jj85 2) _ (kk85 _))
  rw [p2]
  unfold op2 at n
  refine br_t (dY b hb hl s.p (by omega) (by omega)) (br_intro (fun e1=>br_t (dY b hb hl (s.p+1) (by omega) (by omega)) (br_t (dY b hb hl (s.p+1+1) (by omega) (by omega)) ?_)) (fun e1 => ?_))
  · rw [e1] at n; exact n
  · rw [e1] at n; exact n
omit hx in
theorem r1(p:Int)(h0:0≤p)(h1:p≤900000)(n:RunOk Tryz.prog C (rstC 2 (codeOf Tryz.f182)) (sOp s2 b xs (op1 b p)) (kk85 (fun o=>o=some r))):RunOk Tryz.prog C (rstC 1 (codeOf Tryz.f182)) (s1 b p xs) (kk85 (fun o=>o=some r)):=by
  rw [q85_1]
  refine run_cut okf182 hg182 (jj85 1) ?_
  show evP E182 G182 _ (pt85 1) (s1 b p xs) (rk (jj85 1) _ (kk85 _))
  rw [p1]
  exact br_t (dY b hb hl p (by omega) (by omega)) (br_t (dY' b hb hl (p+1) (by omega) (by omega)) (br_t (dY' b hb hl (p+1+1) (by omega) (by omega)) (br_t (dY b hb hl (p+1+1+1) (by omega) (by omega)) (br_t (dY b hb hl (p+1+1+1+1) (by omega) (by omega)) n))))
end
theorem h182:G1Ok Tryz.prog 182 g182:=by
  intro args obs k h
  unfold g182 at h
  split at h
  · rename_i b p xs
    obtain ⟨hq,h⟩:=br_and h
    simp only [Bool.and_eq_true,decide_eq_true_eq] at hq
    obtain ⟨hb,hl,⟨hp0,hp1⟩,hx⟩:=hq
    refine ⟨_,ctr_run okr Tryz.func182 (by kernel_rfl) (by kernel_rfl) (by kernel_rfl) fun C => ?_,h⟩
    have a1:(op1 b p).p=p+5:=by show p+1+1+1+1+1=_; omega
    have a2:=op2_p b (op1 b p)
    have a3:=op3_p b xs (op2 b (op1 b p))
    have a4:=op4_p b xs (op3 b xs (op2 b (op1 b p)))
    show RunOk Tryz.prog C (codeOf Tryz.f182) _ (kk85 _)
    rw [q85_0]
    refine run_cut okf182 hg182 (jj85 0) ?_
    show evP E182 G182 _ (pt85 0) (initSt Tryz.f182.ntmps [.ptr 0 0,.agg [.ows 1]] [.box [.rsl [.int .u8] b,.val (.int .i64 p)],.row kb xs]) (rk (jj85 0) _ (kk85 _))
    rw [p0]
    exact r1 C _ b xs hb hl p hp0 (by omega) (r2 C _ b xs hb hl _ (by omega) (by omega) (r3 C _ b xs hb hl hx _ (by omega) (by omega) (r4 C _ b xs hb hl hx _ (by omega) (by omega) (r5 C _ b xs hb hl _ (by omega) (by omega) (r6 C b xs _)))))
  · exact h.elim
end Go.Proofs.YtkjnijddbiconaaGreatDoor.Ev
