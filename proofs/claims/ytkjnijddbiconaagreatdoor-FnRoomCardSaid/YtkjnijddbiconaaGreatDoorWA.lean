/- What all texts share: sizes that fit, small laws. -/
import Derived.Test.YtkjnijddbiconaaGreatDoorTt
import Derived.Test.YtkjnijddbiconaaGreatDoorEvB
import Derived.Test.YtkjnijddbiconaaGreatDoorEvC
import Derived.Lib.ItoaNum
namespace Go.Proofs.YtkjnijddbiconaaGreatDoor.Ev
open Go
set_option linter.unusedVariables false
set_option linter.unusedSimpArgs false
set_option maxRecDepth 100000
abbrev ks:List CK := [.str]
abbrev k3:List CK := [.int .i64,.int .i64,.int .i64]
abbrev ki:List CK := [.int .i64]
abbrev ku:List CK := [.int .u8]
def Ef:Env:=⟨tt,1000000 :: E0.io,E0.eqs,.skip,[]⟩
def at1(xs:List (Elem ks))(i:Nat):ByteArray:=(xs.getD i (edflt ks)).1
def inL(l:Int):Bool:=decide (0≤l∧l≤1048576)
def inS(a:ByteArray):Bool:=decide (a.size≤9223372036854775807)
def g129:G1
  | [.val (.int .i64 a),.val (.int .i64 b),.val (.int .i64 c)],[],k=>k ⟨.val (.bool (decide (b≤a)&&decide (a≤c))),[],[]⟩
  | _,_,_=>False
theorem okf:Ok Tryz.prog Ef:=⟨ttOK,eqsOK,by kernel_rfl⟩
theorem byteAt_lt(t:ByteArray)(i:Int):0≤byteAt t i∧byteAt t i≤255:=by
  unfold byteAt
  split
  · rename_i h
    have:=(t[i.toNat]'h).toNat_lt
    omega
  · omega
theorem strEq_self(t:ByteArray):strEq t t=true:=by simp [strEq]
theorem brb2{p q:Bool}{t:Prop}(h:br (p&&q) t False):p=true∧q=true∧t:=by
  obtain ⟨h1,h2⟩:=br_and h
  rw [Bool.and_eq_true] at h1
  exact ⟨h1.1,h1.2,h2⟩
theorem quiet_below{w w':World}(h:RowKit.Below w.heap.size w w'):Quiet w w':=by
  refine ⟨⟨h.os,h.tape,h.output,h.size⟩,fun b x hb => ?_⟩
  have hlt:b < w.heap.size:=(Array.getElem?_eq_some_iff.1 hb).1
  rw [h.block b hlt,hb]
noncomputable def G129:Gk:=gk []
theorem hg129:HG Tryz.prog G129:=hg_nil
theorem e129(L:Lp)(R:Rp)(a b c:Int):(bodyP E0 G129 L Tryz.f129 [.val (.int .i64 a),.val (.int .i64 b),.val (.int .i64 c)] [] R)=(
    br (decide (b≤a)) (R (some ⟨vB (decide (a≤c)),[],[]⟩)) (R (some ⟨vB false,[],[]⟩))):=by kernel_rfl
theorem h129:G1Ok Tryz.prog 129 g129:=by
  intro args obs k h
  unfold g129 at h
  split at h
  · rename_i k a b c
    refine ⟨_,ctr_fn ok0 hg129 Tryz.func129 (by kernel_rfl) (by kernel_rfl) (by kernel_rfl) fun C => ?_,h⟩
    rw [e129]
    refine br_intro (fun h => ?_) (fun h => ?_)<;>simp [h]
  · exact h.elim
def sumL(t:ByteArray):Nat→Int
  | 0=>1+(t.size:Int).tmod 997
  | i+1=>(257 * sumL t i+byteAt t i+1).tmod 65521
def sumN(t:ByteArray):Int:=sumL t t.size
def g116:G1
  | [.val (.string t)],[],k=>br (decide (t.size≤4611686018427387904)) (k ⟨.val (.int .i64 (sumN t)),[],[]⟩) False
  | _,_,_=>False
theorem sumL_lt(t:ByteArray) : ∀ (i:Nat),0≤sumL t i∧sumL t i≤65520
  | 0=>by
    show 0≤1+(t.size:Int).tmod 997∧1+(t.size:Int).tmod 997≤65520
    rw [Int.tmod_eq_emod_of_nonneg (by omega)]
    omega
  | i+1=>by
    obtain ⟨h1,h2⟩:=sumL_lt t i
    obtain ⟨h3,h4⟩:=byteAt_lt t i
    show 0≤(257 * sumL t i+byteAt t i+1).tmod 65521∧(257 * sumL t i+byteAt t i+1).tmod 65521≤65520
    rw [Int.tmod_eq_emod_of_nonneg (by omega)]
    omega
theorem sumN_lt(t:ByteArray):0≤sumN t∧sumN t≤65520:=sumL_lt t _
theorem sum_start(t:ByteArray):IntKind.i64.wrap (1+(t.size:Int).tmod 997)=sumL t 0:=by
  have:=sumL_lt t 0
  exact wrap_id (n:=sumL t 0) (by omega) (by omega)
theorem sum_step(t:ByteArray)(i:Nat):(IntKind.i64.wrap (IntKind.i64.wrap (IntKind.i64.wrap (257 * sumL t i)+IntKind.i64.wrap (byteAt t i))+1)).tmod 65521=sumL t (i+1):=by
  obtain ⟨h1,h2⟩:=sumL_lt t i
  obtain ⟨h3,h4⟩:=byteAt_lt t i
  rw [wrap_id (n:=257 * sumL t i) (by omega) (by omega),wrap_id (n:=byteAt t i) (by omega) (by omega),wrap_id (n:=257 * sumL t i+byteAt t i) (by omega) (by omega),wrap_id (n:=257 * sumL t i+byteAt t i+1) (by omega) (by omega)]
  rfl
noncomputable def E116:Env:=E0.of Tryz.f116
noncomputable def G116:Gk:=gk []
noncomputable def lp116(n:Nat):Code:=(loopOf n (codeOf Tryz.f116)).getD .skip
noncomputable def ct116(L:Lp)(R:Rp)(n:Nat):Kt:=contOf E116 G116 L n (codeOf Tryz.f116) (endK E116 Tryz.f116.results.toList R)
noncomputable def rk116(L:Lp)(R:Rp)(n:Nat)(N:St→Prop):Kt:=rk (jof E116 (lp116 n)) N (ct116 L R n)
noncomputable def LOOP116(L:Lp)(R:Rp)(n:Nat)(st:St):Prop:=L (lp116 n) st (ct116 L R n)
theorem hg116:HG Tryz.prog G116:=hg_nil
theorem okf116:Ok Tryz.prog E116:=ok0.of Tryz.f116
theorem e116(L:Lp)(R:Rp)(t:ByteArray):(bodyP E0 G116 L Tryz.f116 [.val (.string t)] [] R)=(
    LOOP116 L R 3 ⟨(vS t :: vU :: vI 0 :: vI (IntKind.i64.wrap (1+(↑t.size:Int).tmod 997)) :: vI 0 :: jn 19 ([vU])),[],1000000,[]⟩):=by kernel_rfl
def st116(t:ByteArray)(n i:Int):St :=  ⟨(vS t :: vU :: vI 0 :: .val (.int .i64 n) :: .val (.int .i64 i) :: jn 19 ([vU])),[],1000000,[]⟩
theorem b116(L:Lp)(R:Rp)(N:St→Prop)(t:ByteArray)(n i:Int):(evP E116 G116 L (lp116 3) (st116 t n i) (rk116 L R 3 N))=(
    br (decide (i < (↑t.size:Int))) (br (decide (0≤i∧i < (↑t.size:Int))) (N (st116 t ((IntKind.i64.wrap (IntKind.i64.wrap (IntKind.i64.wrap (n * 257)+IntKind.i64.wrap (byteAt t i))+1)).tmod 65521) (IntKind.i64.wrap (i+1)))) False) (R (some ⟨vI n,[],[]⟩))):=by kernel_rfl
theorem h116:G1Ok Tryz.prog 116 g116:=by
  intro args obs k h
  unfold g116 at h
  split at h
  · rename_i k t
    obtain ⟨hlen,h⟩:=brd h
    refine ⟨_,ctr_fn ok0 hg116 Tryz.func116 (by kernel_rfl) (by kernel_rfl) (by kernel_rfl) fun C => ?_,h⟩
    rw [e116]
    refine loopUp okf116 hg116 (fun i n=>st116 t n i) t.size (fun i n=>n=sumL t i) (fun N i n hi hn next => ?_) _ (sum_start t)
    show evP E116 G116 _ (lp116 3) (st116 t n i) (rk116 _ _ 3 _)
    rw [b116,hn,wrap_id (n:=(i:Int)+1) (by omega) (by omega),Int.mul_comm (sumL t i) 257,sum_step]
    refine br_dec (fun h1=>br_yes ⟨by omega,h1⟩ ?_) (fun h1 => ?_)
    · exact next (by omega) _ rfl
    · show _=_
      have:i=t.size:=by omega
      rw [this]
      rfl
  · exact h.elim
noncomputable def E115:Env:=E0.of Tryz.f115
noncomputable def G115:Gk:=gk []
noncomputable def lp115(n:Nat):Code:=(loopOf n (codeOf Tryz.f115)).getD .skip
noncomputable def ct115(L:Lp)(R:Rp)(n:Nat):Kt:=contOf E115 G115 L n (codeOf Tryz.f115) (endK E115 Tryz.f115.results.toList R)
noncomputable def rk115(L:Lp)(R:Rp)(n:Nat)(N:St→Prop):Kt:=rk (jof E115 (lp115 n)) N (ct115 L R n)
noncomputable def LOOP115(L:Lp)(R:Rp)(n:Nat)(st:St):Prop:=L (lp115 n) st (ct115 L R n)
theorem hg115:HG Tryz.prog G115:=hg_nil
theorem okf115:Ok Tryz.prog E115:=ok0.of Tryz.f115
theorem e115(L:Lp)(R:Rp)(t:ByteArray):(bodyP E0 G115 L Tryz.f115 [.val (.string t)] [] R)=(
    LOOP115 L R 3 ⟨(vS t :: vU :: vI 0 :: vI (IntKind.i64.wrap (1+(↑t.size:Int).tmod 997)) :: jn 6 (vI (↑t.size:Int) :: vI 0 :: jn 12 ([vU]))),[],1000000,[]⟩):=by kernel_rfl
def st115(t:ByteArray)(n i:Int):St :=  ⟨(vS t :: vU :: vI 0 :: .val (.int .i64 n) :: jn 6 (vI (↑t.size:Int) :: .val (.int .i64 i) :: jn 12 ([vU]))),[],1000000,[]⟩
theorem b115(L:Lp)(R:Rp)(N:St→Prop)(t:ByteArray)(n i:Int):(evP E115 G115 L (lp115 3) (st115 t n i) (rk115 L R 3 N))=(
    br (decide (i < (↑t.size:Int))) (br (decide (0≤i∧i < (↑t.size:Int))) (N ⟨(vS t :: vU :: vI 0 :: vI ((IntKind.i64.wrap (IntKind.i64.wrap (IntKind.i64.wrap (257 * n)+IntKind.i64.wrap (byteAt t i))+1)).tmod 65521) :: jn 6 (vI (↑t.size:Int) :: vI (IntKind.i64.wrap (i+1)) :: jn 12 ([vU]))),[],1000000,[]⟩) False) (R (some ⟨vI n,[],[]⟩))):=by kernel_rfl
theorem h115:G1Ok Tryz.prog 115 g116:=by
  intro args obs k h
  unfold g116 at h
  split at h
  · rename_i k t
    obtain ⟨hlen,h⟩:=brd h
    refine ⟨_,ctr_fn ok0 hg115 Tryz.func115 (by kernel_rfl) (by kernel_rfl) (by kernel_rfl) fun C => ?_,h⟩
    rw [e115]
    refine loopUp okf115 hg115 (fun i n=>st115 t n i) t.size (fun i n=>n=sumL t i) (fun N i n hi hn next => ?_) _ (sum_start t)
    show evP E115 G115 _ (lp115 3) (st115 t n i) (rk115 _ _ 3 _)
    rw [b115,hn,wrap_id (n:=(i:Int)+1) (by omega) (by omega),sum_step]
    refine br_dec (fun h1=>br_yes ⟨by omega,h1⟩ ?_) (fun h1 => ?_)
    · exact next (by omega) _ rfl
    · show _=_
      have:i=t.size:=by omega
      rw [this]
      rfl
  · exact h.elim
def decD(u:Nat):List UInt8:=if h:u < 10 then [UInt8.ofNat (48+u)] else decD (u / 10) ++ [UInt8.ofNat (48+u % 10)]
  termination_by u
  decreasing_by omega
def dec(n:Int):ByteArray:=⟨(match decide (n < 0) with | true=>45 :: decD n.natAbs | false=>decD n.toNat).toArray⟩
def g164p:G1
  | [.val (.int .i64 n)],[],k=>br (decide (0≤n∧n≤9223372036854775807)) (k ⟨.val (.string (dec n)),[],[]⟩) False
  | _,_,_=>False
def gNo:G1:=fun _ _ _=>False
theorem hNo{f:Nat}:G1Ok Tryz.prog f gNo:=fun _ _ _ h=>h.elim
theorem decD_len(u:Nat):(decD u).length≤u / 2+1:=by
  induction u using decD.induct with
  | case1 u h =>
    rw [decD,dif_pos h]
    simp
  | case2 u h ih =>
    rw [decD,dif_neg h,List.length_append,List.length_singleton]
    omega
theorem dig1{m:Nat}(h:m < 10):strOf [(IntKind.u8.wrap (IntKind.i64.wrap (48+(m:Int))),())]=⟨[UInt8.ofNat (48+m)].toArray⟩:=by
  rw [wrap_id (n:=48+(m:Int)) (by omega) (by omega)]
  have e:IntKind.u8.wrap (48+(m:Int))=48+(m:Int):=by rw [IntKind.wrap_u8]; omega
  rw [e]
  unfold strOf
  simp only [List.map_cons,List.map_nil]
  congr 4
theorem cat1(b:UInt8)(l:List UInt8):(⟨[b].toArray⟩:ByteArray)++⟨l.toArray⟩=⟨(b :: l).toArray⟩:=by
  apply ByteArray.ext
  rw [ByteArray.data_append]
  simp
theorem dec_nn(m:Nat):dec m=⟨(decD m).toArray⟩:=by
  unfold dec
  rw [decide_eq_false (by omega)]
  rfl
noncomputable def E164p:Env:=E0.of Tryz.f164
noncomputable def G164p:Gk:=gk [(164,gNo)]
noncomputable def lp164p(n:Nat):Code:=(loopOf n (codeOf Tryz.f164)).getD .skip
noncomputable def ct164p(L:Lp)(R:Rp)(n:Nat):Kt:=contOf E164p G164p L n (codeOf Tryz.f164) (endK E164p Tryz.f164.results.toList R)
noncomputable def rk164p(L:Lp)(R:Rp)(n:Nat)(N:St→Prop):Kt:=rk (jof E164p (lp164p n)) N (ct164p L R n)
noncomputable def LOOP164p(L:Lp)(R:Rp)(n:Nat)(st:St):Prop:=L (lp164p n) st (ct164p L R n)
theorem hg164p:HG Tryz.prog G164p:=(hg_cons hNo hg_nil)
theorem okf164p:Ok Tryz.prog E164p:=ok0.of Tryz.f164
theorem e164p(L:Lp)(R:Rp)(n:Int):(bodyP E0 G164p L Tryz.f164 [.val (.int .i64 n)] [] R)=(
    br (decide (n < -9223372036854775807)) (R (some ⟨vS { data := #[45,57,50,50,51,51,55,50,48,51,54,56,53,52,55,55,53,56,48,56] },[],[]⟩)) (br (decide (n < 0)) False (LOOP164p L R 6 ⟨[vI n,vU,vS { data := #[] },vS { data := #[] },vJ,vJ,vJ,vJ,vJ,vJ,vJ,vJ,vJ,vJ,vJ,vJ,vJ,vJ,vJ,vJ,vJ,vJ,vJ,vJ,vU,vU,vU,vU,vU,vU,vU],[],1000000,[]⟩))):=by kernel_rfl
def st164p(n:Int)(o:ByteArray):St :=  ⟨[.val (.int .i64 n),vU,vS { data := #[] },.val (.string o),vJ,vJ,vJ,vJ,vJ,vJ,vJ,vJ,vJ,vJ,vJ,vJ,vJ,vJ,vJ,vJ,vJ,vJ,vJ,vJ,vU,vU,vU,vU,vU,vU,vU],[],1000000,[]⟩
theorem b164p(L:Lp)(R:Rp)(N:St→Prop)(n:Int)(o:ByteArray):(evP E164p G164p L (lp164p 6) (st164p n o) (rk164p L R 6 N))=(
    br (decide (n > 9)) (br (decide ((strOf [(IntKind.u8.wrap (IntKind.i64.wrap (48+n.tmod 10)),())]).size+o.size≤9223372036854775807)) (N (st164p (IntKind.i64.wrap (n.tdiv 10)) (strOf [(IntKind.u8.wrap (IntKind.i64.wrap (48+n.tmod 10)),())]++o))) False) (br (decide ((strOf [(IntKind.u8.wrap (IntKind.i64.wrap (48+n)),())]).size+o.size≤9223372036854775807)) (R (some ⟨vS (strOf [(IntKind.u8.wrap (IntKind.i64.wrap (48+n)),())]++o),[],[]⟩)) False)):=by kernel_rfl
theorem h164p:G1Ok Tryz.prog 164 g164p:=by
  intro args obs k h
  unfold g164p at h
  split at h
  · rename_i k n
    obtain ⟨hn,h⟩:=brd h
    obtain ⟨n,rfl⟩ : ∃ m:Nat,n=m:=⟨n.toNat,by omega⟩
    refine ⟨_,ctr_fn ok0 hg164p Tryz.func164 (by kernel_rfl) (by kernel_rfl) (by kernel_rfl) fun C => ?_,h⟩
    rw [e164p]
    refine br_no (by omega) (br_no (by omega) ?_)
    have hl:=decD_len n
    refine loopR okf164p hg164p (ι := {p:Nat × List UInt8 // p.1≤n∧decD p.1++p.2=decD n}) (fun p=>st164p p.1.1 ⟨p.1.2.toArray⟩) (fun p=>p.1.1) (fun ⟨(m,l),hm,he⟩ => ?_) ⟨(n,[]),Nat.le_refl _,by simp⟩
    show evP E164p G164p _ (lp164p 6) (st164p m ⟨l.toArray⟩) (rk164p _ _ 6 _)
    simp only at hm he
    have hlen:=congrArg List.length he
    rw [List.length_append] at hlen
    have hsz:(⟨l.toArray⟩:ByteArray).size=l.length:=by show l.toArray.size=_; simp
    rw [b164p]
    refine br_dec (fun h2 => ?_) (fun h2 => ?_)
    · have e1:(48+(m:Int).tmod 10)=48+((m % 10:Nat):Int):=rfl
      rw [e1,dig1 (Nat.mod_lt _ (by omega)),hsz]
      refine br_yes (by show 1+l.length≤_; omega) ?_
      have hq:(m:Int).tdiv 10=((m / 10:Nat):Int):=rfl
      rw [hq,wrap_id (by omega) (by omega),cat1]
      refine ⟨⟨(m / 10,UInt8.ofNat (48+m % 10) :: l),by show m / 10≤n; omega,?_⟩,rfl,by show m / 10 < m; omega⟩
      show decD (m / 10)++(UInt8.ofNat (48+m % 10) :: l)=decD n
      rw [← he]
      conv=>rhs; rw [decD]
      rw [dif_neg (by omega),List.append_assoc]
      rfl
    · have hm9:m < 10:=by omega
      rw [dig1 hm9,hsz]
      refine br_yes (by show 1+l.length≤_; omega) ?_
      show _=_
      rw [cat1,dec_nn,← he,decD,dif_pos hm9]
      rfl
  · exact h.elim
def sealT(t:ByteArray):ByteArray:=match decide ((t.size:Int) > 400) with
  | true=>ByteArray.empty
  | false=>dec (sumN t)++⟨#[58]⟩++t
def g301:G1
  | [.val (.string t)],[],k=>br (decide (t.size≤4611686018427387904)) (k ⟨.val (.string (sealT t)),[],[]⟩) False
  | _,_,_=>False
theorem dec_size{n:Int}(h0:0≤n)(h1:n≤9223372036854775807):(dec n).size≤n.toNat / 2+1:=by
  obtain ⟨m,rfl⟩ : ∃ m:Nat,n=m:=⟨n.toNat,by omega⟩
  rw [dec_nn]
  have:=decD_len m
  show (decD m).toArray.size≤_
  simpa using this
noncomputable def G301:Gk:=gk [(116,g116),(164,g164p)]
theorem hg301:HG Tryz.prog G301:=(hg_cons h116 (hg_cons h164p hg_nil))
theorem e301(L:Lp)(R:Rp)(t:ByteArray):(bodyP E0 G301 L Tryz.f301 [.val (.string t)] [] R)=(
    br (decide ((↑t.size:Int) > 400)) (R (some ⟨vS { data := #[] },[],[]⟩)) (br (decide (t.size≤4611686018427387904)) (br (decide (0≤sumN t∧sumN t≤9223372036854775807)) (br (decide ((dec (sumN t)).size+1≤9223372036854775807)) (br (decide ((dec (sumN t) ++ { data := #[58] }).size+t.size≤9223372036854775807)) (R (some ⟨vS (dec (sumN t) ++ { data := #[58] }++t),[],[]⟩)) False) False) False) False)):=by kernel_rfl
theorem h301:G1Ok Tryz.prog 301 g301:=by
  intro args obs k h
  unfold g301 at h
  split at h
  · rename_i k t
    obtain ⟨hs,h⟩:=br_and h
    refine ⟨_,ctr_fn ok0 hg301 Tryz.func301 (by kernel_rfl) (by kernel_rfl) (by kernel_rfl) fun C => ?_,h⟩
    rw [e301]
    refine br_intro (fun h1 => ?_) (fun h1=>br_t hs (br_yes ?_ (br_yes ?_ (br_yes ?_ ?_))))
    · show _=_
      unfold sealT
      rw [h1]
      rfl
    · have:=sumN_lt t
      omega
    · have:=sumN_lt t
      have:=dec_size (n:=sumN t) (by omega) (by omega)
      omega
    · have:=sumN_lt t
      have:=dec_size (n:=sumN t) (by omega) (by omega)
      have h1:=of_decide_eq_false h1
      rw [ByteArray.size_append]
      show (dec (sumN t)).size+1+t.size≤_
      omega
    · show _=_
      unfold sealT
      rw [h1]
  · exact h.elim
def Er:Env:=⟨tt,[1000000,104,180,114,106,230,182,232,268,269,270,271,183,233,234,235,272,273,274,229,265,296],E0.eqs,.skip,[]⟩
theorem okr:Ok Tryz.prog Er:=⟨ttOK,eqsOK,by kernel_rfl⟩
def bA(b:List (Elem ku))(i:Nat):Int:=(b.getD i (edflt ku)).1
def okY(b:List (Elem ku)):Bool:=b.all fun e=>decide (0≤(e.1:Int)∧(e.1:Int)≤255)
def kX(b:List (Elem ku))(p:Int):Int:=bA b (p.tmod b.length).toNat * 131+bA b ((p * 7+3).tmod b.length).toNat * 1117+p * 29+p.tdiv b.length * 53
def kY(x:Int):Int:=IntKind.i64.wrap (BitVec.ofInt 64 x ^^^ BitVec.ofInt 64 (x.tdiv 64)).toNat
def pk(b:List (Elem ku))(p n:Int):Int:=match decide (n < 1) || decide ((b.length:Int)=0) with
  | true=>0
  | false=>match decide (p < b.length) with
    | true=>(bA b p.toNat).tmod n
    | false=>(kY (kX b p)).tmod n
def opB(b:List (Elem ku)):List (Elem ku):=match decide ((b.length:Int) > 2000) with
  | true=>b.take 2000
  | false=>b
def g104:G1
  | [.rsl [.int .u8] b],[],k=>br (okY b&&decide (b.length≤1048576)) (k ⟨.ptr 0 0,[.box [.rsl ku (opB b),.val (.int .i64 0)]],[]⟩) False
  | _,_,_=>False
def g180:G1
  | [.ptr 0 0,.val (.int .i64 n)],[.box [.rsl [.int .u8] b,.val (.int .i64 p)]],k=>br (okY b&&(decide (b.length≤1048576)&&(decide (0≤p∧p≤1000000)&&decide (n≤1000000)))) (k ⟨.val (.int .i64 (pk b p n)),[.box [.rsl ku b,.val (.int .i64 (p+1))]],[some 0]⟩) False
  | _,_,_=>False
def g114:G1
  | [.ptr 0 0,.ows 1],[.box [.rsl [.int .u8] b,.val (.int .i64 p)],.row [.str] xs],k=>br (okY b&&(decide (b.length≤1048576)&&(decide (0≤p∧p≤1000000)&&(decide (1≤xs.length)&&decide (xs.length≤1000000))))) (k ⟨.val (.string (at1 xs (pk b p xs.length).toNat)),[.box [.rsl ku b,.val (.int .i64 (p+1))],.row ks xs],[some 0,some 1]⟩) False
  | _,_,_=>False
theorem bA_lt{b:List (Elem ku)}(h:okY b=true)(i:Nat):0≤bA b i∧bA b i≤255:=by
  unfold bA
  rw [List.getD_eq_getElem?_getD]
  cases hx:b[i]? with
  | none=>exact ⟨by show (0:Int)≤0; omega,by show (0:Int)≤255; omega⟩
  | some e =>
    have hm:e∈b:=List.mem_of_getElem? hx
    unfold okY at h
    exact of_decide_eq_true (List.all_eq_true.1 h e hm)
theorem kY_lt{x:Int}(h0:0≤x)(h1:x≤1099511627775):0≤kY x∧kY x≤1099511627775:=by
  obtain ⟨m,rfl⟩ : ∃ m:Nat,x=m:=⟨x.toNat,by omega⟩
  unfold kY
  have e1:(BitVec.ofInt 64 (m:Int)).toNat=m:=by rw [BitVec.toNat_ofInt]; omega
  have e2:(BitVec.ofInt 64 ((m:Int).tdiv 64)).toNat=m / 64:=by rw [BitVec.toNat_ofInt,Int.tdiv_eq_ediv_of_nonneg (by omega)]; omega
  rw [BitVec.toNat_xor,e1,e2]
  have hlt:m ^^^ m / 64 < 2 ^ 40:=Nat.xor_lt_two_pow (by omega) (by omega)
  rw [wrap_id (by omega) (by omega)]
  omega
theorem kX_lt{b:List (Elem ku)}(h:okY b=true){p:Int}(h0:0≤p)(h1:p≤1048576):0≤kX b p∧kX b p≤1099511627775:=by
  have a1:=bA_lt h (p.tmod b.length).toNat
  have a2:=bA_lt h ((p * 7+3).tmod b.length).toNat
  have a3:0≤p.tdiv b.length∧p.tdiv b.length≤p:=by
    rw [Int.tdiv_eq_ediv_of_nonneg h0]
    exact ⟨Int.ediv_nonneg h0 (Int.natCast_nonneg _),Int.ediv_le_self _ h0⟩
  unfold kX
  omega
theorem tmod_lt{x n:Int}(h0:0≤x)(h1:1≤n):0≤x.tmod n∧x.tmod n < n:=by
  rw [Int.tmod_eq_emod_of_nonneg h0]
  exact ⟨Int.emod_nonneg _ (by omega),Int.emod_lt_of_pos _ (by omega)⟩
theorem pk_lt{b:List (Elem ku)}(h:okY b=true){p n:Int}(h0:0≤p)(h1:p≤1048576)(hn:1≤n):0≤pk b p n∧pk b p n < n:=by
  unfold pk
  split
  · omega
  · split
    · exact tmod_lt (bA_lt h _).1 hn
    · have:=kX_lt h h0 h1
      exact tmod_lt (kY_lt this.1 this.2).1 hn
noncomputable def G104:Gk:=gk []
theorem hg104:HG Tryz.prog G104:=hg_nil
theorem e104(L:Lp)(R:Rp)(b:List (Elem [.int .u8])):(bodyP Er G104 L Tryz.f104 [.rsl [.int .u8] b] [] R)=(
    br (decide ((↑b.length:Int) > 2000)) (br (decide ((0:Int)≤0∧(0:Int)≤2000∧2000≤(↑b.length:Int)∧(↑b.length:Int)≤(↑b.length:Int))) (R (some ⟨.ptr 0 0,[.box [.rsl ku (List.drop 0 (List.take 2000 b)),vI 0]],[]⟩)) False) (R (some ⟨.ptr 0 0,[.box [.rsl ku b,vI 0]],[]⟩))):=by kernel_rfl
theorem h104:G1Ok Tryz.prog 104 g104:=by
  intro args obs k h
  unfold g104 at h
  split at h
  · rename_i k b
    obtain ⟨hp,h⟩:=br_and h
    refine ⟨_,ctr_fn okr hg104 Tryz.func104 (by kernel_rfl) (by kernel_rfl) (by kernel_rfl) fun C => ?_,h⟩
    rw [e104]
    unfold opB
    refine br_intro (fun h1=>br_yes ⟨by omega,by omega,by have:=of_decide_eq_true h1; omega,by omega⟩ ?_) (fun h1 => ?_)
    · rw [h1]
      rfl
    · rw [h1]
  · exact h.elim
theorem okY_take{b:List (Elem ku)}(h:okY b=true)(n:Nat):okY (b.take n)=true:=by
  unfold okY at h ⊢
  rw [List.all_eq_true] at h ⊢
  exact fun e he=>h e (List.mem_of_mem_take he)
theorem opB_ok{b:List (Elem ku)}(h:okY b=true):okY (opB b)=true:=by
  unfold opB
  split
  · exact okY_take h _
  · exact h
noncomputable def G180:Gk:=gk []
theorem hg180:HG Tryz.prog G180:=hg_nil
theorem e180(L:Lp)(R:Rp)(b:List (Elem [.int .u8]))(p n:Int):(bodyP Er G180 L Tryz.f180 [.ptr 0 0,.val (.int .i64 n)] [.box [.rsl [.int .u8] b,.val (.int .i64 p)]] R)=(
    br (decide (n < 1)) (R (some ⟨vI 0,[.box [.rsl ku b,vI (IntKind.i64.wrap (p+1))]],[some 0]⟩)) (br ((↑b.length:Int)==0) (R (some ⟨vI 0,[.box [.rsl ku b,vI (IntKind.i64.wrap (p+1))]],[some 0]⟩)) (br (decide (IntKind.i64.wrap (IntKind.i64.wrap (p+1) - 1) < (↑b.length:Int))) (br (decide (0≤IntKind.i64.wrap (IntKind.i64.wrap (p+1) - 1)∧IntKind.i64.wrap (IntKind.i64.wrap (p+1) - 1) < (↑b.length:Int))) (br (!decide (n=0)) (R (some ⟨vI ((IntKind.i64.wrap (b.getD (IntKind.i64.wrap (IntKind.i64.wrap (p+1) - 1)).toNat (edflt ku)).1).tmod n),[.box [.rsl ku b,vI (IntKind.i64.wrap (p+1))]],[some 0]⟩)) False) False) (br (!decide ((↑b.length:Int)=0)) (br (decide (0≤(IntKind.i64.wrap (IntKind.i64.wrap (p+1) - 1)).tmod (↑b.length:Int)∧(IntKind.i64.wrap (IntKind.i64.wrap (p+1) - 1)).tmod (↑b.length:Int) < (↑b.length:Int))) (br (!decide ((↑b.length:Int)=0)) (br (decide (0≤(IntKind.i64.wrap (IntKind.i64.wrap (IntKind.i64.wrap (IntKind.i64.wrap (p+1) - 1) * 7)+3)).tmod (↑b.length:Int)∧(IntKind.i64.wrap (IntKind.i64.wrap (IntKind.i64.wrap (IntKind.i64.wrap (p+1) - 1) * 7)+3)).tmod (↑b.length:Int) < (↑b.length:Int))) (br (!decide ((↑b.length:Int)=0)) (br (!decide (n=0)) (R (some ⟨vI ((IntKind.i64.wrap (↑(BitVec.ofInt 64 (IntKind.i64.wrap (IntKind.i64.wrap (IntKind.i64.wrap (IntKind.i64.wrap (IntKind.i64.wrap (b.getD ((IntKind.i64.wrap (IntKind.i64.wrap (p+1) - 1)).tmod (↑b.length:Int)).toNat (edflt ku)).1 * 131)+IntKind.i64.wrap (IntKind.i64.wrap (b.getD ((IntKind.i64.wrap (IntKind.i64.wrap (IntKind.i64.wrap (IntKind.i64.wrap (p+1) - 1) * 7)+3)).tmod (↑b.length:Int)).toNat (edflt ku)).1 * 1117))+IntKind.i64.wrap (IntKind.i64.wrap (IntKind.i64.wrap (p+1) - 1) * 29))+IntKind.i64.wrap (IntKind.i64.wrap ((IntKind.i64.wrap (IntKind.i64.wrap (p+1) - 1)).tdiv (↑b.length:Int)) * 53))) ^^^ BitVec.ofInt 64 (IntKind.i64.wrap ((IntKind.i64.wrap (IntKind.i64.wrap (IntKind.i64.wrap (IntKind.i64.wrap (IntKind.i64.wrap (b.getD ((IntKind.i64.wrap (IntKind.i64.wrap (p+1) - 1)).tmod (↑b.length:Int)).toNat (edflt ku)).1 * 131)+IntKind.i64.wrap (IntKind.i64.wrap (b.getD ((IntKind.i64.wrap (IntKind.i64.wrap (IntKind.i64.wrap (IntKind.i64.wrap (p+1) - 1) * 7)+3)).tmod (↑b.length:Int)).toNat (edflt ku)).1 * 1117))+IntKind.i64.wrap (IntKind.i64.wrap (IntKind.i64.wrap (p+1) - 1) * 29))+IntKind.i64.wrap (IntKind.i64.wrap ((IntKind.i64.wrap (IntKind.i64.wrap (p+1) - 1)).tdiv (↑b.length:Int)) * 53))).tdiv 64))).toNat:Int)).tmod n),[.box [.rsl ku b,vI (IntKind.i64.wrap (p+1))]],[some 0]⟩)) False) False) False) False) False) False)))):=by kernel_rfl
theorem h180:G1Ok Tryz.prog 180 g180:=by
  intro args obs k h
  unfold g180 at h
  split at h
  · rename_i k n b p
    obtain ⟨hq,h⟩:=br_and h
    simp only [Bool.and_eq_true,decide_eq_true_eq] at hq
    obtain ⟨hb,hl,⟨hp0,hp1⟩,hn⟩:=hq
    refine ⟨_,ctr_fn okr hg180 Tryz.func180 (by kernel_rfl) (by kernel_rfl) (by kernel_rfl) fun C => ?_,h⟩
    rw [e180]
    have e1:IntKind.i64.wrap (p+1)=p+1:=wrap_id (by omega) (by omega)
    have e2:IntKind.i64.wrap (p+1 - 1)=p:=by rw [show p+1 - 1=p by omega]; exact wrap_id (by omega) (by omega)
    have e3:IntKind.i64.wrap (p * 7)=p * 7:=wrap_id (by omega) (by omega)
    have e4:IntKind.i64.wrap (p * 7+3)=p * 7+3:=wrap_id (by omega) (by omega)
    have a0:=bA_lt hb p.toNat
    have a1:=bA_lt hb (p.tmod b.length).toNat
    have a2:=bA_lt hb ((p * 7+3).tmod b.length).toNat
    have hx:=kX_lt hb hp0 (show p≤1048576 by omega)
    rw [e1,e2,e3,e4]
    have ex:IntKind.i64.wrap (IntKind.i64.wrap (IntKind.i64.wrap (IntKind.i64.wrap (IntKind.i64.wrap (bA b (p.tmod b.length).toNat) * 131)+IntKind.i64.wrap (IntKind.i64.wrap (bA b ((p * 7+3).tmod b.length).toNat) * 1117))+IntKind.i64.wrap (p * 29))+IntKind.i64.wrap (IntKind.i64.wrap (p.tdiv b.length) * 53))=kX b p:=by
      have a3:0≤p.tdiv b.length∧p.tdiv b.length≤p:=by
        rw [Int.tdiv_eq_ediv_of_nonneg hp0]
        exact ⟨Int.ediv_nonneg hp0 (Int.natCast_nonneg _),Int.ediv_le_self _ hp0⟩
      unfold kX
      generalize bA b (p.tmod b.length).toNat=x at *
      generalize bA b ((p * 7+3).tmod b.length).toNat=y at *
      generalize p.tdiv b.length=z at *
      rw [wrap_id (n:=x) (by omega) (by omega),wrap_id (n:=y) (by omega) (by omega),wrap_id (n:=z) (by omega) (by omega),wrap_id (n:=x * 131) (by omega) (by omega),wrap_id (n:=y * 1117) (by omega) (by omega),wrap_id (n:=p * 29) (by omega) (by omega),wrap_id (n:=z * 53) (by omega) (by omega),
        wrap_id (n:=x * 131+y * 1117) (by omega) (by omega),wrap_id (n:=x * 131+y * 1117+p * 29) (by omega) (by omega),wrap_id (by omega) (by omega)]
    have ed : ∀ x:Int,0≤x→x≤1099511627775→IntKind.i64.wrap (x.tdiv 64)=x.tdiv 64:=fun x h0 h1=>by
      rw [Int.tdiv_eq_ediv_of_nonneg h0]
      exact wrap_id (by omega) (by omega)
    unfold bA at ex a0 a1 a2
    rw [ex,ed _ hx.1 hx.2]
    unfold pk
    refine br_dec (fun h1 => ?_) (fun h1 => ?_)
    · rw [decide_eq_true h1]
      rfl
    · rw [decide_eq_false h1]
      refine br_intro (fun h2 => ?_) (fun h2 => ?_)
      · have h2:=eq_of_beq h2
        rw [decide_eq_true h2]
        rfl
      · have h2:(b.length:Int)≠0:=by simpa using h2
        rw [decide_eq_false h2]
        refine br_dec (fun h3 => ?_) (fun h3 => ?_)
        · rw [decide_eq_true h3]
          refine br_yes ⟨hp0,h3⟩ (br_t (by simp<;>omega) ?_)
          rw [wrap_id (by omega) (by omega)]
          rfl
        · rw [decide_eq_false h3]
          have m1:=tmod_lt hp0 (show (1:Int)≤b.length by omega)
          have m2:=tmod_lt (show 0≤p * 7+3 by omega) (show (1:Int)≤b.length by omega)
          refine br_t (by simp<;>omega) (br_yes m1 (br_t (by simp<;>omega) (br_yes m2 (br_t (by simp<;>omega) (br_t (by simp<;>omega) ?_)))))
          rfl
  · exact h.elim
noncomputable def G114:Gk:=gk [(180,g180)]
theorem hg114:HG Tryz.prog G114:=(hg_cons h180 hg_nil)
theorem e114(L:Lp)(R:Rp)(b:List (Elem [.int .u8]))(p:Int)(xs:List (Elem [.str])):(bodyP Er G114 L Tryz.f114 [.ptr 0 0,.ows 1] [.box [.rsl [.int .u8] b,.val (.int .i64 p)],.row [.str] xs] R)=(
    br (okY b&&(decide (b.length≤1048576)&&(decide (0≤p∧p≤1000000)&&decide ((↑xs.length:Int)≤1000000)))) (br (decide (0≤pk b p (↑xs.length:Int)∧pk b p (↑xs.length:Int) < (↑xs.length:Int))) (R (some ⟨vS (xs.getD (pk b p (↑xs.length:Int)).toNat (edflt ks)).1,[.box [.rsl ku b,vI (p+1)],.row ks xs],[some 0,some 1]⟩)) False) False):=by kernel_rfl
theorem h114:G1Ok Tryz.prog 114 g114:=by
  intro args obs k h
  unfold g114 at h
  split at h
  · rename_i k b p xs
    obtain ⟨hq,h⟩:=br_and h
    simp only [Bool.and_eq_true,decide_eq_true_eq] at hq
    obtain ⟨hb,hl,⟨hp0,hp1⟩,hn1,hn2⟩:=hq
    refine ⟨_,ctr_fn okr hg114 Tryz.func114 (by kernel_rfl) (by kernel_rfl) (by kernel_rfl) fun C => ?_,h⟩
    rw [e114]
    have hr:=pk_lt hb hp0 (show p≤1048576 by omega) (show (1:Int)≤xs.length by omega)
    refine br_t (by rw [hb,decide_eq_true hl,decide_eq_true (And.intro hp0 hp1),decide_eq_true (show ((xs.length:Int))≤1000000 by omega)]; rfl) (br_yes hr ?_)
    rfl
  · exact h.elim
abbrev kl:List CK := [.int .i64,.int .i64,.str]
def smD(a b:List (Elem ks))(c:List (Elem kl)):Bool:=decide (a.length≤1048576)&&decide (b.length≤1048576)&&decide (c.length≤1048576)
def longT(e:Elem ks):Bool:=decide ((e.1.size:Int) > 420)
def anyLong(xs:List (Elem ks)):Bool:=anyB xs.length fun i=>longT (xs.getD i (edflt ks))
def secOk(n:Nat)(s i:Int):Bool:=decide (0≤s)&&decide (s≤1)&&decide (0≤i)&&decide (i < (n:Int))
def badL(n:Nat)(e:Elem kl):Bool := !secOk n e.1 e.2.1 || decide ((e.2.2.1.size:Int) > 420)
def anyBad(n:Nat)(xs:List (Elem kl)):Bool:=anyB xs.length fun i=>badL n (xs.getD i (edflt kl))
def dkOk(a b:List (Elem ks))(c:List (Elem kl)):Bool :=
  decide (1≤a.length)&&decide (a.length≤120)&&decide (b.length=a.length)&&decide (c.length≤600) && !anyLong a && !anyLong b && !anyBad a.length c
def g148:G1
  | [.agg [.rsl [.str] a,.rsl [.str] b,.rsl [.int .i64,.int .i64,.str] c],.val (.int .i64 s),.val (.int .i64 i),.val (.string t)],[],k=>k ⟨.val (.bool (secOk a.length s i&&decide ((t.size:Int)≤420))),[],[]⟩
  | _,_,_=>False
def g79:G1
  | [.agg [.rsl [.str] a,.rsl [.str] b,.rsl [.int .i64,.int .i64,.str] c]],[],k=>br (smD a b c) (k ⟨.val (.bool (dkOk a b c)),[],[]⟩) False
  | _,_,_=>False
noncomputable def G148:Gk:=gk []
theorem hg148:HG Tryz.prog G148:=hg_nil
theorem e148(L:Lp)(R:Rp)(a b:List (Elem ks))(c:List (Elem kl))(s i:Int)(t:ByteArray):(bodyP E0 G148 L Tryz.f148 [.agg [.rsl ks a,.rsl ks b,.rsl kl c],.val (.int .i64 s),.val (.int .i64 i),.val (.string t)] [] R)=(
    br (decide (s≥0)) (br (decide (s≤1)) (br (decide (i≥0)) (br (decide (i < (↑a.length:Int))) (R (some ⟨vB (decide ((↑t.size:Int)≤420)),[],[]⟩)) (R (some ⟨vB false,[],[]⟩))) (R (some ⟨vB false,[],[]⟩))) (R (some ⟨vB false,[],[]⟩))) (R (some ⟨vB false,[],[]⟩))):=by kernel_rfl
theorem h148:G1Ok Tryz.prog 148 g148:=by
  intro args obs k h
  unfold g148 at h
  split at h
  · rename_i k a b c s i t
    refine ⟨_,ctr_fn ok0 hg148 Tryz.func148 (by kernel_rfl) (by kernel_rfl) (by kernel_rfl) fun C => ?_,h⟩
    rw [e148]
    repeat' (first | refine br_dec (fun h => ?_) (fun h => ?_))
    all_goals show _=_
    all_goals simp [secOk]
    all_goals omega
  · exact h.elim
noncomputable def E79:Env:=E0.of Tryz.f79
noncomputable def G79:Gk:=gk [(148,g148)]
noncomputable def lp79(n:Nat):Code:=(loopOf n (codeOf Tryz.f79)).getD .skip
noncomputable def ct79(L:Lp)(R:Rp)(n:Nat):Kt:=contOf E79 G79 L n (codeOf Tryz.f79) (endK E79 Tryz.f79.results.toList R)
noncomputable def rk79(L:Lp)(R:Rp)(n:Nat)(N:St→Prop):Kt:=rk (jof E79 (lp79 n)) N (ct79 L R n)
noncomputable def LOOP79(L:Lp)(R:Rp)(n:Nat)(st:St):Prop:=L (lp79 n) st (ct79 L R n)
theorem hg79:HG Tryz.prog G79:=(hg_cons h148 hg_nil)
theorem okf79:Ok Tryz.prog E79:=ok0.of Tryz.f79
theorem e79(L:Lp)(R:Rp)(a b:List (Elem ks))(c:List (Elem kl)):(bodyP E0 G79 L Tryz.f79 [.agg [.rsl ks a,.rsl ks b,.rsl kl c]] [] R)=(
    br (decide ((↑a.length:Int) < 1)) (R (some ⟨vB false,[],[]⟩)) (br (decide ((↑a.length:Int) > 120)) (R (some ⟨vB false,[],[]⟩)) (br ((↑b.length:Int) != (↑a.length:Int)) (R (some ⟨vB false,[],[]⟩)) (br (decide ((↑c.length:Int) > 600)) (R (some ⟨vB false,[],[]⟩)) (LOOP79 L R 5 ⟨[.agg [.rsl ks a,.rsl ks b,.rsl kl c],.ptr 0 0,vB false,vI (↑a.length:Int),vI 0,vU,vJ,vJ,vJ,vJ,vJ,vJ,vJ,vJ,vJ,vJ,vJ,vJ,vJ,vJ,vJ,vJ,vJ,vJ,vJ,vJ,vJ,vJ,vJ,vJ,vJ,vJ,vJ,vJ,vJ,vJ,vJ,vJ,vJ,vJ,vJ,vJ,vJ,vJ,vJ,vJ,vJ,vJ,vJ,vJ,vJ,vJ,vJ,vU,vU,vU,vU,vU,vU,vU,vU,vU,vU,vU,vU,vU,vU,vU,vU,vU,vU,vU,vU,vU,vU,vU,vU,vU,vU,vU,vU],[(0,.box [.rsl ks a,.rsl ks b,.rsl kl c])],1000000,[]⟩))))):=by kernel_rfl
def st79(a b:List (Elem ks))(c:List (Elem kl))(i:Int):St :=  ⟨[AV.agg [AV.rsl ks a,AV.rsl ks b,AV.rsl kl c],AV.ptr 0 0,vB false,vI (↑a.length:Int),.val (.int .i64 i),vU,vJ,vJ,vJ,vJ,vJ,vJ,vJ,vJ,vJ,vJ,vJ,vJ,vJ,vJ,vJ,vJ,vJ,vJ,vJ,vJ,vJ,vJ,vJ,vJ,vJ,vJ,vJ,vJ,vJ,vJ,vJ,vJ,vJ,vJ,vJ,vJ,vJ,vJ,vJ,vJ,vJ,vJ,vJ,vJ,vJ,vJ,vJ,vU,vU,vU,vU,vU,vU,vU,vU,vU,vU,vU,vU,vU,vU,vU,vU,vU,vU,vU,vU,vU,vU,vU,vU,vU,vU,vU,vU],[(0,AO.box [AV.rsl ks a,AV.rsl ks b,AV.rsl kl c])],1000000,[]⟩
theorem b79(L:Lp)(R:Rp)(N:St→Prop)(a b:List (Elem ks))(c:List (Elem kl))(i:Int):(evP E79 G79 L (lp79 5) (st79 a b c i) (rk79 L R 5 N))=(
    br (decide (i < (↑a.length:Int))) (br (decide (0≤i∧i < (↑a.length:Int))) (br (decide ((↑(ByteArray.size (a.getD i.toNat (edflt ks)).1):Int) > 420)) (R (some ⟨vB false,[],[]⟩)) (br (decide (0≤i∧i < (↑b.length:Int))) (br (decide ((↑(ByteArray.size (b.getD i.toNat (edflt ks)).1):Int) > 420)) (R (some ⟨vB false,[],[]⟩)) (N ⟨[.agg [.rsl ks a,.rsl ks b,.rsl kl c],.ptr 0 0,vB false,vI (↑a.length:Int),vI (IntKind.i64.wrap (i+1)),vU,vJ,vJ,vJ,vJ,vJ,vJ,vJ,vJ,vJ,vJ,vJ,vJ,vJ,vJ,vJ,vJ,vJ,vJ,vJ,vJ,vJ,vJ,vJ,vJ,vJ,vJ,vJ,vJ,vJ,vJ,vJ,vJ,vJ,vJ,vJ,vJ,vJ,vJ,vJ,vJ,vJ,vJ,vJ,vJ,vJ,vJ,vJ,vU,vU,vU,vU,vU,vU,vU,vU,vU,vU,vU,vU,vU,vU,vU,vU,vU,vU,vU,vU,vU,vU,vU,vU,vU,vU,vU,vU],[(0,.box [.rsl ks a,.rsl ks b,.rsl kl c])],1000000,[]⟩)) False)) False) (LOOP79 L R 10 ⟨[.agg [.rsl ks a,.rsl ks b,.rsl kl c],.ptr 0 0,vB false,vJ,vJ,vI 0,vJ,vJ,vJ,vJ,vJ,vJ,vJ,vJ,vJ,vJ,vJ,vJ,vJ,vJ,vJ,vJ,vJ,vJ,vJ,vJ,vJ,vJ,vJ,vJ,vJ,vJ,vJ,vJ,vJ,vJ,vJ,vJ,vJ,vJ,vJ,vJ,vJ,vJ,vJ,vJ,vJ,vJ,vJ,vJ,vJ,vJ,vJ,vJ,vJ,vJ,vJ,vJ,vJ,vJ,vJ,vJ,vJ,vJ,vJ,vJ,vJ,vJ,vJ,vJ,vJ,vJ,vJ,vJ,vJ,vJ,vJ,vJ,vJ,vJ,vJ],[(0,.box [.rsl ks a,.rsl ks b,.rsl kl c])],1000000,[]⟩)):=by kernel_rfl
def st79b(a b:List (Elem ks))(c:List (Elem kl))(i j:Int):St :=  ⟨[AV.agg [AV.rsl ks a,AV.rsl ks b,AV.rsl kl c],AV.ptr 0 0,vB false,vJ,vJ,.val (.int .i64 j),vJ,vJ,vJ,vJ,vJ,vJ,vJ,vJ,vJ,vJ,vJ,vJ,vJ,vJ,vJ,vJ,vJ,vJ,vJ,vJ,vJ,vJ,vJ,vJ,vJ,vJ,vJ,vJ,vJ,vJ,vJ,vJ,vJ,vJ,vJ,vJ,vJ,vJ,vJ,vJ,vJ,vJ,vJ,vJ,vJ,vJ,vJ,vJ,vJ,vJ,vJ,vJ,vJ,vJ,vJ,vJ,vJ,vJ,vJ,vJ,vJ,vJ,vJ,vJ,vJ,vJ,vJ,vJ,vJ,vJ,vJ,vJ,vJ,vJ,vJ],[(0,AO.box [AV.rsl ks a,AV.rsl ks b,AV.rsl kl c])],1000000,[]⟩
theorem b79b(L:Lp)(R:Rp)(N:St→Prop)(a b:List (Elem ks))(c:List (Elem kl))(i j:Int):(evP E79 G79 L (lp79 10) (st79b a b c i j) (rk79 L R 10 N))=(
    br (decide (j < (↑c.length:Int))) (br (decide (0≤j∧j < (↑c.length:Int))) (br (decide (0≤j∧j < (↑c.length:Int))) (br (decide (0≤j∧j < (↑c.length:Int))) (br (!(secOk a.length (c.getD j.toNat (edflt kl)).1 (c.getD j.toNat (edflt kl)).2.1&&decide ((↑(ByteArray.size (c.getD j.toNat (edflt kl)).2.2.1):Int)≤420))) (R (some ⟨vB false,[],[]⟩)) (N ⟨[.agg [.rsl ks a,.rsl ks b,.rsl kl c],.ptr 0 0,vB false,vJ,vJ,vI (IntKind.i64.wrap (j+1)),vJ,vJ,vJ,vJ,vJ,vJ,vJ,vJ,vJ,vJ,vJ,vJ,vJ,vJ,vJ,vJ,vJ,vJ,vJ,vJ,vJ,vJ,vJ,vJ,vJ,vJ,vJ,vJ,vJ,vJ,vJ,vJ,vJ,vJ,vJ,vJ,vJ,vJ,vJ,vJ,vJ,vJ,vJ,vJ,vJ,vJ,vJ,vJ,vJ,vJ,vJ,vJ,vJ,vJ,vJ,vJ,vJ,vJ,vJ,vJ,vJ,vJ,vJ,vJ,vJ,vJ,vJ,vJ,vJ,vJ,vJ,vJ,vJ,vJ,vJ],[(0,.box [.rsl ks a,.rsl ks b,.rsl kl c])],1000000,[]⟩)) False) False) False) (R (some ⟨vB true,[],[]⟩))):=by kernel_rfl
theorem dkOk_f1{a b:List (Elem ks)}{c:List (Elem kl)}(h:anyLong a=true):dkOk a b c=false:=by simp [dkOk,h]
theorem dkOk_f2{a b:List (Elem ks)}{c:List (Elem kl)}(h:anyLong b=true):dkOk a b c=false:=by simp [dkOk,h]
theorem h79:G1Ok Tryz.prog 79 g79:=by
  intro args obs k h
  unfold g79 at h
  split at h
  · rename_i k a b c
    unfold smD at h
    obtain ⟨hp,hc,h⟩:=brb2 h
    rw [decide_eq_true_eq] at hc
    refine ⟨_,ctr_fn ok0 hg79 Tryz.func79 (by kernel_rfl) (by kernel_rfl) (by kernel_rfl) fun C => ?_,h⟩
    rw [e79]
    refine br_dec (fun h1 => ?_) (fun h1=>br_dec (fun h2 => ?_) (fun h2=>br_intro (fun h3 => ?_) (fun h3=>br_dec (fun h4 => ?_) (fun h4 => ?_))))
    · show _=_
      have : ¬ 1≤a.length:=by omega
      simp [dkOk,this]
    · show _=_
      have : ¬ a.length≤120:=by omega
      simp [dkOk,this]
    · show _=_
      have : ¬ b.length=a.length:=fun e=>by rw [e] at h3; simp at h3
      simp [dkOk,this]
    · show _=_
      have : ¬ c.length≤600:=by omega
      simp [dkOk,this]
    have e1:b.length=a.length:=by simp at h3; omega
    have e2:1≤a.length:=by omega
    have e3:a.length≤120:=by omega
    have e4:c.length≤600:=by omega
    refine loopUp okf79 hg79 (α:=Unit) (fun i _=>st79 a b c i) a.length (fun i _ => ∀ j,j < i→longT (a.getD j (edflt ks))=false∧longT (b.getD j (edflt ks))=false) (fun N i _ hi hall next => ?_) () (fun j hj=>by omega)
    show evP E79 G79 _ (lp79 5) (st79 a b c i) (rk79 _ _ 5 _)
    rw [b79,wrap_id (n:=(i:Int)+1) (by omega) (by omega),Int.toNat_natCast]
    refine br_dec (fun h5=>br_yes ⟨by omega,h5⟩ (br_intro (fun h6 => ?_) (fun h6=>br_yes ⟨by omega,by omega⟩ (br_intro (fun h115 => ?_) (fun h115 => ?_))))) (fun h5 => ?_)
    · show _=_
      rw [dkOk_f1 (anyB_t (i:=i) (by omega) h6)]
    · show _=_
      rw [dkOk_f2 (anyB_t (i:=i) (by omega) h115)]
    · refine next (by omega) () (fun j hj => ?_)
      by_cases e:j < i
      · exact hall j e
      · have:j=i:=by omega
        rw [this]
        exact ⟨h6,h115⟩
    · have l1:anyLong a=false:=anyB_f fun j hj=>(hall j (by omega)).1
      have l2:anyLong b=false:=anyB_f fun j hj=>(hall j (by omega)).2
      have res : ∀ x,anyBad a.length c=x→dkOk a b c = !x:=by
        intro x hx
        simp [dkOk,l1,l2,hx,e1,e2,e3,e4]
      refine loopAll okf79 hg79 (fun j=>st79b a b c i j) c.length (fun j => !badL a.length (c.getD j (edflt kl))) (by omega) (fun N j hj hw next fails done => ?_)
      show evP E79 G79 _ (lp79 10) (st79b a b c i j) (rk79 _ _ 10 _)
      rw [b79b,hw,Int.toNat_natCast]
      have e:(!badL a.length (c.getD j (edflt kl)))=(secOk a.length (c.getD j (edflt kl)).1 (c.getD j (edflt kl)).2.1&&decide (((c.getD j (edflt kl)).2.2.1.size:Int)≤420)):=by
        unfold badL
        rw [Bool.not_or,Bool.not_not]
        congr 1
        rw [Bool.eq_iff_iff]
        simp
      rw [← e]
      refine br_dec (fun h116=>br_yes ⟨by omega,h116⟩ (br_yes ⟨by omega,h116⟩ (br_yes ⟨by omega,h116⟩ (br_not (fun h9 => ?_) (fun h9 => ?_))))) (fun h116 => ?_)
      · show _=_
        rw [res _ (anyB_t (i:=j) (by omega) (by simpa using h9))]
        rfl
      · exact next (by omega) h9
      · show _=_
        have:=done (by omega)
        rw [res false (anyB_f fun q hq=>by simpa using allB_at this hq)]
        rfl
  · exact h.elim
def hitL(e:Elem kl)(s i:Int):Bool:=e.1==s&&e.2.1==i
def lkL(c:List (Elem kl))(s i:Int):Nat→Option ByteArray
  | 0=>none
  | n+1=>match hitL (c.getD n (edflt kl)) s i with
    | true=>some (c.getD n (edflt kl)).2.2.1
    | false=>lkL c s i n
def sideAt(a b:List (Elem ks))(s i:Int):ByteArray:=match s==0 with
  | true=>(a.getD i.toNat (edflt ks)).1
  | false=>(b.getD i.toNat (edflt ks)).1
def rdD(a b:List (Elem ks))(c:List (Elem kl))(s i:Int):ByteArray:=match lkL c s i c.length with
  | some t=>t
  | none=>sideAt a b s i
def rdA(a b:List (Elem ks))(c:List (Elem kl))(s i:Int):ByteArray:=match dkOk a b c&&secOk a.length s i with
  | true=>rdD a b c s i
  | false=>ByteArray.empty
def g150:G1
  | [.agg [.rsl [.str] a,.rsl [.str] b,.rsl [.int .i64,.int .i64,.str] c],.val (.int .i64 s),.val (.int .i64 i)],[],k =>
    br (secOk a.length s i&&(decide (b.length=a.length)&&decide (c.length≤1048576))) (k ⟨.val (.string (rdD a b c s i)),[],[]⟩) False
  | _,_,_=>False
noncomputable def E150:Env:=E0.of Tryz.f150
noncomputable def G150:Gk:=gk []
noncomputable def lp150(n:Nat):Code:=(loopOf n (codeOf Tryz.f150)).getD .skip
noncomputable def ct150(L:Lp)(R:Rp)(n:Nat):Kt:=contOf E150 G150 L n (codeOf Tryz.f150) (endK E150 Tryz.f150.results.toList R)
noncomputable def rk150(L:Lp)(R:Rp)(n:Nat)(N:St→Prop):Kt:=rk (jof E150 (lp150 n)) N (ct150 L R n)
noncomputable def LOOP150(L:Lp)(R:Rp)(n:Nat)(st:St):Prop:=L (lp150 n) st (ct150 L R n)
theorem hg150:HG Tryz.prog G150:=hg_nil
theorem okf150:Ok Tryz.prog E150:=ok0.of Tryz.f150
theorem e150(L:Lp)(R:Rp)(a b:List (Elem ks))(c:List (Elem kl))(s i:Int):(bodyP E0 G150 L Tryz.f150 [.agg [.rsl ks a,.rsl ks b,.rsl kl c],.val (.int .i64 s),.val (.int .i64 i)] [] R)=(
    LOOP150 L R 2 ⟨[.agg [.rsl ks a,.rsl ks b,.rsl kl c],vI s,vI i,.ptr 0 0,vU,vU,vS { data := #[] },vI (IntKind.i64.wrap ((↑c.length:Int) - 1)),vJ,vJ,vJ,vJ,vJ,vJ,vJ,vJ,vJ,vJ,vJ,vJ,vJ,vJ,vJ,vJ,vJ,vJ,vJ,vJ,vJ,vJ,vJ,vJ,vJ,vJ,vJ,vJ,vJ,vJ,vJ,vJ,vU,vU,vU,vU,vU,vU,vU],[(0,.box [.rsl ks a,.rsl ks b,.rsl kl c])],1000000,[]⟩):=by kernel_rfl
def st150(a b:List (Elem ks))(c:List (Elem kl))(s i j:Int):St :=  ⟨[AV.agg [AV.rsl ks a,AV.rsl ks b,AV.rsl kl c],vI s,vI i,AV.ptr 0 0,vU,vU,vS { data := #[] },.val (.int .i64 j),vJ,vJ,vJ,vJ,vJ,vJ,vJ,vJ,vJ,vJ,vJ,vJ,vJ,vJ,vJ,vJ,vJ,vJ,vJ,vJ,vJ,vJ,vJ,vJ,vJ,vJ,vJ,vJ,vJ,vJ,vJ,vJ,vU,vU,vU,vU,vU,vU,vU],[(0,AO.box [AV.rsl ks a,AV.rsl ks b,AV.rsl kl c])],1000000,[]⟩
theorem b150(L:Lp)(R:Rp)(N:St→Prop)(a b:List (Elem ks))(c:List (Elem kl))(s i j:Int):(evP E150 G150 L (lp150 2) (st150 a b c s i j) (rk150 L R 2 N))=(
    br (decide (j≥0)) (br (decide (0≤j∧j < (↑c.length:Int))) (br ((c.getD j.toNat (edflt kl)).1==s) (br (decide (0≤j∧j < (↑c.length:Int))) (br ((c.getD j.toNat (edflt kl)).2.1==i) (br (decide (0≤j∧j < (↑c.length:Int))) (R (some ⟨vS (c.getD j.toNat (edflt kl)).2.2.1,[],[]⟩)) False) (N (st150 a b c s i (IntKind.i64.wrap (j - 1))))) False) (N (st150 a b c s i (IntKind.i64.wrap (j - 1))))) False) (br (s==0) (br (decide (0≤i∧i < (↑a.length:Int))) (R (some ⟨vS (a.getD i.toNat (edflt ks)).1,[],[]⟩)) False) (br (s==1) (br (decide (0≤i∧i < (↑b.length:Int))) (R (some ⟨vS (b.getD i.toNat (edflt ks)).1,[],[]⟩)) False) False))):=by kernel_rfl
theorem h150:G1Ok Tryz.prog 150 g150:=by
  intro args obs k h
  unfold g150 at h
  split at h
  · rename_i k a b c s i
    obtain ⟨hs,hq,h⟩:=brb2 h
    rw [Bool.and_eq_true,decide_eq_true_eq,decide_eq_true_eq] at hq
    have hs':=hs
    simp only [secOk,Bool.and_eq_true,decide_eq_true_eq] at hs'
    refine ⟨_,ctr_fn ok0 hg150 Tryz.func150 (by kernel_rfl) (by kernel_rfl) (by kernel_rfl) fun C => ?_,h⟩
    rw [e150]
    refine loopDown okf150 hg150 (fun j=>st150 a b c s i j) c.length (fun q=>lkL c s i c.length=lkL c s i q) (fun N h0 => ?_) (fun N q hq' hI next => ?_) _ (wrap_id (by omega) (by omega)) rfl
    · show evP E150 G150 _ (lp150 2) (st150 a b c s i (-1)) (rk150 _ _ 2 _)
      rw [b150]
      have e:rdD a b c s i=sideAt a b s i:=by
        unfold rdD
        rw [h0]
        rfl
      refine br_no (by omega) (br_intro (fun h1=>br_yes ⟨by omega,by omega⟩ ?_) (fun h1=>br_intro (fun h2=>br_yes ⟨by omega,by omega⟩ ?_) (fun h2 => ?_)))
      · show _=_
        rw [e]
        unfold sideAt
        rw [h1]
      · show _=_
        rw [e]
        unfold sideAt
        rw [h1]
      · simp at h1 h2
        omega
    · show evP E150 G150 _ (lp150 2) (st150 a b c s i q) (rk150 _ _ 2 _)
      rw [b150,Int.toNat_natCast,wrap_id (n:=(q:Int) - 1) (by omega) (by omega)]
      have miss:hitL (c.getD q (edflt kl)) s i=false→N (st150 a b c s i ((q:Int) - 1)):=fun h1=>next (by
        rw [hI]
        show (match hitL (c.getD q (edflt kl)) s i with | true=>some (c.getD q (edflt kl)).2.2.1 | false=>lkL c s i q)=_
        rw [h1])
      refine br_yes (by omega) (br_yes ⟨by omega,by omega⟩ (br_intro (fun h1=>br_yes ⟨by omega,by omega⟩ (br_intro (fun h2=>br_yes ⟨by omega,by omega⟩ ?_) (fun h2=>miss ?_))) (fun h1=>miss ?_)))
      · show _=_
        have:lkL c s i (q+1)=some (c.getD q (edflt kl)).2.2.1:=by
          show (match hitL (c.getD q (edflt kl)) s i with | true=>some (c.getD q (edflt kl)).2.2.1 | false=>lkL c s i q)=_
          unfold hitL
          rw [h1,h2]
          rfl
        unfold rdD
        rw [hI,this]
      · unfold hitL
        rw [h2,Bool.and_false]
      · unfold hitL
        rw [h1]
        rfl
  · exact h.elim
noncomputable def G190:Gk:=gk [(79,g79),(148,g148),(150,g150)]
theorem hg190:HG Tryz.prog G190:=(hg_cons h79 (hg_cons h148 (hg_cons h150 hg_nil)))
theorem e190(L:Lp)(R:Rp)(a b:List (Elem ks))(c:List (Elem kl))(s i:Int):(bodyP E0 G190 L Tryz.f190 [.agg [.rsl ks a,.rsl ks b,.rsl kl c],.val (.int .i64 s),.val (.int .i64 i)] [] R)=(
    br (smD a b c) (br (!dkOk a b c) (R (some ⟨.tup [vS { data := #[] },vB false],[],[]⟩)) (br (!(secOk a.length s i&&true)) (R (some ⟨.tup [vS { data := #[] },vB false],[],[]⟩)) (br (secOk a.length s i&&(decide (b.length=a.length)&&decide (c.length≤1048576))) (R (some ⟨.tup [vS (rdD a b c s i),vB true],[],[]⟩)) False))) False):=by kernel_rfl
theorem dkOk_b{a b:List (Elem ks)}{c:List (Elem kl)}(h:dkOk a b c=true):b.length=a.length∧c.length≤600∧a.length≤120:=by
  simp only [dkOk,Bool.and_eq_true,decide_eq_true_eq] at h
  exact ⟨h.1.1.1.1.2,h.1.1.1.2,h.1.1.1.1.1.2⟩
def g190:G1
  | [.agg [.rsl [.str] a,.rsl [.str] b,.rsl [.int .i64,.int .i64,.str] c],.val (.int .i64 s),.val (.int .i64 i)],[],k =>
    br (smD a b c) (k ⟨.tup [.val (.string (rdA a b c s i)),.val (.bool (dkOk a b c&&secOk a.length s i))],[],[]⟩) False
  | _,_,_=>False
theorem h190:G1Ok Tryz.prog 190 g190:=by
  intro args obs k h
  unfold g190 at h
  split at h
  · rename_i k a b c s i
    obtain ⟨hp,h⟩:=br_and h
    refine ⟨_,ctr_fn ok0 hg190 Tryz.func190 (by kernel_rfl) (by kernel_rfl) (by kernel_rfl) fun C => ?_,h⟩
    rw [e190]
    unfold rdA
    refine br_t hp (br_not (fun h1 => ?_) (fun h1=>br_not (fun h2 => ?_) (fun h2=>br_t ?_ ?_)))
    · show _=_
      rw [h1]
      rfl
    · rw [Bool.and_true] at h2
      show _=_
      rw [h2,Bool.and_false]
      rfl
    · rw [Bool.and_true] at h2
      obtain ⟨q1,q2,q3⟩:=dkOk_b h1
      rw [h2,q1]
      simp
      omega
    · rw [Bool.and_true] at h2
      show _=_
      rw [h1,h2]
      rfl
  · exact h.elim
theorem lkL_size{n0:Nat}{c:List (Elem kl)}(h:anyBad n0 c=false)(s i:Int) : ∀ (n:Nat),n≤c.length → ∀ t,lkL c s i n=some t→t.size≤420
  | 0,_,t,h=>by cases h
  | n+1,hn,t,ht=>by
    unfold lkL at ht
    split at ht
    · obtain rfl:=Option.some.inj ht
      unfold anyBad at h
      have hb:=anyB_at h (i:=n) (by omega)
      unfold badL at hb
      rw [Bool.or_eq_false_iff,decide_eq_false_iff_not] at hb
      omega
    · exact lkL_size h s i n (by omega) t ht
end Go.Proofs.YtkjnijddbiconaaGreatDoor.Ev