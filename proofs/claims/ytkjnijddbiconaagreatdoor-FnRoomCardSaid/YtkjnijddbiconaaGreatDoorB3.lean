/- Calls that are drawn: the walk. -/
import Derived.Test.YtkjnijddbiconaaGreatDoorB2
namespace Go.Proofs.YtkjnijddbiconaaGreatDoor.Ev
open Go
set_option linter.unusedVariables false
set_option linter.unusedSimpArgs false
set_option maxRecDepth 100000
def fsC:Code→Code
  | .seq a _=>a
  | c=>c
def snC:Code→Code
  | .seq _ b=>b
  | c=>c
def rstC:Nat→Code→Code
  | 0,c=>c
  | n+1,c=>rstC n (snC c)
def jnk(E:Env)(m:Nat)(c:Code):List Tmp:=sansT (upTo m) (liveIn c ⟨E.keep,[],E.keep⟩)
def g106:G1
  | [.ptr 0 0,.ows 1],[.box [.rsl [.int .u8] b,.val (.int .i64 p)],.row [.int .i64] xs],k=>br (okY b&&(decide (b.length≤1048576)&&(decide (0≤p∧p≤1000000)&&(decide (1≤xs.length)&&decide (xs.length≤1000000))))) (k ⟨.val (.int .i64 (xs.getD (pk b p xs.length).toNat (edflt ki)).1),[.box [.rsl ku b,.val (.int .i64 (p+1))],.row ki xs],[some 0,some 1]⟩) False
  | _,_,_=>False
noncomputable def G106:Gk:=gk [(180,g180)]
theorem hg106:HG Tryz.prog G106:=(hg_cons h180 hg_nil)
theorem e106(L:Lp)(R:Rp)(b:List (Elem [.int .u8]))(p:Int)(xs:List (Elem [.int .i64])):(bodyP Er G106 L Tryz.f106 [.ptr 0 0,.ows 1] [.box [.rsl [.int .u8] b,.val (.int .i64 p)],.row [.int .i64] xs] R)=(
    br (okY b&&(decide (b.length≤1048576)&&(decide (0≤p∧p≤1000000)&&decide ((↑xs.length:Int)≤1000000)))) (br (decide (0≤pk b p (↑xs.length:Int)∧pk b p (↑xs.length:Int) < (↑xs.length:Int))) (R (some ⟨vI (xs.getD (pk b p (↑xs.length:Int)).toNat (edflt ki)).1,[.box [.rsl ku b,vI (p+1)],.row ki xs],[some 0,some 1]⟩)) False) False):=by kernel_rfl
theorem h106:G1Ok Tryz.prog 106 g106:=by
  intro args obs k h
  unfold g106 at h
  split at h
  · rename_i k b p xs
    obtain ⟨hq,h⟩:=br_and h
    simp only [Bool.and_eq_true,decide_eq_true_eq] at hq
    obtain ⟨hb,hl,⟨hp0,hp1⟩,hn1,hn2⟩:=hq
    refine ⟨_,ctr_fn okr hg106 Tryz.func106 (by kernel_rfl) (by kernel_rfl) (by kernel_rfl) fun C => ?_,h⟩
    rw [e106]
    have hr:=pk_lt hb hp0 (show p≤1048576 by omega) (show (1:Int)≤xs.length by omega)
    refine br_t (by rw [hb,decide_eq_true hl,decide_eq_true (And.intro hp0 hp1),decide_eq_true (show ((xs.length:Int))≤1000000 by omega)]; rfl) (br_yes hr ?_)
    rfl
  · exact h.elim
noncomputable def E182:Env:=Er.of Tryz.f182
noncomputable def G182:Gk:=gk [(180,g180),(114,g114),(106,g106),(230,g230),(231,g231)]
theorem hg182:HG Tryz.prog G182:=(hg_cons h180 (hg_cons h114 (hg_cons h106 (hg_cons h230 (hg_cons h231 hg_nil)))))
theorem okf182:Ok Tryz.prog E182:=okr.of Tryz.f182
noncomputable def kk85(R:Rp):Kt:=endK E182 Tryz.f182.results.toList R
noncomputable def pt85(n:Nat):Code:=fsC (rstC n (codeOf Tryz.f182))
noncomputable def jj85(n:Nat):List Tmp:=jnk E182 200 (rstC (n+1) (codeOf Tryz.f182))
theorem p0(L:Lp)(R:Rp)(N:St→Prop)(b:List (Elem [.int .u8]))(p:Int)(xs:List (Elem kb)):(evP E182 G182 L (pt85 0) (initSt Tryz.f182.ntmps [.ptr 0 0,.agg [.ows 1]] [.box [.rsl [.int .u8] b,.val (.int .i64 p)],.row kb xs]) (rk (jj85 0) N (kk85 R)))=(
    N ⟨(.ptr 0 0 :: vJ :: vJ :: .ptr 2 0 :: .ptr 3 0 :: jn 117 []),[(0,.box [.rsl ku b,vI p]),(1,.row kb xs),(2,.box [.ows 1]),(3,.box [vI 0,vS ByteArray.empty,vS ByteArray.empty,vI 0,vS ByteArray.empty])],1000000,[some 0,some 1]⟩):=by kernel_rfl
def s1(b:List (Elem [.int .u8]))(p:Int)(xs:List (Elem kb)):St :=  ⟨(AV.ptr 0 0 :: vJ :: vJ :: AV.ptr 2 0 :: AV.ptr 3 0 :: jn 117 []),[(0,AO.box [AV.rsl ku b,vI p]),(1,AO.row kb xs),(2,AO.box [AV.ows 1]),(3,AO.box [vI 0,vS ByteArray.empty,vS ByteArray.empty,vI 0,vS ByteArray.empty])],1000000,[some 0,some 1]⟩
theorem p1(L:Lp)(R:Rp)(N:St→Prop)(b:List (Elem [.int .u8]))(p:Int)(xs:List (Elem kb)):(evP E182 G182 L (pt85 1) (s1 b p xs) (rk (jj85 1) N (kk85 R)))=(
    br (okY b&&(decide (b.length≤1048576)&&(decide (0≤p∧p≤1000000)&&true))) (br (okY b&&(decide (b.length≤1048576)&&decide (0≤p+1∧p+1≤1000000))) (br (okY b&&(decide (b.length≤1048576)&&decide (0≤p+1+1∧p+1+1≤1000000))) (br (okY b&&(decide (b.length≤1048576)&&(decide (0≤p+1+1+1∧p+1+1+1≤1000000)&&true))) (br (okY b&&(decide (b.length≤1048576)&&(decide (0≤p+1+1+1+1∧p+1+1+1+1≤1000000)&&true))) (N ⟨(.ptr 0 0 :: vJ :: vJ :: .ptr 2 0 :: .ptr 3 0 :: .ptr 4 0 :: jn 116 []),[(0,.box [.rsl ku b,vI (p+1+1+1+1+1)]),(1,.row kb xs),(2,.box [.ows 1]),(3,.box [vI 0,vS ByteArray.empty,vS ByteArray.empty,vI 0,vS ByteArray.empty]),(4,.box [vI ([(1,()),(1,()),(2,()),(3,()),(3,()),(3,()),(3,()),(3,()),(3,()),(3,()),(4,()),(4,()),(5,()),(6,())].getD (pk b p 14).toNat (edflt ki)).1,vS (nmT b (p+1)),vS (nmT b (p+1+1)),vI (pk b (p+1+1+1) 8),vS (at1 [({ data := #[120] },()),({ data := #[121] },()),({ data := #[122,122] },()),({ data := #[111,110,101] },()),({ data := #[97,122,122] },()),({ data := #[98,120,108] },()),({ data := #[] },()),({ data := #[120] },()),({ data := #[97,32,98] },()),({ data := #[49,50,51,52,53,54,55,56,57,48,49,50,51,52,53,54,55,56,57,48] },())] (pk b (p+1+1+1+1) 10).toNat)])],1000000,[some 0,some 1]⟩) False) False) False) False) False):=by kernel_rfl
def s2(b:List (Elem [.int .u8]))(p:Int)(xs:List (Elem kb))(o:Int)(a c:ByteArray)(i:Int)(t:ByteArray):St :=  ⟨(AV.ptr 0 0 :: vJ :: vJ :: AV.ptr 2 0 :: AV.ptr 3 0 :: AV.ptr 4 0 :: jn 116 []),[(0,.box [.rsl ku b,.val (.int .i64 p)]),(1,AO.row kb xs),(2,AO.box [AV.ows 1]),(3,AO.box [vI 0,vS ByteArray.empty,vS ByteArray.empty,vI 0,vS ByteArray.empty]),(4,.box [.val (.int .i64 o),.val (.string a),.val (.string c),.val (.int .i64 i),.val (.string t)])],1000000,[some 0,some 1]⟩
theorem p2(L:Lp)(R:Rp)(N:St→Prop)(b:List (Elem [.int .u8]))(p:Int)(xs:List (Elem kb))(o:Int)(a c:ByteArray)(i:Int)(t:ByteArray):(evP E182 G182 L (pt85 2) (s2 b p xs o a c i t) (rk (jj85 2) N (kk85 R)))=(
    br (okY b&&(decide (b.length≤1048576)&&(decide (0≤p∧p≤1000000)&&true))) (br (pk b p 3==0) (br (okY b&&(decide (b.length≤1048576)&&(decide (0≤p+1∧p+1≤1000000)&&true))) (br (okY b&&(decide (b.length≤1048576)&&(decide (0≤p+1+1∧p+1+1≤1000000)&&true))) (N (s2 b (p+1+1+1) xs o a c i (strOf [(IntKind.u8.wrap (IntKind.i64.wrap (65+pk b (p+1) 26)),()),(IntKind.u8.wrap (IntKind.i64.wrap (48+pk b (p+1+1) 10)),())]))) False) False) (N (s2 b (p+1) xs o a c i t))) False):=by kernel_rfl
theorem p3(L:Lp)(R:Rp)(N:St→Prop)(b:List (Elem [.int .u8]))(p:Int)(xs:List (Elem kb))(o:Int)(a c:ByteArray)(i:Int)(t:ByteArray):(evP E182 G182 L (pt85 3) (s2 b p xs o a c i t) (rk (jj85 3) N (kk85 R)))=(
    br (decide ((↑xs.length:Int) > 0)) (br (o != 1) (br (okY b&&(decide (b.length≤1048576)&&(decide (0≤p∧p≤1000000)&&true))) (br (decide (pk b p 5 > 0)) (br (okY b&&(decide (b.length≤1048576)&&(decide (0≤p+1∧p+1≤1000000)&&decide ((↑xs.length:Int)≤1000000)))) (br (decide (0≤pk b (p+1) (↑xs.length:Int)∧pk b (p+1) (↑xs.length:Int) < (↑xs.length:Int))) (N (s2 b (p+1+1) xs o (xs.getD (pk b (p+1) (↑xs.length:Int)).toNat (edflt kb)).1 c i t)) False) False) (N (s2 b (p+1) xs o a c i t))) False) (N (s2 b p xs o a c i t))) (N (s2 b p xs o a c i t))):=by kernel_rfl
theorem p4(L:Lp)(R:Rp)(N:St→Prop)(b:List (Elem [.int .u8]))(p:Int)(xs:List (Elem kb))(o:Int)(a c:ByteArray)(i:Int)(t:ByteArray):(evP E182 G182 L (pt85 4) (s2 b p xs o a c i t) (rk (jj85 4) N (kk85 R)))=(
    br (o==6) (br (decide ((↑xs.length:Int) > 0)) (br (okY b&&(decide (b.length≤1048576)&&(decide (0≤p∧p≤1000000)&&true))) (br (decide (pk b p 4 > 0)) (br (okY b&&(decide (b.length≤1048576)&&(decide (0≤p+1∧p+1≤1000000)&&decide ((↑xs.length:Int)≤1000000)))) (br (decide (0≤pk b (p+1) (↑xs.length:Int)∧pk b (p+1) (↑xs.length:Int) < (↑xs.length:Int))) (N ⟨(.ptr 0 0 :: vJ :: vJ :: vJ :: .ptr 2 0 :: .ptr 3 0 :: jn 116 []),[(0,.box [.rsl ku b,vI (p+1+1)]),(1,.row kb xs),(2,.box [vI 0,vS ByteArray.empty,vS ByteArray.empty,vI 0,vS ByteArray.empty]),(3,.box [vI o,vS (xs.getD (pk b (p+1) (↑xs.length:Int)).toNat (edflt kb)).2.2.1,vS (xs.getD (pk b (p+1) (↑xs.length:Int)).toNat (edflt kb)).1,vI i,vS t])],1000000,[some 0,some 1]⟩) False) False) (N ⟨(.ptr 0 0 :: vJ :: vJ :: vJ :: .ptr 2 0 :: .ptr 3 0 :: jn 116 []),[(0,.box [.rsl ku b,vI (p+1)]),(1,.row kb xs),(2,.box [vI 0,vS ByteArray.empty,vS ByteArray.empty,vI 0,vS ByteArray.empty]),(3,.box [vI o,vS a,vS c,vI i,vS t])],1000000,[some 0,some 1]⟩)) False) (N ⟨(.ptr 0 0 :: vJ :: vJ :: vJ :: .ptr 2 0 :: .ptr 3 0 :: jn 116 []),[(0,.box [.rsl ku b,vI p]),(1,.row kb xs),(2,.box [vI 0,vS ByteArray.empty,vS ByteArray.empty,vI 0,vS ByteArray.empty]),(3,.box [vI o,vS a,vS c,vI i,vS t])],1000000,[some 0,some 1]⟩)) (N ⟨(.ptr 0 0 :: vJ :: vJ :: vJ :: .ptr 2 0 :: .ptr 3 0 :: jn 116 []),[(0,.box [.rsl ku b,vI p]),(1,.row kb xs),(2,.box [vI 0,vS ByteArray.empty,vS ByteArray.empty,vI 0,vS ByteArray.empty]),(3,.box [vI o,vS a,vS c,vI i,vS t])],1000000,[some 0,some 1]⟩)):=by kernel_rfl
def s5(b:List (Elem [.int .u8]))(p:Int)(xs:List (Elem kb))(o:Int)(a c:ByteArray)(i:Int)(t:ByteArray):St :=  ⟨(AV.ptr 0 0 :: vJ :: vJ :: vJ :: AV.ptr 2 0 :: AV.ptr 3 0 :: jn 116 []),[(0,.box [.rsl ku b,.val (.int .i64 p)]),(1,AO.row kb xs),(2,AO.box [vI 0,vS ByteArray.empty,vS ByteArray.empty,vI 0,vS ByteArray.empty]),(3,.box [.val (.int .i64 o),.val (.string a),.val (.string c),.val (.int .i64 i),.val (.string t)])],1000000,[some 0,some 1]⟩
theorem p5(L:Lp)(R:Rp)(N:St→Prop)(b:List (Elem [.int .u8]))(p:Int)(xs:List (Elem kb))(o:Int)(a c:ByteArray)(i:Int)(t:ByteArray):(evP E182 G182 L (pt85 5) (s5 b p xs o a c i t) (rk (jj85 5) N (kk85 R)))=(
    br (okY b&&(decide (b.length≤1048576)&&(decide (0≤p∧p≤1000000)&&true))) (br (pk b p 30==0) (br (okY b&&(decide (b.length≤1048576)&&(decide (0≤p+1∧p+1≤1000000)&&true))) (N ⟨(jn 4 (.ptr 2 0 :: .ptr 3 0 :: jn 116 [])),[(0,.box [.rsl ku b,vI (p+1+1)]),(1,.row kb xs),(2,.box [vI 0,vS ByteArray.empty,vS ByteArray.empty,vI 0,vS ByteArray.empty]),(3,.box [vI ([(0,()),(7,()),(-1,())].getD (pk b (p+1) 3).toNat (edflt ki)).1,vS a,vS c,vI i,vS t])],1000000,[some 0,some 1]⟩) False) (br (pk b p 30==1) (br (okY b&&(decide (b.length≤1048576)&&(decide (0≤p+1∧p+1≤1000000)&&true))) (N ⟨(jn 4 (.ptr 2 0 :: .ptr 3 0 :: jn 116 [])),[(0,.box [.rsl ku b,vI (p+1+1)]),(1,.row kb xs),(2,.box [vI 0,vS ByteArray.empty,vS ByteArray.empty,vI 0,vS ByteArray.empty]),(3,.box [vI o,vS a,vS c,vI ([(-1,()),(8,())].getD (pk b (p+1) 2).toNat (edflt ki)).1,vS t])],1000000,[some 0,some 1]⟩) False) (br (pk b p 30==2) (br (okY b&&(decide (b.length≤1048576)&&(decide (0≤p+1∧p+1≤1000000)&&true))) (br (true&&decide (0≤IntKind.i64.wrap (24+pk b (p+1) 2)∧IntKind.i64.wrap (24+pk b (p+1) 2)≤100)) (N ⟨(jn 4 (.ptr 2 0 :: .ptr 3 0 :: jn 116 [])),[(0,.box [.rsl ku b,vI (p+1+1)]),(1,.row kb xs),(2,.box [vI 0,vS ByteArray.empty,vS ByteArray.empty,vI 0,vS ByteArray.empty]),(3,.box [vI o,vS a,vS c,vI i,vS (mny { data := #[120] } (IntKind.i64.wrap (24+pk b (p+1) 2)))])],1000000,[some 0,some 1]⟩) False) False) (br (pk b p 30==3) (br (okY b&&(decide (b.length≤1048576)&&(decide (0≤p+1∧p+1≤1000000)&&true))) (N ⟨(jn 4 (.ptr 2 0 :: .ptr 3 0 :: jn 116 [])),[(0,.box [.rsl ku b,vI (p+1+1)]),(1,.row kb xs),(2,.box [vI 0,vS ByteArray.empty,vS ByteArray.empty,vI 0,vS ByteArray.empty]),(3,.box [vI o,vS (at1 [({ data := #[] },()),({ data := #[65] },()),({ data := #[97,98,99,100,101,102,103] },())] (pk b (p+1) 3).toNat),vS c,vI i,vS t])],1000000,[some 0,some 1]⟩) False) (br (pk b p 30==4) (br (okY b&&(decide (b.length≤1048576)&&(decide (0≤p+1∧p+1≤1000000)&&true))) (N ⟨(jn 4 (.ptr 2 0 :: .ptr 3 0 :: jn 116 [])),[(0,.box [.rsl ku b,vI (p+1+1)]),(1,.row kb xs),(2,.box [vI 0,vS ByteArray.empty,vS ByteArray.empty,vI 0,vS ByteArray.empty]),(3,.box [vI o,vS a,vS (at1 [({ data := #[] },()),({ data := #[66] },()),({ data := #[97,98,99,100,101,102,103] },())] (pk b (p+1) 3).toNat),vI i,vS t])],1000000,[some 0,some 1]⟩) False) (N ⟨(jn 4 (.ptr 2 0 :: .ptr 3 0 :: jn 116 [])),[(0,.box [.rsl ku b,vI (p+1)]),(1,.row kb xs),(2,.box [vI 0,vS ByteArray.empty,vS ByteArray.empty,vI 0,vS ByteArray.empty]),(3,.box [vI o,vS a,vS c,vI i,vS t])],1000000,[some 0,some 1]⟩)))))) False):=by kernel_rfl
def s6(b:List (Elem [.int .u8]))(p:Int)(xs:List (Elem kb))(o:Int)(a c:ByteArray)(i:Int)(t:ByteArray):St :=  ⟨(jn 4 (AV.ptr 2 0 :: AV.ptr 3 0 :: jn 116 [])),[(0,.box [.rsl ku b,.val (.int .i64 p)]),(1,AO.row kb xs),(2,AO.box [vI 0,vS ByteArray.empty,vS ByteArray.empty,vI 0,vS ByteArray.empty]),(3,.box [.val (.int .i64 o),.val (.string a),.val (.string c),.val (.int .i64 i),.val (.string t)])],1000000,[some 0,some 1]⟩
theorem p6(L:Lp)(R:Rp)(b:List (Elem [.int .u8]))(p:Int)(xs:List (Elem kb))(o:Int)(a c:ByteArray)(i:Int)(t:ByteArray):(evP E182 G182 L (rstC 6 (codeOf Tryz.f182)) (s6 b p xs o a c i t) (kk85 R))=(
    R (some ⟨.agg [vI o,vS a,vS c,vI i,vS t],[.box [.rsl ku b,vI p],.row kb xs],[some 0,some 1]⟩)):=by kernel_rfl
end Go.Proofs.YtkjnijddbiconaaGreatDoor.Ev
