/- A store that is played: what all counting comes to. -/
import Derived.Test.YtkjnijddbiconaaGreatDoorSE
import Derived.Test.YtkjnijddbiconaaGreatDoorWA
import Derived.Test.YtkjnijddbiconaaGreatDoorWB
namespace Go.Proofs.YtkjnijddbiconaaGreatDoor.Ev
open Go
set_option linter.unusedVariables false
set_option linter.unusedSimpArgs false
set_option maxRecDepth 100000
structure Rf where
  d:List (Elem k3)
  b:Bool
  o:Bool
  ch:Bool
instance:Inhabited Rf:=⟨⟨[],false,false,false⟩⟩
abbrev fmR0(x:Int)(s:List (Elem kc))(p:List (Elem k3))(f:List (Elem ki))(n:Int)(y:Rf):Res:=⟨.tup [coreOwn x y.b n 0 1 2 3,.val (.bool y.o)],[.row kc s,.row k3 y.d,.row k3 p,.row ki f],[none,none,none,none]⟩
abbrev fmR1(x:Int)(s:List (Elem kc))(d0 p:List (Elem k3))(f:List (Elem ki))(n:Int)(y:Rf):Res:=⟨.tup [coreOwn x y.b n 0 1 2 3,.val (.bool y.o)],[.row kc s,.row k3 y.d,.row k3 p,.row ki f,.row k3 d0],[none,some 4,none,none]⟩
def fmR(x:Int)(s:List (Elem kc))(d0 p:List (Elem k3))(f:List (Elem ki))(n:Int)(y:Rf):Res:=match y.ch with
  | false=>fmR0 x s p f n y
  | true=>fmR1 x s d0 p f n y
abbrev qRf(d0:List (Elem k3))(y:Rf):Prop:=y.d.length≤max 49 d0.length
structure Ri where
  ch:Bool
  d:List (Elem k3)
  b:Bool
  o:Bool
  i:Nat
def stR(x:Int)(s:List (Elem kc))(p:List (Elem k3))(f:List (Elem ki))(n:Int)(x0 x1 x2 x3 x4 x5 x6 x7 x8 x9 x10 x11 x12 x13 x14 x15 x16 x17 x18 x19 x20 x21 x22 x23:Int)(m:Bool)(d0:List (Elem k3))(y:Ri):St :=  match y.ch with
  | false=>st273 x s y.d p y.b f n x0 x1 x2 x3 x4 x5 x6 x7 x8 x9 x10 x11 x12 x13 x14 x15 x16 x17 x18 x19 x20 x21 x22 x23 m y.o (y.i:Int)
  | true=>st273b x s y.d p y.b f n x0 x1 x2 x3 x4 x5 x6 x7 x8 x9 x10 x11 x12 x13 x14 x15 x16 x17 x18 x19 x20 x21 x22 x23 m y.o (y.i:Int) d0
theorem da_max(d:List (Elem k3))(s t:Int)(M:Nat):(daR d s t).1.length≤max 49 M:=Nat.le_trans (daR_49 d s t) (Nat.le_max_left _ _)
set_option maxHeartbeats 2000000 in
theorem rfE{x:Int}{s:List (Elem kc)}{d0 p:List (Elem k3)}{b0:Bool}{f:List (Elem ki)}{n:Int}(x0 x1 x2 x3 x4 x5 x6 x7 x8 x9 x10 x11 x12 x13 x14 x15 x16 x17 x18 x19 x20 x21 x22 x23:Int)(m:Bool)(hd:d0.length≤1000) :
    ∃ y:Rf,qRf d0 y∧Ctr Tryz.prog 273 [coreOwn x b0 n 0 1 2 3,.agg [.val (.int .i64 x0),.val (.int .i64 x1),.val (.int .i64 x2),.val (.int .i64 x3),.val (.int .i64 x4),.val (.int .i64 x5),.val (.int .i64 x6),.val (.int .i64 x7),.val (.int .i64 x8),.val (.int .i64 x9),.val (.int .i64 x10),.val (.int .i64 x11),.val (.int .i64 x12),.val (.int .i64 x13),.val (.int .i64 x14),.val (.int .i64 x15),.val (.int .i64 x16),.val (.int .i64 x17),.val (.int .i64 x18),.val (.int .i64 x19),.val (.int .i64 x20),.val (.int .i64 x21),.val (.int .i64 x22),.val (.int .i64 x23)],.val (.bool m)] [.row kc s,.row k3 d0,.row k3 p,.row ki f] (fmR x s d0 p f n y):=by
  refine ex_ctr (form:=fun y:Rf=>fmR x s d0 p f n y) okr hg273 Tryz.func273 (by kernel_rfl) (by kernel_rfl) (by kernel_rfl) ?_
  simp only [e273]
  refine ex_loop okf273 hg273 (stR x s p f n x0 x1 x2 x3 x4 x5 x6 x7 x8 x9 x10 x11 x12 x13 x14 x15 x16 x17 x18 x19 x20 x21 x22 x23 m d0) (fun y=>8 - y.i) (fun y=>y.d.length≤max 49 d0.length∧y.i≤8∧(y.ch=false→y.d=d0)) (fun ⟨ch,d,b,o,i⟩ ⟨h1,h2,h3⟩ next => ?_) ⟨false,d0,b0,true,0⟩ ⟨Nat.le_max_right _ _,Nat.zero_le _,fun _=>rfl⟩
  have k1:d.length≤max 49 d0.length:=h1
  have k2:i≤8:=h2
  have k3':d.length≤1048576:=by omega
  have dd : ∀ t:Int,(ddR d t).1.length≤max 49 d0.length:=fun t=>Nat.le_trans (ddR_len d t) k1
  cases ch with
  | false =>
    obtain rfl:d=d0:=h3 rfl
    rcases (show i=0∨i=1∨i=2∨i=3∨i=4∨i=5∨i=6∨i=7∨i=8 by omega) with rfl | rfl | rfl | rfl | rfl | rfl | rfl | rfl | rfl
    · show Got _ (fun C q=>evP E273 G273 _ (lp273 3) (st273 x s d p b f n x0 x1 x2 x3 x4 x5 x6 x7 x8 x9 x10 x11 x12 x13 x14 x15 x16 x17 x18 x19 x20 x21 x22 x23 m o 0) (rk273 _ _ 3 _))
      simp only [b273_0]
      refine ex_intro (fun _ => ?_) (fun _=>ex_intro (fun _=>ex_yes k3' (ex_intro (fun _ => ?_) (fun _ => ?_))) (fun _=>ex_yes k3' (ex_intro (fun _ => ?_) (fun _ => ?_))))
      · exact next ⟨false,d,b,o,1⟩ ⟨k1,by show (1:Nat)≤8; decide,fun _=>rfl⟩ (by show 8 - 1 < 8 - 0; decide)
      · exact next ⟨true,(daR d x1 x0).1,true,(daR d x1 x0).2,1⟩ ⟨da_max _ _ _ _,by show (1:Nat)≤8; decide,fun h=>by cases h⟩ (by show 8 - 1 < 8 - 0; decide)
      · exact next ⟨true,(daR d x1 x0).1,true,false,1⟩ ⟨da_max _ _ _ _,by show (1:Nat)≤8; decide,fun h=>by cases h⟩ (by show 8 - 1 < 8 - 0; decide)
      · exact next ⟨true,(ddR d x0).1,true,(ddR d x0).2,1⟩ ⟨dd _,by show (1:Nat)≤8; decide,fun h=>by cases h⟩ (by show 8 - 1 < 8 - 0; decide)
      · exact next ⟨true,(ddR d x0).1,true,false,1⟩ ⟨dd _,by show (1:Nat)≤8; decide,fun h=>by cases h⟩ (by show 8 - 1 < 8 - 0; decide)
    · show Got _ (fun C q=>evP E273 G273 _ (lp273 3) (st273 x s d p b f n x0 x1 x2 x3 x4 x5 x6 x7 x8 x9 x10 x11 x12 x13 x14 x15 x16 x17 x18 x19 x20 x21 x22 x23 m o 1) (rk273 _ _ 3 _))
      simp only [b273_1]
      refine ex_intro (fun _ => ?_) (fun _=>ex_intro (fun _=>ex_yes k3' (ex_intro (fun _ => ?_) (fun _ => ?_))) (fun _=>ex_yes k3' (ex_intro (fun _ => ?_) (fun _ => ?_))))
      · exact next ⟨false,d,b,o,2⟩ ⟨k1,by show (2:Nat)≤8; decide,fun _=>rfl⟩ (by show 8 - 2 < 8 - 1; decide)
      · exact next ⟨true,(daR d x4 x3).1,true,(daR d x4 x3).2,2⟩ ⟨da_max _ _ _ _,by show (2:Nat)≤8; decide,fun h=>by cases h⟩ (by show 8 - 2 < 8 - 1; decide)
      · exact next ⟨true,(daR d x4 x3).1,true,false,2⟩ ⟨da_max _ _ _ _,by show (2:Nat)≤8; decide,fun h=>by cases h⟩ (by show 8 - 2 < 8 - 1; decide)
      · exact next ⟨true,(ddR d x3).1,true,(ddR d x3).2,2⟩ ⟨dd _,by show (2:Nat)≤8; decide,fun h=>by cases h⟩ (by show 8 - 2 < 8 - 1; decide)
      · exact next ⟨true,(ddR d x3).1,true,false,2⟩ ⟨dd _,by show (2:Nat)≤8; decide,fun h=>by cases h⟩ (by show 8 - 2 < 8 - 1; decide)
    · show Got _ (fun C q=>evP E273 G273 _ (lp273 3) (st273 x s d p b f n x0 x1 x2 x3 x4 x5 x6 x7 x8 x9 x10 x11 x12 x13 x14 x15 x16 x17 x18 x19 x20 x21 x22 x23 m o 2) (rk273 _ _ 3 _))
      simp only [b273_2]
      refine ex_intro (fun _ => ?_) (fun _=>ex_intro (fun _=>ex_yes k3' (ex_intro (fun _ => ?_) (fun _ => ?_))) (fun _=>ex_yes k3' (ex_intro (fun _ => ?_) (fun _ => ?_))))
      · exact next ⟨false,d,b,o,3⟩ ⟨k1,by show (3:Nat)≤8; decide,fun _=>rfl⟩ (by show 8 - 3 < 8 - 2; decide)
      · exact next ⟨true,(daR d x7 x6).1,true,(daR d x7 x6).2,3⟩ ⟨da_max _ _ _ _,by show (3:Nat)≤8; decide,fun h=>by cases h⟩ (by show 8 - 3 < 8 - 2; decide)
      · exact next ⟨true,(daR d x7 x6).1,true,false,3⟩ ⟨da_max _ _ _ _,by show (3:Nat)≤8; decide,fun h=>by cases h⟩ (by show 8 - 3 < 8 - 2; decide)
      · exact next ⟨true,(ddR d x6).1,true,(ddR d x6).2,3⟩ ⟨dd _,by show (3:Nat)≤8; decide,fun h=>by cases h⟩ (by show 8 - 3 < 8 - 2; decide)
      · exact next ⟨true,(ddR d x6).1,true,false,3⟩ ⟨dd _,by show (3:Nat)≤8; decide,fun h=>by cases h⟩ (by show 8 - 3 < 8 - 2; decide)
    · show Got _ (fun C q=>evP E273 G273 _ (lp273 3) (st273 x s d p b f n x0 x1 x2 x3 x4 x5 x6 x7 x8 x9 x10 x11 x12 x13 x14 x15 x16 x17 x18 x19 x20 x21 x22 x23 m o 3) (rk273 _ _ 3 _))
      simp only [b273_3]
      refine ex_intro (fun _ => ?_) (fun _=>ex_intro (fun _=>ex_yes k3' (ex_intro (fun _ => ?_) (fun _ => ?_))) (fun _=>ex_yes k3' (ex_intro (fun _ => ?_) (fun _ => ?_))))
      · exact next ⟨false,d,b,o,4⟩ ⟨k1,by show (4:Nat)≤8; decide,fun _=>rfl⟩ (by show 8 - 4 < 8 - 3; decide)
      · exact next ⟨true,(daR d x10 x9).1,true,(daR d x10 x9).2,4⟩ ⟨da_max _ _ _ _,by show (4:Nat)≤8; decide,fun h=>by cases h⟩ (by show 8 - 4 < 8 - 3; decide)
      · exact next ⟨true,(daR d x10 x9).1,true,false,4⟩ ⟨da_max _ _ _ _,by show (4:Nat)≤8; decide,fun h=>by cases h⟩ (by show 8 - 4 < 8 - 3; decide)
      · exact next ⟨true,(ddR d x9).1,true,(ddR d x9).2,4⟩ ⟨dd _,by show (4:Nat)≤8; decide,fun h=>by cases h⟩ (by show 8 - 4 < 8 - 3; decide)
      · exact next ⟨true,(ddR d x9).1,true,false,4⟩ ⟨dd _,by show (4:Nat)≤8; decide,fun h=>by cases h⟩ (by show 8 - 4 < 8 - 3; decide)
    · show Got _ (fun C q=>evP E273 G273 _ (lp273 3) (st273 x s d p b f n x0 x1 x2 x3 x4 x5 x6 x7 x8 x9 x10 x11 x12 x13 x14 x15 x16 x17 x18 x19 x20 x21 x22 x23 m o 4) (rk273 _ _ 3 _))
      simp only [b273_4]
      refine ex_intro (fun _ => ?_) (fun _=>ex_intro (fun _=>ex_yes k3' (ex_intro (fun _ => ?_) (fun _ => ?_))) (fun _=>ex_yes k3' (ex_intro (fun _ => ?_) (fun _ => ?_))))
      · exact next ⟨false,d,b,o,5⟩ ⟨k1,by show (5:Nat)≤8; decide,fun _=>rfl⟩ (by show 8 - 5 < 8 - 4; decide)
      · exact next ⟨true,(daR d x13 x12).1,true,(daR d x13 x12).2,5⟩ ⟨da_max _ _ _ _,by show (5:Nat)≤8; decide,fun h=>by cases h⟩ (by show 8 - 5 < 8 - 4; decide)
      · exact next ⟨true,(daR d x13 x12).1,true,false,5⟩ ⟨da_max _ _ _ _,by show (5:Nat)≤8; decide,fun h=>by cases h⟩ (by show 8 - 5 < 8 - 4; decide)
      · exact next ⟨true,(ddR d x12).1,true,(ddR d x12).2,5⟩ ⟨dd _,by show (5:Nat)≤8; decide,fun h=>by cases h⟩ (by show 8 - 5 < 8 - 4; decide)
      · exact next ⟨true,(ddR d x12).1,true,false,5⟩ ⟨dd _,by show (5:Nat)≤8; decide,fun h=>by cases h⟩ (by show 8 - 5 < 8 - 4; decide)
    · show Got _ (fun C q=>evP E273 G273 _ (lp273 3) (st273 x s d p b f n x0 x1 x2 x3 x4 x5 x6 x7 x8 x9 x10 x11 x12 x13 x14 x15 x16 x17 x18 x19 x20 x21 x22 x23 m o 5) (rk273 _ _ 3 _))
      simp only [b273_5]
      refine ex_intro (fun _ => ?_) (fun _=>ex_intro (fun _=>ex_yes k3' (ex_intro (fun _ => ?_) (fun _ => ?_))) (fun _=>ex_yes k3' (ex_intro (fun _ => ?_) (fun _ => ?_))))
      · exact next ⟨false,d,b,o,6⟩ ⟨k1,by show (6:Nat)≤8; decide,fun _=>rfl⟩ (by show 8 - 6 < 8 - 5; decide)
      · exact next ⟨true,(daR d x16 x15).1,true,(daR d x16 x15).2,6⟩ ⟨da_max _ _ _ _,by show (6:Nat)≤8; decide,fun h=>by cases h⟩ (by show 8 - 6 < 8 - 5; decide)
      · exact next ⟨true,(daR d x16 x15).1,true,false,6⟩ ⟨da_max _ _ _ _,by show (6:Nat)≤8; decide,fun h=>by cases h⟩ (by show 8 - 6 < 8 - 5; decide)
      · exact next ⟨true,(ddR d x15).1,true,(ddR d x15).2,6⟩ ⟨dd _,by show (6:Nat)≤8; decide,fun h=>by cases h⟩ (by show 8 - 6 < 8 - 5; decide)
      · exact next ⟨true,(ddR d x15).1,true,false,6⟩ ⟨dd _,by show (6:Nat)≤8; decide,fun h=>by cases h⟩ (by show 8 - 6 < 8 - 5; decide)
    · show Got _ (fun C q=>evP E273 G273 _ (lp273 3) (st273 x s d p b f n x0 x1 x2 x3 x4 x5 x6 x7 x8 x9 x10 x11 x12 x13 x14 x15 x16 x17 x18 x19 x20 x21 x22 x23 m o 6) (rk273 _ _ 3 _))
      simp only [b273_6]
      refine ex_intro (fun _ => ?_) (fun _=>ex_intro (fun _=>ex_yes k3' (ex_intro (fun _ => ?_) (fun _ => ?_))) (fun _=>ex_yes k3' (ex_intro (fun _ => ?_) (fun _ => ?_))))
      · exact next ⟨false,d,b,o,7⟩ ⟨k1,by show (7:Nat)≤8; decide,fun _=>rfl⟩ (by show 8 - 7 < 8 - 6; decide)
      · exact next ⟨true,(daR d x19 x18).1,true,(daR d x19 x18).2,7⟩ ⟨da_max _ _ _ _,by show (7:Nat)≤8; decide,fun h=>by cases h⟩ (by show 8 - 7 < 8 - 6; decide)
      · exact next ⟨true,(daR d x19 x18).1,true,false,7⟩ ⟨da_max _ _ _ _,by show (7:Nat)≤8; decide,fun h=>by cases h⟩ (by show 8 - 7 < 8 - 6; decide)
      · exact next ⟨true,(ddR d x18).1,true,(ddR d x18).2,7⟩ ⟨dd _,by show (7:Nat)≤8; decide,fun h=>by cases h⟩ (by show 8 - 7 < 8 - 6; decide)
      · exact next ⟨true,(ddR d x18).1,true,false,7⟩ ⟨dd _,by show (7:Nat)≤8; decide,fun h=>by cases h⟩ (by show 8 - 7 < 8 - 6; decide)
    · show Got _ (fun C q=>evP E273 G273 _ (lp273 3) (st273 x s d p b f n x0 x1 x2 x3 x4 x5 x6 x7 x8 x9 x10 x11 x12 x13 x14 x15 x16 x17 x18 x19 x20 x21 x22 x23 m o 7) (rk273 _ _ 3 _))
      simp only [b273_7]
      refine ex_intro (fun _ => ?_) (fun _=>ex_intro (fun _=>ex_yes k3' (ex_intro (fun _ => ?_) (fun _ => ?_))) (fun _=>ex_yes k3' (ex_intro (fun _ => ?_) (fun _ => ?_))))
      · exact next ⟨false,d,b,o,8⟩ ⟨k1,by show (8:Nat)≤8; decide,fun _=>rfl⟩ (by show 8 - 8 < 8 - 7; decide)
      · exact next ⟨true,(daR d x22 x21).1,true,(daR d x22 x21).2,8⟩ ⟨da_max _ _ _ _,by show (8:Nat)≤8; decide,fun h=>by cases h⟩ (by show 8 - 8 < 8 - 7; decide)
      · exact next ⟨true,(daR d x22 x21).1,true,false,8⟩ ⟨da_max _ _ _ _,by show (8:Nat)≤8; decide,fun h=>by cases h⟩ (by show 8 - 8 < 8 - 7; decide)
      · exact next ⟨true,(ddR d x21).1,true,(ddR d x21).2,8⟩ ⟨dd _,by show (8:Nat)≤8; decide,fun h=>by cases h⟩ (by show 8 - 8 < 8 - 7; decide)
      · exact next ⟨true,(ddR d x21).1,true,false,8⟩ ⟨dd _,by show (8:Nat)≤8; decide,fun h=>by cases h⟩ (by show 8 - 8 < 8 - 7; decide)
    · show Got _ (fun C q=>evP E273 G273 _ (lp273 3) (st273 x s d p b f n x0 x1 x2 x3 x4 x5 x6 x7 x8 x9 x10 x11 x12 x13 x14 x15 x16 x17 x18 x19 x20 x21 x22 x23 m o 8) (rk273 _ _ 3 _))
      simp only [b273_8]
      exact ex_end (x:=((⟨d,b,o,false⟩:Rf),0)) k1 fun C=>wk_rfl _
  | true =>
    rcases (show i=0∨i=1∨i=2∨i=3∨i=4∨i=5∨i=6∨i=7∨i=8 by omega) with rfl | rfl | rfl | rfl | rfl | rfl | rfl | rfl | rfl
    · show Got _ (fun C q=>evP E273 G273 _ (lp273 3) (st273b x s d p b f n x0 x1 x2 x3 x4 x5 x6 x7 x8 x9 x10 x11 x12 x13 x14 x15 x16 x17 x18 x19 x20 x21 x22 x23 m o 0 d0) (rk273 _ _ 3 _))
      simp only [b273b_0]
      refine ex_intro (fun _ => ?_) (fun _=>ex_intro (fun _=>ex_yes k3' (ex_intro (fun _ => ?_) (fun _ => ?_))) (fun _=>ex_yes k3' (ex_intro (fun _ => ?_) (fun _ => ?_))))
      · exact next ⟨true,d,b,o,1⟩ ⟨k1,by show (1:Nat)≤8; decide,fun h=>by cases h⟩ (by show 8 - 1 < 8 - 0; decide)
      · exact next ⟨true,(daR d x1 x0).1,true,(daR d x1 x0).2,1⟩ ⟨da_max _ _ _ _,by show (1:Nat)≤8; decide,fun h=>by cases h⟩ (by show 8 - 1 < 8 - 0; decide)
      · exact next ⟨true,(daR d x1 x0).1,true,false,1⟩ ⟨da_max _ _ _ _,by show (1:Nat)≤8; decide,fun h=>by cases h⟩ (by show 8 - 1 < 8 - 0; decide)
      · exact next ⟨true,(ddR d x0).1,true,(ddR d x0).2,1⟩ ⟨dd _,by show (1:Nat)≤8; decide,fun h=>by cases h⟩ (by show 8 - 1 < 8 - 0; decide)
      · exact next ⟨true,(ddR d x0).1,true,false,1⟩ ⟨dd _,by show (1:Nat)≤8; decide,fun h=>by cases h⟩ (by show 8 - 1 < 8 - 0; decide)
    · show Got _ (fun C q=>evP E273 G273 _ (lp273 3) (st273b x s d p b f n x0 x1 x2 x3 x4 x5 x6 x7 x8 x9 x10 x11 x12 x13 x14 x15 x16 x17 x18 x19 x20 x21 x22 x23 m o 1 d0) (rk273 _ _ 3 _))
      simp only [b273b_1]
      refine ex_intro (fun _ => ?_) (fun _=>ex_intro (fun _=>ex_yes k3' (ex_intro (fun _ => ?_) (fun _ => ?_))) (fun _=>ex_yes k3' (ex_intro (fun _ => ?_) (fun _ => ?_))))
      · exact next ⟨true,d,b,o,2⟩ ⟨k1,by show (2:Nat)≤8; decide,fun h=>by cases h⟩ (by show 8 - 2 < 8 - 1; decide)
      · exact next ⟨true,(daR d x4 x3).1,true,(daR d x4 x3).2,2⟩ ⟨da_max _ _ _ _,by show (2:Nat)≤8; decide,fun h=>by cases h⟩ (by show 8 - 2 < 8 - 1; decide)
      · exact next ⟨true,(daR d x4 x3).1,true,false,2⟩ ⟨da_max _ _ _ _,by show (2:Nat)≤8; decide,fun h=>by cases h⟩ (by show 8 - 2 < 8 - 1; decide)
      · exact next ⟨true,(ddR d x3).1,true,(ddR d x3).2,2⟩ ⟨dd _,by show (2:Nat)≤8; decide,fun h=>by cases h⟩ (by show 8 - 2 < 8 - 1; decide)
      · exact next ⟨true,(ddR d x3).1,true,false,2⟩ ⟨dd _,by show (2:Nat)≤8; decide,fun h=>by cases h⟩ (by show 8 - 2 < 8 - 1; decide)
    · show Got _ (fun C q=>evP E273 G273 _ (lp273 3) (st273b x s d p b f n x0 x1 x2 x3 x4 x5 x6 x7 x8 x9 x10 x11 x12 x13 x14 x15 x16 x17 x18 x19 x20 x21 x22 x23 m o 2 d0) (rk273 _ _ 3 _))
      simp only [b273b_2]
      refine ex_intro (fun _ => ?_) (fun _=>ex_intro (fun _=>ex_yes k3' (ex_intro (fun _ => ?_) (fun _ => ?_))) (fun _=>ex_yes k3' (ex_intro (fun _ => ?_) (fun _ => ?_))))
      · exact next ⟨true,d,b,o,3⟩ ⟨k1,by show (3:Nat)≤8; decide,fun h=>by cases h⟩ (by show 8 - 3 < 8 - 2; decide)
      · exact next ⟨true,(daR d x7 x6).1,true,(daR d x7 x6).2,3⟩ ⟨da_max _ _ _ _,by show (3:Nat)≤8; decide,fun h=>by cases h⟩ (by show 8 - 3 < 8 - 2; decide)
      · exact next ⟨true,(daR d x7 x6).1,true,false,3⟩ ⟨da_max _ _ _ _,by show (3:Nat)≤8; decide,fun h=>by cases h⟩ (by show 8 - 3 < 8 - 2; decide)
      · exact next ⟨true,(ddR d x6).1,true,(ddR d x6).2,3⟩ ⟨dd _,by show (3:Nat)≤8; decide,fun h=>by cases h⟩ (by show 8 - 3 < 8 - 2; decide)
      · exact next ⟨true,(ddR d x6).1,true,false,3⟩ ⟨dd _,by show (3:Nat)≤8; decide,fun h=>by cases h⟩ (by show 8 - 3 < 8 - 2; decide)
    · show Got _ (fun C q=>evP E273 G273 _ (lp273 3) (st273b x s d p b f n x0 x1 x2 x3 x4 x5 x6 x7 x8 x9 x10 x11 x12 x13 x14 x15 x16 x17 x18 x19 x20 x21 x22 x23 m o 3 d0) (rk273 _ _ 3 _))
      simp only [b273b_3]
      refine ex_intro (fun _ => ?_) (fun _=>ex_intro (fun _=>ex_yes k3' (ex_intro (fun _ => ?_) (fun _ => ?_))) (fun _=>ex_yes k3' (ex_intro (fun _ => ?_) (fun _ => ?_))))
      · exact next ⟨true,d,b,o,4⟩ ⟨k1,by show (4:Nat)≤8; decide,fun h=>by cases h⟩ (by show 8 - 4 < 8 - 3; decide)
      · exact next ⟨true,(daR d x10 x9).1,true,(daR d x10 x9).2,4⟩ ⟨da_max _ _ _ _,by show (4:Nat)≤8; decide,fun h=>by cases h⟩ (by show 8 - 4 < 8 - 3; decide)
      · exact next ⟨true,(daR d x10 x9).1,true,false,4⟩ ⟨da_max _ _ _ _,by show (4:Nat)≤8; decide,fun h=>by cases h⟩ (by show 8 - 4 < 8 - 3; decide)
      · exact next ⟨true,(ddR d x9).1,true,(ddR d x9).2,4⟩ ⟨dd _,by show (4:Nat)≤8; decide,fun h=>by cases h⟩ (by show 8 - 4 < 8 - 3; decide)
      · exact next ⟨true,(ddR d x9).1,true,false,4⟩ ⟨dd _,by show (4:Nat)≤8; decide,fun h=>by cases h⟩ (by show 8 - 4 < 8 - 3; decide)
    · show Got _ (fun C q=>evP E273 G273 _ (lp273 3) (st273b x s d p b f n x0 x1 x2 x3 x4 x5 x6 x7 x8 x9 x10 x11 x12 x13 x14 x15 x16 x17 x18 x19 x20 x21 x22 x23 m o 4 d0) (rk273 _ _ 3 _))
      simp only [b273b_4]
      refine ex_intro (fun _ => ?_) (fun _=>ex_intro (fun _=>ex_yes k3' (ex_intro (fun _ => ?_) (fun _ => ?_))) (fun _=>ex_yes k3' (ex_intro (fun _ => ?_) (fun _ => ?_))))
      · exact next ⟨true,d,b,o,5⟩ ⟨k1,by show (5:Nat)≤8; decide,fun h=>by cases h⟩ (by show 8 - 5 < 8 - 4; decide)
      · exact next ⟨true,(daR d x13 x12).1,true,(daR d x13 x12).2,5⟩ ⟨da_max _ _ _ _,by show (5:Nat)≤8; decide,fun h=>by cases h⟩ (by show 8 - 5 < 8 - 4; decide)
      · exact next ⟨true,(daR d x13 x12).1,true,false,5⟩ ⟨da_max _ _ _ _,by show (5:Nat)≤8; decide,fun h=>by cases h⟩ (by show 8 - 5 < 8 - 4; decide)
      · exact next ⟨true,(ddR d x12).1,true,(ddR d x12).2,5⟩ ⟨dd _,by show (5:Nat)≤8; decide,fun h=>by cases h⟩ (by show 8 - 5 < 8 - 4; decide)
      · exact next ⟨true,(ddR d x12).1,true,false,5⟩ ⟨dd _,by show (5:Nat)≤8; decide,fun h=>by cases h⟩ (by show 8 - 5 < 8 - 4; decide)
    · show Got _ (fun C q=>evP E273 G273 _ (lp273 3) (st273b x s d p b f n x0 x1 x2 x3 x4 x5 x6 x7 x8 x9 x10 x11 x12 x13 x14 x15 x16 x17 x18 x19 x20 x21 x22 x23 m o 5 d0) (rk273 _ _ 3 _))
      simp only [b273b_5]
      refine ex_intro (fun _ => ?_) (fun _=>ex_intro (fun _=>ex_yes k3' (ex_intro (fun _ => ?_) (fun _ => ?_))) (fun _=>ex_yes k3' (ex_intro (fun _ => ?_) (fun _ => ?_))))
      · exact next ⟨true,d,b,o,6⟩ ⟨k1,by show (6:Nat)≤8; decide,fun h=>by cases h⟩ (by show 8 - 6 < 8 - 5; decide)
      · exact next ⟨true,(daR d x16 x15).1,true,(daR d x16 x15).2,6⟩ ⟨da_max _ _ _ _,by show (6:Nat)≤8; decide,fun h=>by cases h⟩ (by show 8 - 6 < 8 - 5; decide)
      · exact next ⟨true,(daR d x16 x15).1,true,false,6⟩ ⟨da_max _ _ _ _,by show (6:Nat)≤8; decide,fun h=>by cases h⟩ (by show 8 - 6 < 8 - 5; decide)
      · exact next ⟨true,(ddR d x15).1,true,(ddR d x15).2,6⟩ ⟨dd _,by show (6:Nat)≤8; decide,fun h=>by cases h⟩ (by show 8 - 6 < 8 - 5; decide)
      · exact next ⟨true,(ddR d x15).1,true,false,6⟩ ⟨dd _,by show (6:Nat)≤8; decide,fun h=>by cases h⟩ (by show 8 - 6 < 8 - 5; decide)
    · show Got _ (fun C q=>evP E273 G273 _ (lp273 3) (st273b x s d p b f n x0 x1 x2 x3 x4 x5 x6 x7 x8 x9 x10 x11 x12 x13 x14 x15 x16 x17 x18 x19 x20 x21 x22 x23 m o 6 d0) (rk273 _ _ 3 _))
      simp only [b273b_6]
      refine ex_intro (fun _ => ?_) (fun _=>ex_intro (fun _=>ex_yes k3' (ex_intro (fun _ => ?_) (fun _ => ?_))) (fun _=>ex_yes k3' (ex_intro (fun _ => ?_) (fun _ => ?_))))
      · exact next ⟨true,d,b,o,7⟩ ⟨k1,by show (7:Nat)≤8; decide,fun h=>by cases h⟩ (by show 8 - 7 < 8 - 6; decide)
      · exact next ⟨true,(daR d x19 x18).1,true,(daR d x19 x18).2,7⟩ ⟨da_max _ _ _ _,by show (7:Nat)≤8; decide,fun h=>by cases h⟩ (by show 8 - 7 < 8 - 6; decide)
      · exact next ⟨true,(daR d x19 x18).1,true,false,7⟩ ⟨da_max _ _ _ _,by show (7:Nat)≤8; decide,fun h=>by cases h⟩ (by show 8 - 7 < 8 - 6; decide)
      · exact next ⟨true,(ddR d x18).1,true,(ddR d x18).2,7⟩ ⟨dd _,by show (7:Nat)≤8; decide,fun h=>by cases h⟩ (by show 8 - 7 < 8 - 6; decide)
      · exact next ⟨true,(ddR d x18).1,true,false,7⟩ ⟨dd _,by show (7:Nat)≤8; decide,fun h=>by cases h⟩ (by show 8 - 7 < 8 - 6; decide)
    · show Got _ (fun C q=>evP E273 G273 _ (lp273 3) (st273b x s d p b f n x0 x1 x2 x3 x4 x5 x6 x7 x8 x9 x10 x11 x12 x13 x14 x15 x16 x17 x18 x19 x20 x21 x22 x23 m o 7 d0) (rk273 _ _ 3 _))
      simp only [b273b_7]
      refine ex_intro (fun _ => ?_) (fun _=>ex_intro (fun _=>ex_yes k3' (ex_intro (fun _ => ?_) (fun _ => ?_))) (fun _=>ex_yes k3' (ex_intro (fun _ => ?_) (fun _ => ?_))))
      · exact next ⟨true,d,b,o,8⟩ ⟨k1,by show (8:Nat)≤8; decide,fun h=>by cases h⟩ (by show 8 - 8 < 8 - 7; decide)
      · exact next ⟨true,(daR d x22 x21).1,true,(daR d x22 x21).2,8⟩ ⟨da_max _ _ _ _,by show (8:Nat)≤8; decide,fun h=>by cases h⟩ (by show 8 - 8 < 8 - 7; decide)
      · exact next ⟨true,(daR d x22 x21).1,true,false,8⟩ ⟨da_max _ _ _ _,by show (8:Nat)≤8; decide,fun h=>by cases h⟩ (by show 8 - 8 < 8 - 7; decide)
      · exact next ⟨true,(ddR d x21).1,true,(ddR d x21).2,8⟩ ⟨dd _,by show (8:Nat)≤8; decide,fun h=>by cases h⟩ (by show 8 - 8 < 8 - 7; decide)
      · exact next ⟨true,(ddR d x21).1,true,false,8⟩ ⟨dd _,by show (8:Nat)≤8; decide,fun h=>by cases h⟩ (by show 8 - 8 < 8 - 7; decide)
    · show Got _ (fun C q=>evP E273 G273 _ (lp273 3) (st273b x s d p b f n x0 x1 x2 x3 x4 x5 x6 x7 x8 x9 x10 x11 x12 x13 x14 x15 x16 x17 x18 x19 x20 x21 x22 x23 m o 8 d0) (rk273 _ _ 3 _))
      simp only [b273b_8]
      exact ex_end (x:=((⟨d,b,o,true⟩:Rf),0)) k1 fun C=>wk_rfl _
def g154:G1
  | [.val (.string s)],[],k=>k ⟨.val (.bool (decide ((s.size:Int) > 420))),[],[]⟩
  | _,_,_=>False
def g213l:G1
  | [.rsl [.str] xs,.fn 154 []],[],k=>br (decide (xs.length≤1048576)) (k ⟨.val (.int .i64 (fIx xs.length fun i=>longT (xs.getD i (edflt ks)))),[],[]⟩) False
  | _,_,_=>False
def g153l:G1
  | [.rsl [.str] xs,.fn 154 []],[],k=>br (decide (xs.length≤1048576)) (k ⟨.val (.bool (anyLong xs)),[],[]⟩) False
  | _,_,_=>False
def g157:G1
  | [.agg [.rsl [.str] a,.rsl [.str] b,.rsl [.int .i64,.int .i64,.str] c],.val (.int .i64 s),.val (.int .i64 i)],[],k=>br (decide (a.length≤1048576)) (k ⟨.val (.bool (secOk a.length s i)),[],[]⟩) False
  | _,_,_=>False
def g156:G1
  | [.agg [.val (.int .i64 s),.val (.int .i64 i),.val (.string t)],.rpt [.rsl [.str] a,.rsl [.str] b,.rsl [.int .i64,.int .i64,.str] c]],[],k=>br (decide (a.length≤1048576)) (k ⟨.val (.bool (badL a.length (s,i,t,()))),[],[]⟩) False
  | _,_,_=>False
def g214:G1
  | [.rsl [.int .i64,.int .i64,.str] xs,.fn 156 [.rpt [.rsl [.str] a,.rsl [.str] b,.rsl [.int .i64,.int .i64,.str] c]]],[],k =>
    br (decide (a.length≤1048576)&&decide (xs.length≤1048576)) (k ⟨.val (.int .i64 (fIx xs.length fun i=>badL a.length (xs.getD i (edflt kl)))),[],[]⟩) False
  | _,_,_=>False
def g155:G1
  | [.rsl [.int .i64,.int .i64,.str] xs,.fn 156 [.rpt [.rsl [.str] a,.rsl [.str] b,.rsl [.int .i64,.int .i64,.str] c]]],[],k =>
    br (decide (a.length≤1048576)&&decide (xs.length≤1048576)) (k ⟨.val (.bool (anyBad a.length xs)),[],[]⟩) False
  | _,_,_=>False
def g84:G1
  | [.agg [.rsl [.str] a,.rsl [.str] b,.rsl [.int .i64,.int .i64,.str] c]],[],k=>br (smD a b c) (k ⟨.val (.bool (dkOk a b c)),[],[]⟩) False
  | _,_,_=>False
noncomputable def G154:Gk:=gk []
theorem hg154:HG Tryz.prog G154:=hg_nil
theorem e154(L:Lp)(R:Rp)(s:ByteArray):(bodyP E0 G154 L Tryz.f154 [.val (.string s)] [] R)=(
    R (some ⟨vB (decide ((↑s.size:Int) > 420)),[],[]⟩)):=by kernel_rfl
theorem h154:G1Ok Tryz.prog 154 g154:=by
  intro args obs k h
  unfold g154 at h
  split at h
  · rename_i k s
    refine ⟨_,ctr_fn ok0 hg154 Tryz.func154 (by kernel_rfl) (by kernel_rfl) (by kernel_rfl) fun C => ?_,h⟩
    rw [e154]
  · exact h.elim
noncomputable def E213l:Env:=E0.of Tryz.f213
noncomputable def G213l:Gk:=gk [(154,g154)]
noncomputable def lp213l(n:Nat):Code:=(loopOf n (codeOf Tryz.f213)).getD .skip
noncomputable def ct213l(L:Lp)(R:Rp)(n:Nat):Kt:=contOf E213l G213l L n (codeOf Tryz.f213) (endK E213l Tryz.f213.results.toList R)
noncomputable def rk213l(L:Lp)(R:Rp)(n:Nat)(N:St→Prop):Kt:=rk (jof E213l (lp213l n)) N (ct213l L R n)
noncomputable def LOOP213l(L:Lp)(R:Rp)(n:Nat)(st:St):Prop:=L (lp213l n) st (ct213l L R n)
theorem hg213l:HG Tryz.prog G213l:=(hg_cons h154 hg_nil)
theorem okf213l:Ok Tryz.prog E213l:=ok0.of Tryz.f213
theorem e213l(L:Lp)(R:Rp)(xs:List (Elem ks)):(bodyP E0 G213l L Tryz.f213 [.rsl ks xs,.fn 154 []] [] R)=(
    LOOP213l L R 2 ⟨[.rsl ks xs,.fn 154 [],vU,vU,vI 0,vJ,vJ,vI (↑xs.length:Int),vI 0,vJ,vJ,vJ,vJ,vJ,vJ,vJ,vJ,vJ,vJ],[],1000000,[]⟩):=by kernel_rfl
def st213l(xs:List (Elem ks))(i:Int):St :=  ⟨[AV.rsl ks xs,AV.fn 154 [],vU,vU,vI 0,vJ,vJ,vI (↑xs.length:Int),.val (.int .i64 i),vJ,vJ,vJ,vJ,vJ,vJ,vJ,vJ,vJ,vJ],[],1000000,[]⟩
theorem b213l(L:Lp)(R:Rp)(N:St→Prop)(xs:List (Elem ks))(i:Int):(evP E213l G213l L (lp213l 2) (st213l xs i) (rk213l L R 2 N))=(
    br (decide (i < (↑xs.length:Int))) (br (decide (0≤i∧i < (↑xs.length:Int))) (br (decide ((↑(ByteArray.size (xs.getD i.toNat (edflt ks)).1):Int) > 420)) (R (some ⟨vI i,[],[]⟩)) (N ⟨[.rsl ks xs,.fn 154 [],vU,vU,vI 0,vJ,vJ,vI (↑xs.length:Int),vI (IntKind.i64.wrap (i+1)),vJ,vJ,vJ,vJ,vJ,vJ,vJ,vJ,vJ,vJ],[],1000000,[]⟩)) False) (R (some ⟨vI (-1),[],[]⟩))):=by kernel_rfl
theorem h213l:G1Ok Tryz.prog 213 g213l:=by
  intro args obs k h
  unfold g213l at h
  split at h
  · rename_i k xs
    obtain ⟨hlen,h⟩:=brd h
    refine ⟨_,ctr_fn ok0 hg213l Tryz.func213 (by kernel_rfl) (by kernel_rfl) (by kernel_rfl) fun C => ?_,h⟩
    rw [e213l]
    exact loopFind okf213l hg213l (fun i=>st213l xs i) xs.length (fun i=>longT (xs.getD i (edflt ks))) (by omega) (fun N i hi hw next found none=>by
      show evP E213l G213l _ (lp213l 2) (st213l xs i) (rk213l _ _ 2 _)
      rw [b213l,hw,Int.toNat_natCast]
      refine br_dec (fun h2=>br_yes ⟨by omega,h2⟩ (br_intro (fun h3 => ?_) (fun h3 => ?_))) (fun h2 => ?_)
      · show _=_
        rw [found (by omega) h3]
      · exact next (by omega) h3
      · show _=_
        rw [none (by omega)])
  · exact h.elim
noncomputable def G153l:Gk:=gk [(213,g213l)]
theorem hg153l:HG Tryz.prog G153l:=(hg_cons h213l hg_nil)
theorem e153l(L:Lp)(R:Rp)(xs:List (Elem ks)):(bodyP E0 G153l L Tryz.f153 [.rsl ks xs,.fn 154 []] [] R)=(
    br (decide (xs.length≤1048576)) (R (some ⟨vB (decide ((fIx xs.length fun i=>longT (xs.getD i (edflt ks)))≥0)),[],[]⟩)) False):=by kernel_rfl
theorem h153l:G1Ok Tryz.prog 153 g153l:=by
  intro args obs k h
  unfold g153l at h
  split at h
  · rename_i k xs
    obtain ⟨hlen,h⟩:=brd h
    refine ⟨_,ctr_fn ok0 hg153l Tryz.func153 (by kernel_rfl) (by kernel_rfl) (by kernel_rfl) fun C => ?_,h⟩
    rw [e153l]
    refine br_yes hlen ?_
    show _=_
    rw [fIx_ge]
    rfl
  · exact h.elim
noncomputable def G157:Gk:=gk [(129,g129)]
theorem hg157:HG Tryz.prog G157:=(hg_cons h129 hg_nil)
theorem e157(L:Lp)(R:Rp)(a b:List (Elem ks))(c:List (Elem kl))(s i:Int):(bodyP E0 G157 L Tryz.f157 [.agg [.rsl ks a,.rsl ks b,.rsl kl c],.val (.int .i64 s),.val (.int .i64 i)] [] R)=(
    br (decide (0≤s)&&decide (s≤1)) (R (some ⟨vB (decide (0≤i)&&decide (i≤IntKind.i64.wrap ((↑a.length:Int) - 1))),[],[]⟩)) (R (some ⟨vB false,[],[]⟩))):=by kernel_rfl
theorem h157:G1Ok Tryz.prog 157 g157:=by
  intro args obs k h
  unfold g157 at h
  split at h
  · rename_i k a b c s i
    obtain ⟨hlen,h⟩:=brd h
    refine ⟨_,ctr_fn ok0 hg157 Tryz.func157 (by kernel_rfl) (by kernel_rfl) (by kernel_rfl) fun C => ?_,h⟩
    rw [e157]
    rw [wrap_id (n:=(a.length:Int) - 1) (by omega) (by omega)]
    refine br_intro (fun h1 => ?_) (fun h1 => ?_)<;>show _=_<;>unfold secOk<;>rw [h1]
    · have:decide (i≤(a.length:Int) - 1)=decide (i < (a.length:Int)):=by
        apply decide_eq_decide.2
        omega
      rw [this]
      rfl
    · rfl
  · exact h.elim
noncomputable def G156:Gk:=gk [(154,g154),(157,g157)]
theorem hg156:HG Tryz.prog G156:=(hg_cons h154 (hg_cons h157 hg_nil))
theorem e156(L:Lp)(R:Rp)(a b:List (Elem ks))(c:List (Elem kl))(s i:Int)(t:ByteArray):(bodyP E0 G156 L Tryz.f156 [.agg [.val (.int .i64 s),.val (.int .i64 i),.val (.string t)],.rpt [.rsl ks a,.rsl ks b,.rsl kl c]] [] R)=(
    br (decide (a.length≤1048576)) (br (!secOk a.length s i) (R (some ⟨vB true,[],[]⟩)) (R (some ⟨vB (decide ((↑t.size:Int) > 420)),[],[]⟩))) False):=by kernel_rfl
theorem h156:G1Ok Tryz.prog 156 g156:=by
  intro args obs k h
  unfold g156 at h
  split at h
  · rename_i k s i t a b c
    obtain ⟨hlen,h⟩:=brd h
    refine ⟨_,ctr_fn ok0 hg156 Tryz.func156 (by kernel_rfl) (by kernel_rfl) (by kernel_rfl) fun C => ?_,h⟩
    rw [e156]
    refine br_yes hlen (br_not (fun h1 => ?_) (fun h1 => ?_))<;>show _=_<;>unfold badL<;>rw [h1]<;>rfl
  · exact h.elim
noncomputable def E214:Env:=E0.of Tryz.f214
noncomputable def G214:Gk:=gk [(156,g156)]
noncomputable def lp214(n:Nat):Code:=(loopOf n (codeOf Tryz.f214)).getD .skip
noncomputable def ct214(L:Lp)(R:Rp)(n:Nat):Kt:=contOf E214 G214 L n (codeOf Tryz.f214) (endK E214 Tryz.f214.results.toList R)
noncomputable def rk214(L:Lp)(R:Rp)(n:Nat)(N:St→Prop):Kt:=rk (jof E214 (lp214 n)) N (ct214 L R n)
noncomputable def LOOP214(L:Lp)(R:Rp)(n:Nat)(st:St):Prop:=L (lp214 n) st (ct214 L R n)
theorem hg214:HG Tryz.prog G214:=(hg_cons h156 hg_nil)
theorem okf214:Ok Tryz.prog E214:=ok0.of Tryz.f214
theorem e214(L:Lp)(R:Rp)(a b:List (Elem ks))(c xs:List (Elem kl)):(bodyP E0 G214 L Tryz.f214 [.rsl kl xs,.fn 156 [.rpt [.rsl ks a,.rsl ks b,.rsl kl c]]] [] R)=(
    LOOP214 L R 2 ⟨[.rsl kl xs,.fn 156 [.rpt [.rsl ks a,.rsl ks b,.rsl kl c]],vU,vU,vI 0,vJ,vJ,vI (↑xs.length:Int),vI 0,vJ,vJ,vJ,vJ,vJ,vJ,vJ,vJ,vJ,vJ],[],1000000,[]⟩):=by kernel_rfl
def st214(a b:List (Elem ks))(c xs:List (Elem kl))(i:Int):St :=  ⟨[AV.rsl kl xs,AV.fn 156 [AV.rpt [AV.rsl ks a,AV.rsl ks b,AV.rsl kl c]],vU,vU,vI 0,vJ,vJ,vI (↑xs.length:Int),.val (.int .i64 i),vJ,vJ,vJ,vJ,vJ,vJ,vJ,vJ,vJ,vJ],[],1000000,[]⟩
theorem b214(L:Lp)(R:Rp)(N:St→Prop)(a b:List (Elem ks))(c xs:List (Elem kl))(i:Int):(evP E214 G214 L (lp214 2) (st214 a b c xs i) (rk214 L R 2 N))=(
    br (decide (i < (↑xs.length:Int))) (br (decide (0≤i∧i < (↑xs.length:Int))) (br (decide (a.length≤1048576)) (br (badL a.length (xs.getD i.toNat (edflt kl))) (R (some ⟨vI i,[],[]⟩)) (N ⟨[.rsl kl xs,.fn 156 [.rpt [.rsl ks a,.rsl ks b,.rsl kl c]],vU,vU,vI 0,vJ,vJ,vI (↑xs.length:Int),vI (IntKind.i64.wrap (i+1)),vJ,vJ,vJ,vJ,vJ,vJ,vJ,vJ,vJ,vJ],[],1000000,[]⟩)) False) False) (R (some ⟨vI (-1),[],[]⟩))):=by kernel_rfl
theorem h214:G1Ok Tryz.prog 214 g214:=by
  intro args obs k h
  unfold g214 at h
  split at h
  · rename_i k xs a b c
    obtain ⟨ha,hlen,h⟩:=brb2 h
    rw [decide_eq_true_eq] at hlen
    refine ⟨_,ctr_fn ok0 hg214 Tryz.func214 (by kernel_rfl) (by kernel_rfl) (by kernel_rfl) fun C => ?_,h⟩
    rw [e214]
    exact loopFind okf214 hg214 (fun i=>st214 a b c xs i) xs.length (fun i=>badL a.length (xs.getD i (edflt kl))) (by omega) (fun N i hi hw next found none=>by
      show evP E214 G214 _ (lp214 2) (st214 a b c xs i) (rk214 _ _ 2 _)
      rw [b214,hw,Int.toNat_natCast]
      refine br_dec (fun h2=>br_yes ⟨by omega,h2⟩ (br_t ha (br_intro (fun h3 => ?_) (fun h3 => ?_)))) (fun h2 => ?_)
      · show _=_
        rw [found (by omega) h3]
      · exact next (by omega) h3
      · show _=_
        rw [none (by omega)])
  · exact h.elim
noncomputable def G155:Gk:=gk [(214,g214)]
theorem hg155:HG Tryz.prog G155:=(hg_cons h214 hg_nil)
theorem e155(L:Lp)(R:Rp)(a b:List (Elem ks))(c xs:List (Elem kl)):(bodyP E0 G155 L Tryz.f155 [.rsl kl xs,.fn 156 [.rpt [.rsl ks a,.rsl ks b,.rsl kl c]]] [] R)=(
    br (decide (a.length≤1048576)&&decide (xs.length≤1048576)) (R (some ⟨vB (decide ((fIx xs.length fun i=>badL a.length (xs.getD i (edflt kl)))≥0)),[],[]⟩)) False):=by kernel_rfl
theorem h155:G1Ok Tryz.prog 155 g155:=by
  intro args obs k h
  unfold g155 at h
  split at h
  · rename_i k xs a b c
    obtain ⟨hp,h⟩:=br_and h
    refine ⟨_,ctr_fn ok0 hg155 Tryz.func155 (by kernel_rfl) (by kernel_rfl) (by kernel_rfl) fun C => ?_,h⟩
    rw [e155]
    refine br_t hp ?_
    show _=_
    rw [fIx_ge]
    rfl
  · exact h.elim
noncomputable def G84:Gk:=gk [(129,g129),(153,g153l),(155,g155)]
theorem hg84:HG Tryz.prog G84:=(hg_cons h129 (hg_cons h153l (hg_cons h155 hg_nil)))
theorem e84(L:Lp)(R:Rp)(a b:List (Elem ks))(c:List (Elem kl)):(bodyP E0 G84 L Tryz.f84 [.agg [.rsl ks a,.rsl ks b,.rsl kl c]] [] R)=(
    br (!(decide (1≤(↑a.length:Int))&&decide ((↑a.length:Int)≤120))) (R (some ⟨vB false,[],[]⟩)) (br ((↑b.length:Int) != (↑a.length:Int)) (R (some ⟨vB false,[],[]⟩)) (br (decide (a.length≤1048576)) (br (anyLong a) (R (some ⟨vB false,[],[]⟩)) (br (decide (b.length≤1048576)) (br (anyLong b) (R (some ⟨vB false,[],[]⟩)) (br (decide ((↑c.length:Int)≤600)) (br (decide (a.length≤1048576)&&decide (c.length≤1048576)) (R (some ⟨vB !anyBad a.length c,[],[]⟩)) False) (R (some ⟨vB false,[],[]⟩)))) False)) False))):=by kernel_rfl
theorem h84:G1Ok Tryz.prog 84 g84:=by
  intro args obs k h
  unfold g84 at h
  split at h
  · rename_i k a b c
    unfold smD at h
    obtain ⟨hp,hc,h⟩:=brb2 h
    rw [Bool.and_eq_true] at hp
    refine ⟨_,ctr_fn ok0 hg84 Tryz.func84 (by kernel_rfl) (by kernel_rfl) (by kernel_rfl) fun C => ?_,h⟩
    rw [e84]
    refine br_not (fun h1 => ?_) (fun h1=>br_intro (fun h2 => ?_) (fun h2=>br_t hp.1 (br_intro (fun h3 => ?_) (fun h3=>br_t hp.2 (br_intro (fun h4 => ?_) (fun h4=>br_dec (fun h5=>br_t ?_ ?_) (fun h5 => ?_)))))))
    · show _=_
      simp [dkOk]
      simp at h1
      intro h6 h7
      omega
    · show _=_
      have : ¬ b.length=a.length:=fun e=>by rw [e] at h2; simp at h2
      simp [dkOk,this]
    · show _=_
      simp [dkOk,h3]
    · show _=_
      simp [dkOk,h4]
    · rw [hp.1,hc]
      rfl
    · show _=_
      have e1:b.length=a.length:=by simp at h2; omega
      simp at h1
      have e2:1≤a.length:=by omega
      have e3:a.length≤120:=by omega
      have e4:c.length≤600:=by omega
      simp [dkOk,h3,h4,e1,e2,e3,e4]
    · show _=_
      have e4 : ¬ c.length≤600:=by omega
      simp [dkOk,e4]
  · exact h.elim
noncomputable def E123:Env:=E0.of Tryz.f123
noncomputable def G123:Gk:=gk []
noncomputable def lp123(n:Nat):Code:=(loopOf n (codeOf Tryz.f123)).getD .skip
noncomputable def ct123(L:Lp)(R:Rp)(n:Nat):Kt:=contOf E123 G123 L n (codeOf Tryz.f123) (endK E123 Tryz.f123.results.toList R)
noncomputable def rk123(L:Lp)(R:Rp)(n:Nat)(N:St→Prop):Kt:=rk (jof E123 (lp123 n)) N (ct123 L R n)
noncomputable def LOOP123(L:Lp)(R:Rp)(n:Nat)(st:St):Prop:=L (lp123 n) st (ct123 L R n)
theorem hg123:HG Tryz.prog G123:=hg_nil
theorem okf123:Ok Tryz.prog E123:=ok0.of Tryz.f123
theorem e123(L:Lp)(R:Rp)(a b:List (Elem ks))(c:List (Elem kl))(s i:Int):(bodyP E0 G123 L Tryz.f123 [.agg [.rsl ks a,.rsl ks b,.rsl kl c],.val (.int .i64 s),.val (.int .i64 i)] [] R)=(
    LOOP123 L R 2 ⟨[.agg [.rsl ks a,.rsl ks b,.rsl kl c],vI s,vI i,.ptr 0 0,vU,vU,vS { data := #[] },vI (IntKind.i64.wrap ((↑c.length:Int) - 1)),vJ,vJ,vJ,vJ,vJ,vJ,vJ,vJ,vJ,vJ,vJ,vJ,vJ,vJ,vJ,vJ,vJ,vJ,vJ,vJ,vJ,vJ,vJ,vJ,vJ,vJ,vU,vU,vU,vU,vU,vU,vU],[(0,.box [.rsl ks a,.rsl ks b,.rsl kl c])],1000000,[]⟩):=by kernel_rfl
def st123(a b:List (Elem ks))(c:List (Elem kl))(s i j:Int):St :=  ⟨[AV.agg [AV.rsl ks a,AV.rsl ks b,AV.rsl kl c],vI s,vI i,AV.ptr 0 0,vU,vU,vS { data := #[] },.val (.int .i64 j),vJ,vJ,vJ,vJ,vJ,vJ,vJ,vJ,vJ,vJ,vJ,vJ,vJ,vJ,vJ,vJ,vJ,vJ,vJ,vJ,vJ,vJ,vJ,vJ,vJ,vJ,vU,vU,vU,vU,vU,vU,vU],[(0,AO.box [AV.rsl ks a,AV.rsl ks b,AV.rsl kl c])],1000000,[]⟩
theorem b123(L:Lp)(R:Rp)(N:St→Prop)(a b:List (Elem ks))(c:List (Elem kl))(s i j:Int):(evP E123 G123 L (lp123 2) (st123 a b c s i j) (rk123 L R 2 N))=(
    br (decide (j≥0)) (br (decide (0≤j∧j < (↑c.length:Int))) (br ((c.getD j.toNat (edflt kl)).1==s) (br ((c.getD j.toNat (edflt kl)).2.1==i) (R (some ⟨vS (c.getD j.toNat (edflt kl)).2.2.1,[],[]⟩)) (N (st123 a b c s i (IntKind.i64.wrap (j - 1))))) (N (st123 a b c s i (IntKind.i64.wrap (j - 1))))) False) (br (s==0) (br (decide (0≤i∧i < (↑a.length:Int))) (R (some ⟨vS (a.getD i.toNat (edflt ks)).1,[],[]⟩)) False) (br (s==1) (br (decide (0≤i∧i < (↑b.length:Int))) (R (some ⟨vS (b.getD i.toNat (edflt ks)).1,[],[]⟩)) False) False))):=by kernel_rfl
theorem h123:G1Ok Tryz.prog 123 g150:=by
  intro args obs k h
  unfold g150 at h
  split at h
  · rename_i k a b c s i
    obtain ⟨hs,hq,h⟩:=brb2 h
    rw [Bool.and_eq_true,decide_eq_true_eq,decide_eq_true_eq] at hq
    have hs':=hs
    simp only [secOk,Bool.and_eq_true,decide_eq_true_eq] at hs'
    refine ⟨_,ctr_fn ok0 hg123 Tryz.func123 (by kernel_rfl) (by kernel_rfl) (by kernel_rfl) fun C => ?_,h⟩
    rw [e123]
    refine loopDown okf123 hg123 (fun j=>st123 a b c s i j) c.length (fun q=>lkL c s i c.length=lkL c s i q) (fun N h0 => ?_) (fun N q hq' hI next => ?_) _ (wrap_id (by omega) (by omega)) rfl
    · show evP E123 G123 _ (lp123 2) (st123 a b c s i (-1)) (rk123 _ _ 2 _)
      rw [b123]
      have e:rdD a b c s i=sideAt a b s i:=by
        unfold rdD
        rw [h0]
        rfl
      refine br_no (by omega) (br_intro (fun h1=>br_yes ⟨by omega,by omega⟩ ?_) (fun h1=>br_intro (fun h2=>br_yes ⟨by omega,by omega⟩ ?_) (fun h2 => ?_)))
      · show _=_
        rw [e]
        unfold sideAt
        rw [h1]
      · show _=_
        rw [e]
        unfold sideAt
        rw [h1]
      · simp at h1 h2
        omega
    · show evP E123 G123 _ (lp123 2) (st123 a b c s i q) (rk123 _ _ 2 _)
      rw [b123,Int.toNat_natCast,wrap_id (n:=(q:Int) - 1) (by omega) (by omega)]
      have miss:hitL (c.getD q (edflt kl)) s i=false→N (st123 a b c s i ((q:Int) - 1)):=fun h1=>next (by
        rw [hI]
        show (match hitL (c.getD q (edflt kl)) s i with | true=>some (c.getD q (edflt kl)).2.2.1 | false=>lkL c s i q)=_
        rw [h1])
      refine br_yes (by omega) (br_yes ⟨by omega,by omega⟩ (br_intro (fun h1=>id (br_intro (fun h2=>id ?_) (fun h2=>miss ?_))) (fun h1=>miss ?_)))
      · show _=_
        have:lkL c s i (q+1)=some (c.getD q (edflt kl)).2.2.1:=by
          show (match hitL (c.getD q (edflt kl)) s i with | true=>some (c.getD q (edflt kl)).2.2.1 | false=>lkL c s i q)=_
          unfold hitL
          rw [h1,h2]
          rfl
        unfold rdD
        rw [hI,this]
      · unfold hitL
        rw [h2,Bool.and_false]
      · unfold hitL
        rw [h1]
        rfl
  · exact h.elim
def hasD(a b:List (Elem ks))(c:List (Elem kl))(x y s:Int):Bool:=secOk a.length s x&&(sumN (rdD a b c s x)==y)
def g122:G1
  | [.agg [.rsl [.str] a,.rsl [.str] b,.rsl [.int .i64,.int .i64,.str] c],.agg [.val (.int .i64 x),.val (.int .i64 y),.val (.int .i64 z)],.val (.int .i64 s)],[],k =>
    br (dkOk a b c) (k ⟨.val (.bool (hasD a b c x y s)),[],[]⟩) False
  | _,_,_=>False
def sideD(a b:List (Elem ks))(c:List (Elem kl))(x y z s:Int):Bool:=dkOk a b c&&realP x y z&&hasD a b c x y s
def g149:G1
  | [.agg [.rsl [.str] a,.rsl [.str] b,.rsl [.int .i64,.int .i64,.str] c],.agg [.val (.int .i64 x),.val (.int .i64 y),.val (.int .i64 z)],.val (.int .i64 s)],[],k =>
    br (smD a b c) (k ⟨.val (.bool (sideD a b c x y z s)),[],[]⟩) False
  | _,_,_=>False
theorem long_at{xs:List (Elem ks)}(h:anyLong xs=false)(i:Nat):(xs.getD i (edflt ks)).1.size≤420:=by
  by_cases hi:i < xs.length
  · have:=anyB_at h hi
    simp only [longT,decide_eq_false_iff_not] at this
    omega
  · rw [List.getD_eq_getElem?_getD,List.getElem?_eq_none (by omega)]
    show ByteArray.empty.size≤420
    decide
theorem rdD_size{a b:List (Elem ks)}{c:List (Elem kl)}(h:dkOk a b c=true)(s i:Int):(rdD a b c s i).size≤420:=by
  simp only [dkOk,Bool.and_eq_true,Bool.not_eq_true'] at h
  obtain ⟨⟨⟨_,h1⟩,h2⟩,h3⟩:=h
  unfold rdD
  split
  · rename_i t e
    exact lkL_size h3 s i _ (Nat.le_refl _) t e
  · unfold sideAt
    split
    · exact long_at h1 _
    · exact long_at h2 _
noncomputable def G122:Gk:=gk [(157,g157),(123,g150),(115,g116)]
theorem hg122:HG Tryz.prog G122:=(hg_cons h157 (hg_cons h123 (hg_cons h115 hg_nil)))
theorem e122(L:Lp)(R:Rp)(a b:List (Elem ks))(c:List (Elem kl))(x y z s:Int):(bodyP E0 G122 L Tryz.f122 [.agg [.rsl ks a,.rsl ks b,.rsl kl c],.agg [.val (.int .i64 x),.val (.int .i64 y),.val (.int .i64 z)],.val (.int .i64 s)] [] R)=(
    br (decide (a.length≤1048576)) (br (secOk a.length s x) (br (secOk a.length s x&&(decide (b.length=a.length)&&decide (c.length≤1048576))) (br (decide ((rdD a b c s x).size≤4611686018427387904)) (R (some ⟨vB (sumN (rdD a b c s x)==y),[],[]⟩)) False) False) (R (some ⟨vB false,[],[]⟩))) False):=by kernel_rfl
theorem h122:G1Ok Tryz.prog 122 g122:=by
  intro args obs k h
  unfold g122 at h
  split at h
  · rename_i k a b c x y z s
    obtain ⟨ho,h⟩:=br_and h
    obtain ⟨q1,q2,q3⟩:=dkOk_b ho
    refine ⟨_,ctr_fn ok0 hg122 Tryz.func122 (by kernel_rfl) (by kernel_rfl) (by kernel_rfl) fun C => ?_,h⟩
    rw [e122]
    refine br_yes (by omega) (br_intro (fun h1=>br_t ?_ (br_yes ?_ ?_)) (fun h1 => ?_))
    · rw [h1,q1]
      simp
      omega
    · have:=rdD_size ho s x
      omega
    · show _=_
      unfold hasD
      rw [h1]
      rfl
    · show _=_
      unfold hasD
      rw [h1]
      rfl
  · exact h.elim
noncomputable def G149:Gk:=gk [(190,g190),(109,g195),(116,g116)]
theorem hg149:HG Tryz.prog G149:=(hg_cons h190 (hg_cons h109 (hg_cons h116 hg_nil)))
theorem e149(L:Lp)(R:Rp)(a b:List (Elem ks))(c:List (Elem kl))(x y z s:Int):(bodyP E0 G149 L Tryz.f149 [.agg [.rsl ks a,.rsl ks b,.rsl kl c],.agg [.val (.int .i64 x),.val (.int .i64 y),.val (.int .i64 z)],.val (.int .i64 s)] [] R)=(
    br (smD a b c) (br (dkOk a b c&&secOk a.length s x) (br (ptrOk x y z) (br (decide (x > 0)) (br (decide ((rdA a b c s x).size≤4611686018427387904)) (R (some ⟨vB (sumN (rdA a b c s x)==y),[],[]⟩)) False) (R (some ⟨vB false,[],[]⟩))) (R (some ⟨vB false,[],[]⟩))) (R (some ⟨vB false,[],[]⟩))) False):=by kernel_rfl
theorem h149:G1Ok Tryz.prog 149 g149:=by
  intro args obs k h
  unfold g149 at h
  split at h
  · rename_i k a b c x y z s
    obtain ⟨hp,h⟩:=br_and h
    refine ⟨_,ctr_fn ok0 hg149 Tryz.func149 (by kernel_rfl) (by kernel_rfl) (by kernel_rfl) fun C => ?_,h⟩
    rw [e149]
    unfold rdA
    refine br_t hp (br_intro (fun h1=>br_intro (fun h2=>br_intro (fun h3=>br_yes ?_ ?_) (fun h3 => ?_)) (fun h2 => ?_)) (fun h1 => ?_))
    · rw [h1]
      rw [Bool.and_eq_true] at h1
      show (rdD a b c s x).size≤_
      have:=rdD_size h1.1 s x
      omega
    · rw [h1]
      rw [Bool.and_eq_true] at h1
      show _=_
      unfold sideD hasD
      rw [h1.1,h1.2,realP_gt h2,h3]
      rfl
    · show _=_
      unfold sideD
      rw [realP_gt h2,h3,Bool.and_false]
      rfl
    · show _=_
      unfold sideD realP
      rw [h2]
      simp
    · show _=_
      rw [Bool.and_eq_false_iff] at h1
      unfold sideD hasD
      rcases h1 with h1 | h1<;>rw [h1]<;>simp
  · exact h.elim
end Go.Proofs.YtkjnijddbiconaaGreatDoor.Ev