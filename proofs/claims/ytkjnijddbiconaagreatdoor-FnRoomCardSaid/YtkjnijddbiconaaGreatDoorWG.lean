/- A store that is played: the text of a set's pointers. -/
import Derived.Test.YtkjnijddbiconaaGreatDoorS4
import Derived.Test.YtkjnijddbiconaaGreatDoorWF
import Derived.Test.YtkjnijddbiconaaGreatDoorC9
namespace Go.Proofs.YtkjnijddbiconaaGreatDoor.Ev
open Go
set_option linter.unusedVariables false
set_option linter.unusedSimpArgs false
set_option maxRecDepth 100000
theorem cmE(x0 x1 x2 x3 x4 x5 x6 x7 x8 x9 x10 x11 x12 x13 x14 x15 x16 x17 x18 x19 x20 x21 x22 x23:Int) : ∃ x:ByteArray,x.size≤16000000∧Ctr Tryz.prog 297 [.agg [.val (.int .i64 x0),.val (.int .i64 x1),.val (.int .i64 x2),.val (.int .i64 x3),.val (.int .i64 x4),.val (.int .i64 x5),.val (.int .i64 x6),.val (.int .i64 x7),.val (.int .i64 x8),.val (.int .i64 x9),.val (.int .i64 x10),.val (.int .i64 x11),.val (.int .i64 x12),.val (.int .i64 x13),.val (.int .i64 x14),.val (.int .i64 x15),.val (.int .i64 x16),.val (.int .i64 x17),.val (.int .i64 x18),.val (.int .i64 x19),.val (.int .i64 x20),.val (.int .i64 x21),.val (.int .i64 x22),.val (.int .i64 x23)]] [] ⟨.val (.string x),[],[]⟩:=by
  refine ex_ctr (form:=fun x:ByteArray=>⟨.val (.string x),[],[]⟩) okf hg297 Tryz.func297 (by kernel_rfl) (by kernel_rfl) (by kernel_rfl) ?_
  simp only [e297]
  refine ex_loop okf297 hg297 (fun y:ByteArray × Nat=>st297 x0 x1 x2 x3 x4 x5 x6 x7 x8 x9 x10 x11 x12 x13 x14 x15 x16 x17 x18 x19 x20 x21 x22 x23 y.1 (y.2:Int)) (fun y=>8 - y.2) (fun y=>y.1.size≤1000001 * y.2∧y.2≤8) (fun ⟨t,i⟩ ⟨ht,hi⟩ next => ?_) (⟨#[]⟩,0) ⟨Nat.le_refl 0,Nat.zero_le _⟩
  show Got _ (fun C p=>evP E297 G297 _ (lp297 3) (st297 x0 x1 x2 x3 x4 x5 x6 x7 x8 x9 x10 x11 x12 x13 x14 x15 x16 x17 x18 x19 x20 x21 x22 x23 t (i:Int)) (rk297 _ _ 3 _))
  have ht:t.size≤1000001 * i:=ht
  have hi:i≤8:=hi
  have s1:(⟨#[32]⟩:ByteArray).size=1:=rfl
  have stop : ∀ s:ByteArray,s.size≤16000000→Got (fun p:ByteArray × Nat=>p.1.size≤16000000) (fun C p=>Wk (some ⟨.val (.string s),[],[]⟩) ⟨.val (.string p.1),[],[]⟩):=fun s hs=>ex_end (x:=(s,0)) hs fun C=>wk_rfl _
  simp only [b297]
  rcases (show i=0∨i=1∨i=2∨i=3∨i=4∨i=5∨i=6∨i=7∨i=8 by omega) with rfl | rfl | rfl | rfl | rfl | rfl | rfl | rfl | rfl
  all_goals
    repeat' (first
      | exact stop _ (by first | exact Nat.zero_le _ | omega)
      | refine ex_t rfl ?_
      | refine ex_f rfl ?_
      | refine ex_not (fun h => ?_) (fun h => ?_)
      | refine ex_yes (by have:=ptrT_sz h; simp only [ByteArray.size_append,s1]; omega) ?_
      | refine ex_yes (by have:=ptrT_sz h; omega) ?_
      | refine ex_yes (by omega) ?_
      | refine next (_,_+1) ⟨?_,?_⟩ ?_)
  all_goals first
    | (dsimp only; omega)
    | (have:=ptrT_sz (by assumption); dsimp only; simp only [ByteArray.size_append,s1]; omega)
noncomputable def cmF(x0 x1 x2 x3 x4 x5 x6 x7 x8 x9 x10 x11 x12 x13 x14 x15 x16 x17 x18 x19 x20 x21 x22 x23:Int):ByteArray:=pick fun x:ByteArray=>x.size≤16000000∧Ctr Tryz.prog 297 [.agg [.val (.int .i64 x0),.val (.int .i64 x1),.val (.int .i64 x2),.val (.int .i64 x3),.val (.int .i64 x4),.val (.int .i64 x5),.val (.int .i64 x6),.val (.int .i64 x7),.val (.int .i64 x8),.val (.int .i64 x9),.val (.int .i64 x10),.val (.int .i64 x11),.val (.int .i64 x12),.val (.int .i64 x13),.val (.int .i64 x14),.val (.int .i64 x15),.val (.int .i64 x16),.val (.int .i64 x17),.val (.int .i64 x18),.val (.int .i64 x19),.val (.int .i64 x20),.val (.int .i64 x21),.val (.int .i64 x22),.val (.int .i64 x23)]] [] ⟨.val (.string x),[],[]⟩
theorem cmF_ok(x0 x1 x2 x3 x4 x5 x6 x7 x8 x9 x10 x11 x12 x13 x14 x15 x16 x17 x18 x19 x20 x21 x22 x23:Int):(cmF x0 x1 x2 x3 x4 x5 x6 x7 x8 x9 x10 x11 x12 x13 x14 x15 x16 x17 x18 x19 x20 x21 x22 x23).size≤16000000∧Ctr Tryz.prog 297 [.agg [.val (.int .i64 x0),.val (.int .i64 x1),.val (.int .i64 x2),.val (.int .i64 x3),.val (.int .i64 x4),.val (.int .i64 x5),.val (.int .i64 x6),.val (.int .i64 x7),.val (.int .i64 x8),.val (.int .i64 x9),.val (.int .i64 x10),.val (.int .i64 x11),.val (.int .i64 x12),.val (.int .i64 x13),.val (.int .i64 x14),.val (.int .i64 x15),.val (.int .i64 x16),.val (.int .i64 x17),.val (.int .i64 x18),.val (.int .i64 x19),.val (.int .i64 x20),.val (.int .i64 x21),.val (.int .i64 x22),.val (.int .i64 x23)]] [] ⟨.val (.string (cmF x0 x1 x2 x3 x4 x5 x6 x7 x8 x9 x10 x11 x12 x13 x14 x15 x16 x17 x18 x19 x20 x21 x22 x23)),[],[]⟩:=pick_ok (cmE x0 x1 x2 x3 x4 x5 x6 x7 x8 x9 x10 x11 x12 x13 x14 x15 x16 x17 x18 x19 x20 x21 x22 x23)
noncomputable def g297:G1
  | [.agg [.val (.int .i64 x0),.val (.int .i64 x1),.val (.int .i64 x2),.val (.int .i64 x3),.val (.int .i64 x4),.val (.int .i64 x5),.val (.int .i64 x6),.val (.int .i64 x7),.val (.int .i64 x8),.val (.int .i64 x9),.val (.int .i64 x10),.val (.int .i64 x11),.val (.int .i64 x12),.val (.int .i64 x13),.val (.int .i64 x14),.val (.int .i64 x15),.val (.int .i64 x16),.val (.int .i64 x17),.val (.int .i64 x18),.val (.int .i64 x19),.val (.int .i64 x20),.val (.int .i64 x21),.val (.int .i64 x22),.val (.int .i64 x23)]],[],k=>k ⟨.val (.string (cmF x0 x1 x2 x3 x4 x5 x6 x7 x8 x9 x10 x11 x12 x13 x14 x15 x16 x17 x18 x19 x20 x21 x22 x23)),[],[]⟩
  | _,_,_=>False
theorem h297:G1Ok Tryz.prog 297 g297:=by
  intro args obs k h
  unfold g297 at h
  split at h
  · rename_i k x0 x1 x2 x3 x4 x5 x6 x7 x8 x9 x10 x11 x12 x13 x14 x15 x16 x17 x18 x19 x20 x21 x22 x23
    exact ⟨_,(cmF_ok x0 x1 x2 x3 x4 x5 x6 x7 x8 x9 x10 x11 x12 x13 x14 x15 x16 x17 x18 x19 x20 x21 x22 x23).2,h⟩
  · exact h.elim
def dirC(e:Elem kc):Bool:=e.2.2.2.2.2.2.2.2.2.2.2.2.2.2.2.2.2.2.2.2.2.2.2.2.2.2.2.2.2.2.1
def dN(s:List (Elem kc)):Nat→Nat
  | 0=>0
  | i+1=>match dirC (s.getD i (edflt kc)) with
    | true=>dN s i+1
    | false=>dN s i
noncomputable def ndN(s:List (Elem kc))(d:List (Elem k3))(b:Bool):Int:=match b with
  | true=>1+(dN s s.length:Int)+((ptF d).length:Int)
  | false=>1+(dN s s.length:Int)
noncomputable def g264:G1
  | [.agg us],[],k=>match coreOf us with
    | some c=>br (smCo c) (k ⟨.val (.int .i64 (ndN c.2.1 c.2.2.1 c.2.2.2.2.1)),[],[]⟩) False
    | none=>False
  | _,_,_=>False
noncomputable def myB(x:Int)(s:List (Elem kc))(d:List (Elem k3))(b:Bool)(f:List (Elem ki))(n:Int):Bool:=decide (x < 1000000)&&decide (((frL d f n).length:Int)≥ndN s d b)
noncomputable def g226:G1
  | [.agg [.rsl [.str] a,.rsl [.str] b,.rsl [.int .i64,.int .i64,.str] e],.agg us],[],k=>match coreOf us with
    | some c=>br (smCo c&&decide (a.length≤120)) (k ⟨.val (.bool (myB c.1 c.2.1 c.2.2.1 c.2.2.2.2.1 c.2.2.2.2.2.1 (a.length:Int))),[],[]⟩) False
    | none=>False
  | _,_,_=>False
def rgX(a b:List (Elem ks))(c:List (Elem kl))(t x y z:Int):D3 × Bool:=bwX a b c (IntKind.i64.wrap (1+t.tmod 4)) (cuT t x y z)
def g266:G1
  | [.agg [.rsl [.str] a,.rsl [.str] b,.rsl [.int .i64,.int .i64,.str] c],.val (.int .i64 t),.agg [.val (.int .i64 x),.val (.int .i64 y),.val (.int .i64 z)]],[],k =>
    br (smD a b c) (k ⟨.tup [.agg [.ows 0,.ows 1,.ows 2],.val (.bool (rgX a b c t x y z).2)],[.row ks (rgX a b c t x y z).1.1,.row ks (rgX a b c t x y z).1.2.1,.row kl (rgX a b c t x y z).1.2.2],[]⟩) False
  | _,_,_=>False
def fAt(f:List (Elem ki))(q:Nat):Int:=(f.getD q (edflt ki)).1
def g296:G1
  | [.ptr 0 0,.val (.string t)],[.box [.ows 1,.ows 2,.ows 3,.ows 4,.val (.int .i64 x),.val (.bool o)],.row [.str] a,.row [.str] b,.row [.int .i64,.int .i64,.str] c,.row [.int .i64] f],k =>
    br (decide (1≤f.length)&&(smD a b c&&decide (t.size≤4611686018427387904)))
      (k ⟨.agg [.val (.int .i64 (btA (fAt f 0) t x)),.val (.int .i64 (btS (fAt f 0) t x)),.val (.int .i64 (btB (fAt f 0) t x))],[.box [.ows 1,.ows 2,.ows 3,.osl 4 1 (f.length - 1),.val (.int .i64 x),.val (.bool (o&&(bwX a b c (fAt f 0) t).2))],.row ks (bwX a b c (fAt f 0) t).1.1,.row ks (bwX a b c (fAt f 0) t).1.2.1,.row kl (bwX a b c (fAt f 0) t).1.2.2,.row ki f,.row ks a,.row ks b,.row kl c],[some 0,some 5,some 6,some 7,none]⟩) False
  | [.ptr 0 0,.val (.string t)],[.box [.ows 1,.ows 2,.ows 3,.osl 4 q r,.val (.int .i64 x),.val (.bool o)],.row [.str] a,.row [.str] b,.row [.int .i64,.int .i64,.str] c,.row [.int .i64] f],k =>
    br (decide (1≤r)&&(smD a b c&&decide (t.size≤4611686018427387904)))
      (k ⟨.agg [.val (.int .i64 (btA (fAt f q) t x)),.val (.int .i64 (btS (fAt f q) t x)),.val (.int .i64 (btB (fAt f q) t x))],[.box [.ows 1,.ows 2,.ows 3,.osl 4 (q+1) (r - 1),.val (.int .i64 x),.val (.bool (o&&(bwX a b c (fAt f q) t).2))],.row ks (bwX a b c (fAt f q) t).1.1,.row ks (bwX a b c (fAt f q) t).1.2.1,.row kl (bwX a b c (fAt f q) t).1.2.2,.row ki f,.row ks a,.row ks b,.row kl c],[some 0,some 5,some 6,some 7,none]⟩) False
  | _,_,_=>False
theorem dN_le(s:List (Elem kc)) : ∀ i,dN s i≤i
  | 0=>Nat.le_refl _
  | i+1=>by
    have:=dN_le s i
    unfold dN
    split<;>omega
theorem h264:G1Ok Tryz.prog 264 g264:=by
  intro args obs k h
  unfold g264 at h
  split at h
  · rename_i k us
    split at h
    rotate_left
    · exact h.elim
    rename_i c hc
    obtain rfl:=coreOf_inv hc
    obtain ⟨x,s,d,p,b,f,n⟩:=c
    obtain ⟨hp,h⟩:=br_and h
    refine ⟨_,ctr_fn okf hg264 Tryz.func264 (by kernel_rfl) (by kernel_rfl) (by kernel_rfl) fun C => ?_,h⟩
    show bodyP Ef G264 _ Tryz.f264 [coreAV x s d p b f n] [] _
    rw [e264]
    have hp':=hp
    simp only [smCo,Bool.and_eq_true,decide_eq_true_eq] at hp'
    obtain ⟨⟨⟨hs,hd⟩,_⟩,_⟩:=hp'
    have hs:s.length≤1048576:=hs
    have hd:d.length≤1048576:=hd
    have hpt:=(ptF_ok (decide_eq_true hd)).1.1
    refine loopUp okf264 hg264 (fun i m=>st264 x s d p b f n m i) s.length (fun i m=>m=1+(dN s i:Int)) (fun N i m hi hm next => ?_) _ rfl
    show evP E264 G264 _ (lp264 3) (st264 x s d p b f n m (i:Int)) (rk264 _ _ 3 _)
    have hdn:=dN_le s i
    rw [b264,hm,wrap_id (n:=(i:Int)+1) (by omega) (by omega),wrap_id (n:=1+(dN s i:Int)+1) (by omega) (by omega),Int.toNat_natCast]
    refine br_dec (fun h1=>br_yes ⟨by omega,h1⟩ (br_intro (fun h2 => ?_) (fun h2 => ?_))) (fun h1 => ?_)
    · refine next (by omega) _ ?_
      have h2:dirC (s.getD i (edflt kc))=true:=h2
      have e:dN s (i+1)=dN s i+1:=by
        show (match dirC (s.getD i (edflt kc)) with
          | true=>dN s i+1
          | false=>dN s i)=_
        rw [h2]
      rw [e]
      omega
    · refine next (by omega) _ ?_
      have h2:dirC (s.getD i (edflt kc))=false:=h2
      have e:dN s (i+1)=dN s i:=by
        show (match dirC (s.getD i (edflt kc)) with
          | true=>dN s i+1
          | false=>dN s i)=_
        rw [h2]
      rw [e]
    · have e:i=s.length:=by omega
      subst e
      unfold ndN
      refine br_intro (fun h2=>br_yes hd ?_) (fun h2 => ?_)
      · show _=_
        rw [h2,wrap_id (by omega) (by omega)]
      · show _=_
        rw [h2]
  · exact h.elim
noncomputable def G226:Gk:=gk [(74,g74),(264,g264)]
theorem hg226:HG Tryz.prog G226:=(hg_cons h74 (hg_cons h264 hg_nil))
theorem e226(L:Lp)(R:Rp)(a b0:List (Elem ks))(c0:List (Elem kl))(x:Int)(s:List (Elem kc))(d p:List (Elem k3))(b:Bool)(f:List (Elem ki))(n:Int):(bodyP Ef G226 L Tryz.f226 [.agg [.rsl ks a,.rsl ks b0,.rsl kl c0],coreAV x s d p b f n] [] R)=(
    br (decide (x < 1000000)) (br (smCo (x,s,d,p,b,f,n)&&decide ((↑a.length:Int)≤120)) (br (smCo (x,s,d,p,b,f,n)) (R (some ⟨vB (decide ((↑(frL (x,s,d,p,b,f,n).2.2.1 (x,s,d,p,b,f,n).2.2.2.2.2.1 (↑a.length:Int)).length:Int)≥ndN (x,s,d,p,b,f,n).2.1 (x,s,d,p,b,f,n).2.2.1 (x,s,d,p,b,f,n).2.2.2.2.1)),[],[]⟩)) False) False) (R (some ⟨vB false,[],[]⟩))):=by kernel_rfl
theorem h226:G1Ok Tryz.prog 226 g226:=by
  intro args obs k h
  unfold g226 at h
  split at h
  · rename_i k a b0 c0 us
    split at h
    rotate_left
    · exact h.elim
    rename_i c hc
    obtain rfl:=coreOf_inv hc
    obtain ⟨x,s,d,p,b,f,n⟩:=c
    obtain ⟨hp,ha,h⟩:=brb2 h
    refine ⟨_,ctr_fn okf hg226 Tryz.func226 (by kernel_rfl) (by kernel_rfl) (by kernel_rfl) fun C => ?_,h⟩
    show bodyP Ef G226 _ Tryz.f226 [.agg [.rsl ks a,.rsl ks b0,.rsl kl c0],coreAV x s d p b f n] [] _
    have ha':=of_decide_eq_true ha
    rw [e226]
    unfold myB
    refine br_dec (fun h1=>br_t (by rw [hp]; exact decide_eq_true (by omega)) (br_t hp ?_)) (fun h1 => ?_)
    · show _=_
      rw [decide_eq_true h1]
      rfl
    · show _=_
      rw [decide_eq_false h1]
      rfl
  · exact h.elim
noncomputable def G266:Gk:=gk [(298,g298),(189,g189w)]
theorem hg266:HG Tryz.prog G266:=(hg_cons h298 (hg_cons h189w hg_nil))
theorem e266(L:Lp)(R:Rp)(a b:List (Elem ks))(c:List (Elem kl))(t x y z:Int):(bodyP Ef G266 L Tryz.f266 [.agg [.rsl ks a,.rsl ks b,.rsl kl c],.val (.int .i64 t),.agg [.val (.int .i64 x),.val (.int .i64 y),.val (.int .i64 z)]] [] R)=(
    br (smD a b c) (R (some ⟨.tup [.agg [.ows 0,.ows 1,.ows 2],vB (bwX a b c (IntKind.i64.wrap (1+t.tmod 4)) (cuT t x y z)).2],[.row ks (bwX a b c (IntKind.i64.wrap (1+t.tmod 4)) (cuT t x y z)).1.1,.row ks (bwX a b c (IntKind.i64.wrap (1+t.tmod 4)) (cuT t x y z)).1.2.1,.row kl (bwX a b c (IntKind.i64.wrap (1+t.tmod 4)) (cuT t x y z)).1.2.2],[]⟩)) False):=by kernel_rfl
theorem h266:G1Ok Tryz.prog 266 g266:=by
  intro args obs k h
  unfold g266 at h
  split at h
  · rename_i k a b c t x y z
    obtain ⟨hp,h⟩:=br_and h
    refine ⟨_,ctr_fn okf hg266 Tryz.func266 (by kernel_rfl) (by kernel_rfl) (by kernel_rfl) fun C => ?_,h⟩
    rw [e266]
    exact br_t hp rfl
  · exact h.elim
noncomputable def G296:Gk:=gk [(189,g189w),(275,g275)]
theorem hg296:HG Tryz.prog G296:=(hg_cons h189w (hg_cons h275 hg_nil))
theorem e296(L:Lp)(R:Rp)(a b:List (Elem ks))(c:List (Elem kl))(f:List (Elem ki))(x:Int)(o:Bool)(t:ByteArray):(bodyP Er G296 L Tryz.f296 [.ptr 0 0,.val (.string t)] [.box [.ows 1,.ows 2,.ows 3,.ows 4,.val (.int .i64 x),.val (.bool o)],.row ks a,.row ks b,.row kl c,.row ki f] R)=(
    br (decide ((0:Int)≤0∧0 < (↑f.length:Int))) (br (decide ((0:Int)≤1∧1≤(↑f.length:Int)∧(↑f.length:Int)≤(↑f.length:Int)∧(↑f.length:Int)≤(↑f.length:Int))) (br (smD a b c) (br o (br (decide (t.size≤4611686018427387904)) (R (some ⟨.agg [vI (btA (f.getD 0 (edflt ki)).1 t x),vI (btS (f.getD 0 (edflt ki)).1 t x),vI (btB (f.getD 0 (edflt ki)).1 t x)],[.box [.ows 1,.ows 2,.ows 3,.osl 4 1 ((↑f.length:Int) - 1).toNat,vI x,vB (bwX a b c (f.getD 0 (edflt ki)).1 t).2],.row ks (bwX a b c (f.getD 0 (edflt ki)).1 t).1.1,.row ks (bwX a b c (f.getD 0 (edflt ki)).1 t).1.2.1,.row kl (bwX a b c (f.getD 0 (edflt ki)).1 t).1.2.2,.row ki f,.row ks a,.row ks b,.row kl c],[some 0,some 5,some 6,some 7,none]⟩)) False) (br (decide (t.size≤4611686018427387904)) (R (some ⟨.agg [vI (btA (f.getD 0 (edflt ki)).1 t x),vI (btS (f.getD 0 (edflt ki)).1 t x),vI (btB (f.getD 0 (edflt ki)).1 t x)],[.box [.ows 1,.ows 2,.ows 3,.osl 4 1 ((↑f.length:Int) - 1).toNat,vI x,vB false],.row ks (bwX a b c (f.getD 0 (edflt ki)).1 t).1.1,.row ks (bwX a b c (f.getD 0 (edflt ki)).1 t).1.2.1,.row kl (bwX a b c (f.getD 0 (edflt ki)).1 t).1.2.2,.row ki f,.row ks a,.row ks b,.row kl c],[some 0,some 5,some 6,some 7,none]⟩)) False)) False) False) False):=by kernel_rfl
theorem e296l(L:Lp)(R:Rp)(a b:List (Elem ks))(c:List (Elem kl))(f:List (Elem ki))(q r:Nat)(x:Int)(o:Bool)(t:ByteArray):(bodyP Er G296 L Tryz.f296 [.ptr 0 0,.val (.string t)] [.box [.ows 1,.ows 2,.ows 3,.osl 4 q r,.val (.int .i64 x),.val (.bool o)],.row ks a,.row ks b,.row kl c,.row ki f] R)=(
    br (decide ((0:Int)≤0∧0 < (↑r:Int))) (br (decide ((0:Int)≤1∧1≤(↑r:Int)∧(↑r:Int)≤(↑r:Int)∧(↑r:Int)≤(↑r:Int))) (br (smD a b c) (br o (br (decide (t.size≤4611686018427387904)) (R (some ⟨.agg [vI (btA (f.getD (q+0) (edflt ki)).1 t x),vI (btS (f.getD (q+0) (edflt ki)).1 t x),vI (btB (f.getD (q+0) (edflt ki)).1 t x)],[.box [.ows 1,.ows 2,.ows 3,.osl 4 (q+1) ((↑r:Int) - 1).toNat,vI x,vB (bwX a b c (f.getD (q+0) (edflt ki)).1 t).2],.row ks (bwX a b c (f.getD (q+0) (edflt ki)).1 t).1.1,.row ks (bwX a b c (f.getD (q+0) (edflt ki)).1 t).1.2.1,.row kl (bwX a b c (f.getD (q+0) (edflt ki)).1 t).1.2.2,.row ki f,.row ks a,.row ks b,.row kl c],[some 0,some 5,some 6,some 7,none]⟩)) False) (br (decide (t.size≤4611686018427387904)) (R (some ⟨.agg [vI (btA (f.getD (q+0) (edflt ki)).1 t x),vI (btS (f.getD (q+0) (edflt ki)).1 t x),vI (btB (f.getD (q+0) (edflt ki)).1 t x)],[.box [.ows 1,.ows 2,.ows 3,.osl 4 (q+1) ((↑r:Int) - 1).toNat,vI x,vB false],.row ks (bwX a b c (f.getD (q+0) (edflt ki)).1 t).1.1,.row ks (bwX a b c (f.getD (q+0) (edflt ki)).1 t).1.2.1,.row kl (bwX a b c (f.getD (q+0) (edflt ki)).1 t).1.2.2,.row ki f,.row ks a,.row ks b,.row kl c],[some 0,some 5,some 6,some 7,none]⟩)) False)) False) False) False):=by kernel_rfl
theorem h296:G1Ok Tryz.prog 296 g296:=by
  intro args obs k h
  unfold g296 at h
  split at h
  · rename_i k t x o a b c f
    obtain ⟨hf,hq,h⟩:=brb2 h
    rw [Bool.and_eq_true] at hq
    have hf:=of_decide_eq_true hf
    refine ⟨_,ctr_fn okr hg296 Tryz.func296 (by kernel_rfl) (by kernel_rfl) (by kernel_rfl) fun C => ?_,h⟩
    rw [e296,show ((f.length:Int) - 1).toNat=f.length - 1 by omega]
    refine br_yes ⟨by omega,by omega⟩ (br_yes ⟨by omega,by omega,by omega,by omega⟩ (br_t hq.1 (br_intro (fun h1=>br_t hq.2 ?_) (fun h1=>br_t hq.2 ?_))))
    · rw [h1,Bool.true_and]
      rfl
    · rw [h1,Bool.false_and]
      rfl
  · rename_i k t q r x o a b c f
    obtain ⟨hf,hq,h⟩:=brb2 h
    rw [Bool.and_eq_true] at hq
    have hf:=of_decide_eq_true hf
    refine ⟨_,ctr_fn okr hg296 Tryz.func296 (by kernel_rfl) (by kernel_rfl) (by kernel_rfl) fun C => ?_,h⟩
    rw [e296l,show ((r:Int) - 1).toNat=r - 1 by omega]
    refine br_yes ⟨by omega,by omega⟩ (br_yes ⟨by omega,by omega,by omega,by omega⟩ (br_t hq.1 (br_intro (fun h1=>br_t hq.2 ?_) (fun h1=>br_t hq.2 ?_))))
    · rw [h1,Bool.true_and]
      rfl
    · rw [h1,Bool.false_and]
      rfl
  · exact h.elim
set_option maxHeartbeats 1000000
def frm(a:ByteArray):ByteArray:=match strEq a ⟨#[]⟩ with
  | true=>⟨#[45]⟩
  | false=>a
def lnS(e:Elem kc):ByteArray:=⟨#[10]⟩++e.1++⟨#[32]⟩++dec e.2.1++⟨#[32]⟩++frm e.2.2.1++⟨#[32]⟩++ptrT (hom e).1 (hom e).2.1 (hom e).2.2.1
def lnP(e:Elem k3):ByteArray:=⟨#[10,46,32]⟩++ptrT e.1 e.2.1 e.2.2.1
def rtS(s:List (Elem kc)):ByteArray:=s.foldl (fun o e=>o++lnS e) ⟨#[114,111,111,116]⟩
def rtP(s:List (Elem kc))(p:List (Elem k3)):ByteArray:=p.foldl (fun o e=>o++lnP e) (rtS s)
def rootT(s:List (Elem kc))(p:List (Elem k3)):ByteArray:=match (allB s.length fun i=>setV (atC s i))&&(allB p.length fun i=>rOk (atP p i)) with
  | true=>rtP s p
  | false=>ByteArray.empty
def g165:G1
  | [.val (.string a)],[],k=>k ⟨.val (.string (frm a)),[],[]⟩
  | _,_,_=>False
def g95:G1
  | [.agg us],[],k=>match coreOf us with
    | some c=>br (smB' c) (k ⟨.val (.string (rootT c.2.1 c.2.2.2.1)),[],[]⟩) False
    | none=>False
  | _,_,_=>False
theorem ptrT_size(a b c:Int):(ptrT a b c).size≤1000000:=by
  unfold ptrT
  split
  · exact Nat.zero_le _
  · rename_i h1
    split
    · show 1≤1000000
      omega
    · obtain ⟨r1,r2,r3⟩:=ptr_range h1
      have s1:=dec_size (n:=a) (by omega) (by omega)
      have s2:=dec_size (n:=b) (by omega) (by omega)
      have s3:=dec_size (n:=c) (by omega) (by omega)
      rw [ByteArray.size_append,ByteArray.size_append,ByteArray.size_append,ByteArray.size_append]
      show (dec a).size+1+(dec b).size+1+(dec c).size≤_
      omega
theorem rtS_next(s:List (Elem kc)){i:Nat}(hi:i < s.length):rtS (s.take (i+1))=rtS (s.take i)++lnS (atC s i):=by
  unfold rtS
  rw [take_next s (edflt kc) hi,List.foldl_append]
  rfl
theorem rtP_next(s:List (Elem kc))(p:List (Elem k3)){i:Nat}(hi:i < p.length):rtP s (p.take (i+1))=rtP s (p.take i)++lnP (atP p i):=by
  unfold rtP
  rw [take_next p (edflt k3) hi,List.foldl_append]
  rfl
theorem root_s{s:List (Elem kc)}{p:List (Elem k3)}{i:Nat}(hi:i < s.length)(h:setV (atC s i)=false):rootT s p=ByteArray.empty:=by
  unfold rootT
  rw [allB_f (n:=s.length) (p:=fun i=>setV (atC s i)) hi h]
  rfl
theorem root_p{s:List (Elem kc)}{p:List (Elem k3)}{i:Nat}(hi:i < p.length)(h:rOk (atP p i)=false):rootT s p=ByteArray.empty:=by
  unfold rootT
  rw [allB_f (n:=p.length) (p:=fun i=>rOk (atP p i)) hi h,Bool.and_false]
theorem root_t{s:List (Elem kc)}{p:List (Elem k3)}(h1 : ∀ i,i < s.length→setV (atC s i)=true)(h2 : ∀ i,i < p.length→rOk (atP p i)=true):rootT s p=rtP s p:=by
  unfold rootT
  rw [allB_t h1,allB_t h2]
  rfl
theorem frm_size{a:ByteArray}(h:a.size≤1048576):(frm a).size≤1048576:=by
  unfold frm
  split
  · show 1≤_
    omega
  · exact h
theorem kd_sz(k:Int)(h:k=1∨k=2):1≤k∧k≤2∧(dec k).size≤2:=by
  have:=dec_size (n:=k) (by omega) (by omega)
  omega
theorem nameOk_sz6{a:ByteArray}(h:nameOk a=true):a.size≤6:=by
  unfold nameOk at h
  simp only [Bool.and_eq_true,decide_eq_true_eq] at h
  omega
theorem setV_szs{e:Elem kc}(h:setV e=true)(hs:smC e=true) : ∃ k:Int,k=e.2.1∧(1≤k∧k≤2∧(dec k).size≤2)∧e.1.size≤6∧(frm e.2.2.1).size≤1048576∧e.2.2.1.size≤1048576∧(ptrT (hom e).1 (hom e).2.1 (hom e).2.2.1).size≤1000000:=by
  unfold setV at h
  unfold smC at hs
  simp only [Bool.and_eq_true,Bool.or_eq_true,decide_eq_true_eq,beq_iff_eq] at h hs
  exact ⟨e.2.1,rfl,kd_sz _ h.1.1.2,nameOk_sz6 h.1.1.1.1,frm_size hs.2,hs.2,ptrT_size _ _ _⟩
noncomputable def G165:Gk:=gk []
theorem hg165:HG Tryz.prog G165:=hg_nil
theorem e165(L:Lp)(R:Rp)(a:ByteArray):(bodyP Ef G165 L Tryz.f165 [.val (.string a)] [] R)=(
    br (strEq a { data := #[] }) (R (some ⟨vS { data := #[45] },[],[]⟩)) (R (some ⟨vS a,[],[]⟩))):=by kernel_rfl
theorem h165:G1Ok Tryz.prog 165 g165:=by
  intro args obs k h
  unfold g165 at h
  split at h
  · rename_i k a
    refine ⟨_,ctr_fn okf hg165 Tryz.func165 (by kernel_rfl) (by kernel_rfl) (by kernel_rfl) fun C => ?_,h⟩
    rw [e165]
    refine br_intro (fun h => ?_) (fun h => ?_)<;>show _=_<;>unfold frm<;>rw [h]
  · exact h.elim
noncomputable def E95:Env:=Ef.of Tryz.f95
noncomputable def G95:Gk:=gk [(108,g108),(164,g164p),(165,g165),(166,g166),(109,g195)]
noncomputable def lp95(n:Nat):Code:=(loopOf n (codeOf Tryz.f95)).getD .skip
noncomputable def ct95(L:Lp)(R:Rp)(n:Nat):Kt:=contOf E95 G95 L n (codeOf Tryz.f95) (endK E95 Tryz.f95.results.toList R)
noncomputable def rk95(L:Lp)(R:Rp)(n:Nat)(N:St→Prop):Kt:=rk (jof E95 (lp95 n)) N (ct95 L R n)
noncomputable def LOOP95(L:Lp)(R:Rp)(n:Nat)(st:St):Prop:=L (lp95 n) st (ct95 L R n)
theorem hg95:HG Tryz.prog G95:=(hg_cons h108 (hg_cons h164p (hg_cons h165 (hg_cons h166 (hg_cons h109 hg_nil)))))
theorem okf95:Ok Tryz.prog E95:=okf.of Tryz.f95
theorem e95(L:Lp)(R:Rp)(x:Int)(s:List (Elem kc))(d p:List (Elem k3))(b:Bool)(f:List (Elem ki))(n:Int):(bodyP Ef G95 L Tryz.f95 [coreAV x s d p b f n] [] R)=(
    LOOP95 L R 3 ⟨[vJ,.ptr 0 0,vJ,vS { data := #[114,111,111,116] },vI 0,vJ,vJ,vJ,vJ,vJ,vJ,vJ,vJ,vJ,vJ,vJ,vJ,vJ,vJ,vJ,vJ,vJ,vJ,vJ,vJ,vJ,vJ,vJ,vJ,vJ,vJ,vJ,vJ,vJ,vJ,vJ,vJ,vJ,vJ,vJ,vJ,vJ,vJ,vJ,vJ,vJ,vJ,vJ,vJ,vJ,vJ,vJ,vJ,vJ,vJ,vJ,vJ,vJ,vJ,vJ,vJ,vJ,vJ,vJ,vJ,vJ,vJ,vJ,vJ,vJ,vJ,vJ,vJ,vJ,vJ],[(0,.box [vI x,.rsl kc s,.rsl k3 d,.rsl k3 p,vB b,.rsl ki f,vI n])],1000000,[]⟩):=by kernel_rfl
def st95(x:Int)(s:List (Elem kc))(d p:List (Elem k3))(b:Bool)(f:List (Elem ki))(n:Int)(o:ByteArray)(i:Int):St :=  ⟨(vJ :: AV.ptr 0 0 :: vJ :: .val (.string o) :: .val (.int .i64 i) :: jn 70 []),[(0,AO.box [vI x,AV.rsl kc s,AV.rsl k3 d,AV.rsl k3 p,vB b,AV.rsl ki f,vI n])],1000000,[]⟩
theorem b95(L:Lp)(R:Rp)(N:St→Prop)(x:Int)(s:List (Elem kc))(d p:List (Elem k3))(b:Bool)(f:List (Elem ki))(n:Int)(o:ByteArray)(i:Int):(evP E95 G95 L (lp95 3) (st95 x s d p b f n o i) (rk95 L R 3 N))=(
    br (decide (i < (↑s.length:Int))) (br (decide (0≤i∧i < (↑s.length:Int))) (br (smC (s.getD i.toNat (edflt kc))) (br (!setV (s.getD i.toNat (edflt kc))) (R (some ⟨vS { data := #[] },[],[]⟩)) (br (decide (o.size+1≤9223372036854775807)) (br (decide ((o ++ { data := #[10] }).size+ByteArray.size (s.getD i.toNat (edflt kc)).1≤9223372036854775807)) (br (decide ((o ++ { data := #[10] }++(s.getD i.toNat (edflt kc)).1).size+1≤9223372036854775807)) (br (decide (0≤(s.getD i.toNat (edflt kc)).2.1∧(s.getD i.toNat (edflt kc)).2.1≤9223372036854775807)) (br (decide ((o ++ { data := #[10] }++(s.getD i.toNat (edflt kc)).1 ++ { data := #[32] }).size+(dec (s.getD i.toNat (edflt kc)).2.1).size≤9223372036854775807)) (br (decide ((o ++ { data := #[10] }++(s.getD i.toNat (edflt kc)).1 ++ { data := #[32] }++dec (s.getD i.toNat (edflt kc)).2.1).size+1≤9223372036854775807)) (br (decide ((o ++ { data := #[10] }++(s.getD i.toNat (edflt kc)).1 ++ { data := #[32] }++dec (s.getD i.toNat (edflt kc)).2.1 ++ { data := #[32] }).size+(frm (s.getD i.toNat (edflt kc)).2.2.1).size≤9223372036854775807)) (br (decide ((o ++ { data := #[10] }++(s.getD i.toNat (edflt kc)).1 ++ { data := #[32] }++dec (s.getD i.toNat (edflt kc)).2.1 ++ { data := #[32] }++frm (s.getD i.toNat (edflt kc)).2.2.1).size+1≤9223372036854775807)) (br (decide ((o ++ { data := #[10] }++(s.getD i.toNat (edflt kc)).1 ++ { data := #[32] }++dec (s.getD i.toNat (edflt kc)).2.1 ++ { data := #[32] }++frm (s.getD i.toNat (edflt kc)).2.2.1 ++ { data := #[32] }).size+(ptrT (s.getD i.toNat (edflt kc)).2.2.2.2.2.2.2.2.2.2.2.2.2.2.2.2.2.2.2.2.2.2.2.2.2.2.2.1 (s.getD i.toNat (edflt kc)).2.2.2.2.2.2.2.2.2.2.2.2.2.2.2.2.2.2.2.2.2.2.2.2.2.2.2.2.1 (s.getD i.toNat (edflt kc)).2.2.2.2.2.2.2.2.2.2.2.2.2.2.2.2.2.2.2.2.2.2.2.2.2.2.2.2.2.1).size≤9223372036854775807)) (N (st95 x s d p b f n (o ++ { data := #[10] }++(s.getD i.toNat (edflt kc)).1 ++ { data := #[32] }++dec (s.getD i.toNat (edflt kc)).2.1 ++ { data := #[32] }++frm (s.getD i.toNat (edflt kc)).2.2.1 ++ { data := #[32] }++ptrT (s.getD i.toNat (edflt kc)).2.2.2.2.2.2.2.2.2.2.2.2.2.2.2.2.2.2.2.2.2.2.2.2.2.2.2.1 (s.getD i.toNat (edflt kc)).2.2.2.2.2.2.2.2.2.2.2.2.2.2.2.2.2.2.2.2.2.2.2.2.2.2.2.2.1 (s.getD i.toNat (edflt kc)).2.2.2.2.2.2.2.2.2.2.2.2.2.2.2.2.2.2.2.2.2.2.2.2.2.2.2.2.2.1) (IntKind.i64.wrap (i+1)))) False) False) False) False) False) False) False) False) False)) False) False) (LOOP95 L R 10 ⟨(vJ :: .ptr 0 0 :: vJ :: vS o :: vJ :: vJ :: vI 0 :: jn 68 []),[(0,.box [vI x,.rsl kc s,.rsl k3 d,.rsl k3 p,vB b,.rsl ki f,vI n])],1000000,[]⟩)):=by kernel_rfl
def sp22(x:Int)(s:List (Elem kc))(d p:List (Elem k3))(b:Bool)(f:List (Elem ki))(n:Int)(o:ByteArray)(i:Int):St :=  ⟨(vJ :: AV.ptr 0 0 :: vJ :: .val (.string o) :: vJ :: vJ :: .val (.int .i64 i) :: jn 68 []),[(0,AO.box [vI x,AV.rsl kc s,AV.rsl k3 d,AV.rsl k3 p,vB b,AV.rsl ki f,vI n])],1000000,[]⟩
theorem bp22(L:Lp)(R:Rp)(N:St→Prop)(x:Int)(s:List (Elem kc))(d p:List (Elem k3))(b:Bool)(f:List (Elem ki))(n:Int)(o:ByteArray)(i:Int):(evP E95 G95 L (lp95 10) (sp22 x s d p b f n o i) (rk95 L R 10 N))=(
    br (decide (i < (↑p.length:Int))) (br (decide (0≤i∧i < (↑p.length:Int))) (br (!ptrOk (p.getD i.toNat (edflt k3)).1 (p.getD i.toNat (edflt k3)).2.1 (p.getD i.toNat (edflt k3)).2.2.1) (R (some ⟨vS { data := #[] },[],[]⟩)) (br (decide (0≤i∧i < (↑p.length:Int))) (br ((p.getD i.toNat (edflt k3)).1==0) (R (some ⟨vS { data := #[] },[],[]⟩)) (br (decide (o.size+3≤9223372036854775807)) (br (decide (0≤i∧i < (↑p.length:Int))) (br (decide ((o ++ { data := #[10,46,32] }).size+(ptrT (p.getD i.toNat (edflt k3)).1 (p.getD i.toNat (edflt k3)).2.1 (p.getD i.toNat (edflt k3)).2.2.1).size≤9223372036854775807)) (N (sp22 x s d p b f n (o ++ { data := #[10,46,32] }++ptrT (p.getD i.toNat (edflt k3)).1 (p.getD i.toNat (edflt k3)).2.1 (p.getD i.toNat (edflt k3)).2.2.1) (IntKind.i64.wrap (i+1)))) False) False) False)) False)) False) (R (some ⟨vS o,[],[]⟩))):=by kernel_rfl
theorem h95:G1Ok Tryz.prog 95 g95:=by
  intro args obs k h
  unfold g95 at h
  split at h
  · rename_i k us
    split at h
    rotate_left
    · exact h.elim
    rename_i c hc
    obtain rfl:=coreOf_inv hc
    obtain ⟨x,s,d,p,b,f,n⟩:=c
    obtain ⟨hpp,h⟩:=br_and h
    unfold smB' at hpp
    rw [Bool.and_eq_true] at hpp
    obtain ⟨hp,hcs⟩:=hpp
    have hcs:smCs s=true:=hcs
    have hl:=smCo_s hp
    have hpl:=smCo_p hp
    have c1:(⟨#[10]⟩:ByteArray).size=1:=rfl
    have c2:(⟨#[32]⟩:ByteArray).size=1:=rfl
    have c3:(⟨#[10,46,32]⟩:ByteArray).size=3:=rfl
    have c4:(⟨#[45]⟩:ByteArray).size=1:=rfl
    refine ⟨_,ctr_fn okf hg95 Tryz.func95 (by kernel_rfl) (by kernel_rfl) (by kernel_rfl) fun C => ?_,h⟩
    show bodyP Ef G95 _ Tryz.f95 [coreAV x s d p b f n] [] _
    rw [e95]
    refine loopUp okf95 hg95 (fun i o=>st95 x s d p b f n o i) s.length (fun i o=>o=rtS (s.take i)∧(∀ q,q < i→setV (atC s q)=true)∧o.size≤4+i * 3000000) (fun N i o hi ⟨ho,hall,hz⟩ next => ?_) _ ⟨rfl,fun q hq=>by omega,by show 4≤_; omega⟩
    show evP E95 G95 _ (lp95 3) (st95 x s d p b f n o i) (rk95 _ _ 3 _)
    rw [b95,Int.toNat_natCast,wrap_id (n:=(i:Int)+1) (by omega) (by omega)]
    refine br_dec (fun h2=>br_yes ⟨by omega,h2⟩ (br_t (smCs_at hcs (by omega)) (br_not (fun h3 => ?_) (fun h3 => ?_)))) (fun h2 => ?_)
    · show _=_
      rw [root_s (p:=p) (by omega) h3]
      rfl
    · have hq:=setV_szs h3 (smCs_at hcs (by omega))
      have hn:=rtS_next s (i:=i) (by omega)
      unfold lnS at hn
      unfold hom at hq hn
      simp only [atC] at hq hn
      generalize s.getD i (edflt kc)=e at hq hn ⊢
      obtain ⟨k,hk,⟨q2,q2',q5⟩,q1,q3,q4,q6⟩:=hq
      rw [← hk] at hn ⊢
      refine br_yes (by omega) (br_yes (by simp only [ByteArray.size_append,c1,c2,c3,c4]; omega) (br_yes (by simp only [ByteArray.size_append,c1,c2,c3,c4]; omega) (br_yes (by subst hk; exact ⟨Int.le_trans (by decide) q2,Int.le_trans q2' (by decide)⟩) (br_yes (by simp only [ByteArray.size_append,c1,c2,c3,c4]; omega) (br_yes (by simp only [ByteArray.size_append,c1,c2,c3,c4]; omega) (br_yes (by simp only [ByteArray.size_append,c1,c2,c3,c4]; omega) (br_yes (by simp only [ByteArray.size_append,c1,c2,c3,c4]; omega) (br_yes (by simp only [ByteArray.size_append,c1,c2,c3,c4]; omega) ?_))))))))
      · exact next (by omega) _ ⟨by rw [hn,← ho]; simp only [ByteArray.append_assoc],fun q hq=>by
          by_cases e:q < i
          · exact hall q e
          · have:q=i:=by omega
            rw [this]
            exact h3,by simp only [ByteArray.size_append,c1,c2]; omega⟩
    · have hi':i=s.length:=by omega
      rw [hi',List.take_length] at ho
      have hz:o.size≤3145728000004:=by omega
      have hall : ∀ q,q < s.length→setV (atC s q)=true:=fun q hq=>hall q (by omega)
      refine loopUp okf95 hg95 (fun i o=>sp22 x s d p b f n o i) p.length (fun i o=>o=rtP s (p.take i)∧(∀ q,q < i→rOk (atP p q)=true)∧o.size≤3145728000004+i * 1000010) (fun N i o hi ⟨ho,hall2,hz⟩ next => ?_) _ ⟨ho,fun q hq=>by omega,by show o.size≤3145728000004+0 * 1000010; omega⟩
      show evP E95 G95 _ (lp95 10) (sp22 x s d p b f n o i) (rk95 _ _ 10 _)
      rw [bp22,Int.toNat_natCast,wrap_id (n:=(i:Int)+1) (by omega) (by omega)]
      have q6:(ptrT (p.getD i (edflt k3)).1 (p.getD i (edflt k3)).2.1 (p.getD i (edflt k3)).2.2.1).size≤1000000:=ptrT_size _ _ _
      refine br_dec (fun h2=>br_yes ⟨by omega,h2⟩ (br_not (fun h3 => ?_) (fun h3=>br_yes ⟨by omega,h2⟩ (br_intro (fun h4 => ?_) (fun h4=>br_yes (by omega) (br_yes ⟨by omega,h2⟩ (br_yes ?_ ?_))))))) (fun h2 => ?_)
      · show _=_
        rw [root_p (s:=s) (p:=p) (i:=i) (by omega) (by unfold rOk realP; rw [show ptrOk (atP p i).1 (atP p i).2.1 (atP p i).2.2.1=false from h3]; rfl)]
        rfl
      · show _=_
        rw [root_p (s:=s) (p:=p) (i:=i) (by omega) (by unfold rOk realP bne; rw [show ((atP p i).1==0)=true from h4]; simp)]
        rfl
      · simp only [ByteArray.size_append,c3]
        omega
      · refine next (by omega) _ ⟨by rw [rtP_next s p (by omega),← ho]; unfold lnP; simp only [ByteArray.append_assoc],fun q hq=>by
          by_cases e:q < i
          · exact hall2 q e
          · have:q=i:=by omega
            rw [this]
            unfold rOk realP bne
            rw [show ptrOk (atP p i).1 (atP p i).2.1 (atP p i).2.2.1=true from h3,show ((atP p i).1==0)=false from h4]
            rfl,by simp only [ByteArray.size_append,c3]; omega⟩
      · have hi':i=p.length:=by omega
        rw [hi',List.take_length] at ho
        show _=_
        rw [root_t (s:=s) (p:=p) hall (fun q hq=>hall2 q (by omega)),ho]
  · exact h.elim
end Go.Proofs.YtkjnijddbiconaaGreatDoor.Ev