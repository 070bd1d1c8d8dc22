/- Disks that are written. -/
import Derived.Test.YtkjnijddbiconaaGreatDoorWA
import Derived.Test.YtkjnijddbiconaaGreatDoorShelf
import Derived.Shelf.Strings.SlTrimAscii
namespace Go.Proofs.YtkjnijddbiconaaGreatDoor.Ev
open Go
set_option linter.unusedVariables false
set_option linter.unusedSimpArgs false
set_option maxRecDepth 100000
def g227:G1
  | [.agg [.rsl [.str] a,.rsl [.str] b,.rsl [.int .i64,.int .i64,.str] c]],[],k=>br (smD a b c) (k ⟨.agg [.ows 0,.ows 1,.ows 2],[.row ks a,.row ks b,.row kl c],[]⟩) False
  | _,_,_=>False
def g187:G1
  | [.val (.int .i64 n)],[],k=>br (decide (1≤n∧n≤120)) (k ⟨.agg [.ows 0,.ows 1,.ows 2],[.row ks (List.replicate n.toNat (edflt ks)),.row ks (List.replicate n.toNat (edflt ks)),.row kl []],[]⟩) False
  | _,_,_=>False
noncomputable def G227:Gk:=gk []
theorem hg227:HG Tryz.prog G227:=hg_nil
theorem e227(L:Lp)(R:Rp)(a b:List (Elem ks))(c:List (Elem kl)):(bodyP E0 G227 L Tryz.f227 [.agg [.rsl ks a,.rsl ks b,.rsl kl c]] [] R)=(
    br (decide ((0+a.length) * 16≤140737488355328)) (br (decide ((0+b.length) * 16≤140737488355328)) (br (decide ((0+c.length) * 32≤140737488355328)) (R (some ⟨.agg [.ows 0,.ows 1,.ows 2],[.row ks ([]++a),.row ks ([]++b),.row kl ([]++c)],[]⟩)) False) False) False):=by kernel_rfl
theorem h227:G1Ok Tryz.prog 227 g227:=by
  intro args obs k h
  unfold g227 at h
  split at h
  · rename_i k a b c
    obtain ⟨hp,h⟩:=br_and h
    simp only [smD,Bool.and_eq_true,decide_eq_true_eq] at hp
    refine ⟨_,ctr_fn ok0 hg227 Tryz.func227 (by kernel_rfl) (by kernel_rfl) (by kernel_rfl) fun C => ?_,h⟩
    rw [e227]
    exact br_yes (by omega) (br_yes (by omega) (br_yes (by omega) rfl))
  · exact h.elim
noncomputable def G187:Gk:=gk []
theorem hg187:HG Tryz.prog G187:=hg_nil
theorem e187(L:Lp)(R:Rp)(n:Int):(bodyP E0 G187 L Tryz.f187 [.val (.int .i64 n)] [] R)=(
    br (decide (n < 1)) (R (some ⟨.agg [.ows 0,.ows 1,.ows 2],[.row ks [],.row ks [],.row kl []],[]⟩)) (br (decide (n > 120)) (R (some ⟨.agg [.ows 0,.ows 1,.ows 2],[.row ks [],.row ks [],.row kl []],[]⟩)) (br (decide (0≤n∧n≤n∧16 * n≤281474976710656)) (br (decide (0≤n∧n≤n∧16 * n≤281474976710656)) (R (some ⟨.agg [.ows 0,.ows 1,.ows 2],[.row ks (List.replicate n.toNat (edflt ks)),.row ks (List.replicate n.toNat (edflt ks)),.row kl []],[]⟩)) False) False))):=by kernel_rfl
theorem h187:G1Ok Tryz.prog 187 g187:=by
  intro args obs k h
  unfold g187 at h
  split at h
  · rename_i k n
    obtain ⟨hn,h⟩:=brd h
    refine ⟨_,ctr_fn ok0 hg187 Tryz.func187 (by kernel_rfl) (by kernel_rfl) (by kernel_rfl) fun C => ?_,h⟩
    rw [e187]
    exact br_no (by omega) (br_no (by omega) (br_yes (by omega) (br_yes (by omega) rfl)))
  · exact h.elim
def ptrOk(a b c:Int):Bool:=(a==0&&b==0&&c==0) || (decide (a > 0)&&decide (a < 120)&&decide (b≥0)&&decide (b < 65521)&&decide (c≥0)&&decide (c≤1000000))
def pOk(e:Elem k3):Bool:=ptrOk e.1 e.2.1 e.2.2.1
def g195:G1
  | [.agg [.val (.int .i64 a),.val (.int .i64 b),.val (.int .i64 c)]],[],k=>k ⟨.val (.bool (ptrOk a b c)),[],[]⟩
  | _,_,_=>False
noncomputable def G195:Gk:=gk [(129,g129)]
theorem hg195:HG Tryz.prog G195:=(hg_cons h129 hg_nil)
theorem e195(L:Lp)(R:Rp)(a b c:Int):(bodyP E0 G195 L Tryz.f195 [.agg [.val (.int .i64 a),.val (.int .i64 b),.val (.int .i64 c)]] [] R)=(
    br (elemEq k3 (a,b,c,()) (0,0,0,())) (R (some ⟨vB true,[],[]⟩)) (br (decide (1≤a)&&decide (a≤119)) (br (decide (0≤b)&&decide (b≤65520)) (R (some ⟨vB (decide (0≤c)&&decide (c≤1000000)),[],[]⟩)) (R (some ⟨vB false,[],[]⟩))) (R (some ⟨vB false,[],[]⟩)))):=by kernel_rfl
theorem h195:G1Ok Tryz.prog 195 g195:=by
  intro args obs k h
  unfold g195 at h
  split at h
  · rename_i k a b c
    refine ⟨_,ctr_fn ok0 hg195 Tryz.func195 (by kernel_rfl) (by kernel_rfl) (by kernel_rfl) fun C => ?_,h⟩
    rw [e195]
    refine br_intro (fun h => ?_) (fun h=>br_intro (fun h2=>br_intro (fun h3 => ?_) (fun h3 => ?_)) (fun h2 => ?_))
    all_goals simp [ptrOk,elemEq,ckEq] at *
    all_goals grind
  · exact h.elim
noncomputable def G109:Gk:=gk []
theorem hg109:HG Tryz.prog G109:=hg_nil
theorem e109(L:Lp)(R:Rp)(a b c:Int):(bodyP E0 G109 L Tryz.f109 [.agg [.val (.int .i64 a),.val (.int .i64 b),.val (.int .i64 c)]] [] R)=(
    br (a==0) (R (some ⟨vB (elemEq k3 (a,b,c,()) (0,0,0,())),[],[]⟩)) (br (decide (a > 0)) (br (decide (a < 120)) (br (decide (b≥0)) (br (decide (b < 65521)) (br (decide (c≥0)) (R (some ⟨vB (decide (c≤1000000)),[],[]⟩)) (R (some ⟨vB false,[],[]⟩))) (R (some ⟨vB false,[],[]⟩))) (R (some ⟨vB false,[],[]⟩))) (R (some ⟨vB false,[],[]⟩))) (R (some ⟨vB false,[],[]⟩)))):=by kernel_rfl
theorem h109:G1Ok Tryz.prog 109 g195:=by
  intro args obs k h
  unfold g195 at h
  split at h
  · rename_i k a b c
    refine ⟨_,ctr_fn ok0 hg109 Tryz.func109 (by kernel_rfl) (by kernel_rfl) (by kernel_rfl) fun C => ?_,h⟩
    rw [e109]
    repeat' (first | refine br_intro (fun h => ?_) (fun h => ?_))
    all_goals simp [ptrOk,elemEq,ckEq] at *
    all_goals grind
  · exact h.elim
def realP(a b c:Int):Bool:=ptrOk a b c&&(a != 0)
def g121:G1
  | [.agg [.val (.int .i64 a),.val (.int .i64 b),.val (.int .i64 c)]],[],k=>k ⟨.val (.bool (realP a b c)),[],[]⟩
  | _,_,_=>False
noncomputable def G121:Gk:=gk [(195,g195)]
theorem hg121:HG Tryz.prog G121:=(hg_cons h195 hg_nil)
theorem e121(L:Lp)(R:Rp)(a b c:Int):(bodyP E0 G121 L Tryz.f121 [.agg [.val (.int .i64 a),.val (.int .i64 b),.val (.int .i64 c)]] [] R)=(
    br (ptrOk a b c) (R (some ⟨vB (a != 0),[],[]⟩)) (R (some ⟨vB false,[],[]⟩))):=by kernel_rfl
theorem h121:G1Ok Tryz.prog 121 g121:=by
  intro args obs k h
  unfold g121 at h
  split at h
  · rename_i k a b c
    refine ⟨_,ctr_fn ok0 hg121 Tryz.func121 (by kernel_rfl) (by kernel_rfl) (by kernel_rfl) fun C => ?_,h⟩
    rw [e121]
    refine br_intro (fun h => ?_) (fun h => ?_)<;>show _=_<;>unfold realP<;>rw [h]<;>rfl
  · exact h.elim
theorem realP_gt{x y z:Int}(h:ptrOk x y z=true):realP x y z=decide (x > 0):=by
  unfold realP
  rw [h,Bool.true_and]
  simp only [ptrOk,Bool.or_eq_true,Bool.and_eq_true,decide_eq_true_eq,beq_iff_eq] at h
  rw [Bool.eq_iff_iff]
  simp only [bne_iff_ne,decide_eq_true_eq]
  omega
theorem ptr_range{a b c:Int}(h:ptrOk a b c=true):(0≤a∧a≤120)∧(0≤b∧b≤65520)∧(0≤c∧c≤1000000):=by
  simp only [ptrOk,Bool.or_eq_true,Bool.and_eq_true,decide_eq_true_eq,beq_iff_eq] at h
  omega
def within(a b c:Int):Bool:=decide (b≤a)&&decide (a≤c)
def entryOk(a:Elem k3):Bool:=within a.1 0 65520&&within a.2.1 1 119&&within a.2.2.1 1 1000
def g186:G1
  | [.agg [.val (.int .i64 a),.val (.int .i64 b),.val (.int .i64 c)]],[],k=>k ⟨.val (.bool (entryOk (a,b,c,()))),[],[]⟩
  | _,_,_=>False
def at3(xs:List (Elem k3))(i:Nat):Elem k3:=xs.getD i (edflt k3)
def okAt(xs:List (Elem k3))(i:Nat):Bool:=entryOk (at3 xs i)&&(i==0 || decide ((at3 xs (i - 1)).2.1 < (at3 xs i).2.1))
def ddtOk(xs:List (Elem k3)):Bool:=decide (xs.length≤48)&&(List.range xs.length).all (okAt xs)
def g112:G1
  | [.rsl [.int .i64,.int .i64,.int .i64] xs],[],k=>br (decide (xs.length≤1048576)) (k ⟨.val (.bool (ddtOk xs)),[],[]⟩) False
  | _,_,_=>False
theorem e50(L:Lp)(R:Rp)(xs:List (Elem k3))(l:Int):(bodyP E0 (gk []) L Tryz.f50 [.rsl k3 xs,.val (.int .i64 l)] [] R)=(
    br (decide (IntKind.i64.wrap (l - (↑xs.length:Int)) < 0)) (R (some ⟨vI (-1),[],[]⟩)) (R (some ⟨vI (IntKind.i64.wrap (l - (↑xs.length:Int))),[],[]⟩))):=by kernel_rfl
theorem e186(L:Lp)(R:Rp)(a b c:Int):(bodyP E0 (gk [(129,g129)]) L Tryz.f186 [.agg [.val (.int .i64 a),.val (.int .i64 b),.val (.int .i64 c)]] [] R)=(
    br (decide (0≤a)&&decide (a≤65520)) (br (decide (1≤b)&&decide (b≤119)) (R (some ⟨vB (decide (1≤c)&&decide (c≤1000)),[],[]⟩)) (R (some ⟨vB false,[],[]⟩))) (R (some ⟨vB false,[],[]⟩))):=by kernel_rfl
theorem e120(L:Lp)(R:Rp)(a b c:Int):(bodyP E0 (gk []) L Tryz.f120 [.agg [.val (.int .i64 a),.val (.int .i64 b),.val (.int .i64 c)]] [] R)=(
    br (decide (a≥0)) (br (decide (a < 65521)) (br (decide (b≥1)) (br (decide (b < 120)) (br (decide (c≥1)) (R (some ⟨vB (decide (c≤1000)),[],[]⟩)) (R (some ⟨vB false,[],[]⟩))) (R (some ⟨vB false,[],[]⟩))) (R (some ⟨vB false,[],[]⟩))) (R (some ⟨vB false,[],[]⟩))) (R (some ⟨vB false,[],[]⟩))):=by kernel_rfl
theorem h186:G1Ok Tryz.prog 186 g186:=by
  intro args obs k h
  unfold g186 at h
  split at h
  · refine ⟨_,ctr_fn ok0 (hg_cons h129 hg_nil) Tryz.func186 (by kernel_rfl) (by kernel_rfl) (by kernel_rfl) fun C => ?_,h⟩
    rw [e186]
    repeat' (first | refine br_intro (fun h => ?_) (fun h => ?_))
    all_goals simp [entryOk,within] at *
    all_goals grind
  · exact h.elim
theorem h120:G1Ok Tryz.prog 120 g186:=by
  intro args obs k h
  unfold g186 at h
  split at h
  · refine ⟨_,ctr_fn ok0 hg_nil Tryz.func120 (by kernel_rfl) (by kernel_rfl) (by kernel_rfl) fun C => ?_,h⟩
    rw [e120]
    repeat' (first | refine br_intro (fun h => ?_) (fun h => ?_))
    all_goals simp [entryOk,within] at *
    all_goals grind
  · exact h.elim
noncomputable def E46:Env:=E0.of Tryz.f46
noncomputable def G46:Gk:=gk [(120,g186)]
noncomputable def lp46(n:Nat):Code:=(loopOf n (codeOf Tryz.f46)).getD .skip
noncomputable def ct46(L:Lp)(R:Rp)(n:Nat):Kt:=contOf E46 G46 L n (codeOf Tryz.f46) (endK E46 Tryz.f46.results.toList R)
noncomputable def rk46(L:Lp)(R:Rp)(n:Nat)(N:St→Prop):Kt:=rk (jof E46 (lp46 n)) N (ct46 L R n)
noncomputable def LOOP46(L:Lp)(R:Rp)(n:Nat)(st:St):Prop:=L (lp46 n) st (ct46 L R n)
theorem hg46:HG Tryz.prog G46:=(hg_cons h120 hg_nil)
theorem okf46:Ok Tryz.prog E46:=ok0.of Tryz.f46
theorem e46(L:Lp)(R:Rp)(xs:List (Elem k3)):(bodyP E0 G46 L Tryz.f46 [.rsl k3 xs] [] R)=(
    br (decide ((↑xs.length:Int) > 48)) (R (some ⟨vB false,[],[]⟩)) (LOOP46 L R 4 ⟨(.rsl k3 xs :: vU :: vB false :: vI 0 :: jn 33 []),[],1000000,[]⟩)):=by kernel_rfl
def st46(xs:List (Elem k3))(i:Int):St :=  ⟨(AV.rsl k3 xs :: vU :: vB false :: .val (.int .i64 i) :: jn 33 []),[],1000000,[]⟩
theorem b46(L:Lp)(R:Rp)(N:St→Prop)(xs:List (Elem k3))(i:Int):(evP E46 G46 L (lp46 4) (st46 xs i) (rk46 L R 4 N))=(
    br (decide (i < (↑xs.length:Int))) (br (decide (0≤i∧i < (↑xs.length:Int))) (br (!entryOk (xs.getD i.toNat (edflt k3))) (R (some ⟨vB false,[],[]⟩)) (br (decide (i > 0)) (br (decide (0≤i∧i < (↑xs.length:Int))) (br (decide (0≤IntKind.i64.wrap (i - 1)∧IntKind.i64.wrap (i - 1) < (↑xs.length:Int))) (br (decide ((xs.getD i.toNat (edflt k3)).2.1≤(xs.getD (IntKind.i64.wrap (i - 1)).toNat (edflt k3)).2.1)) (R (some ⟨vB false,[],[]⟩)) (N (st46 xs (IntKind.i64.wrap (i+1))))) False) False) (N (st46 xs (IntKind.i64.wrap (i+1)))))) False) (R (some ⟨vB true,[],[]⟩))):=by kernel_rfl
noncomputable def E112:Env:=E0.of Tryz.f112
noncomputable def G112:Gk:=gk [(186,g186)]
noncomputable def lp112(n:Nat):Code:=(loopOf n (codeOf Tryz.f112)).getD .skip
noncomputable def ct112(L:Lp)(R:Rp)(n:Nat):Kt:=contOf E112 G112 L n (codeOf Tryz.f112) (endK E112 Tryz.f112.results.toList R)
noncomputable def rk112(L:Lp)(R:Rp)(n:Nat)(N:St→Prop):Kt:=rk (jof E112 (lp112 n)) N (ct112 L R n)
noncomputable def LOOP112(L:Lp)(R:Rp)(n:Nat)(st:St):Prop:=L (lp112 n) st (ct112 L R n)
theorem hg112:HG Tryz.prog G112:=(hg_cons h186 hg_nil)
theorem okf112:Ok Tryz.prog E112:=ok0.of Tryz.f112
theorem e112(L:Lp)(R:Rp)(xs:List (Elem k3)):(bodyP E0 G112 L Tryz.f112 [.rsl k3 xs] [] R)=(
    LOOP112 L R 2 ⟨(.rsl k3 xs :: vU :: vB false :: vJ :: vJ :: .rsl k3 xs :: vI (↑xs.length:Int) :: vI 0 :: jn 23 ([vU,vU,vU])),[],1000000,[]⟩):=by kernel_rfl
def st112(xs:List (Elem k3))(i:Int):St :=  ⟨(AV.rsl k3 xs :: vU :: vB false :: vJ :: vJ :: AV.rsl k3 xs :: vI (↑xs.length:Int) :: .val (.int .i64 i) :: jn 23 ([vU,vU,vU])),[],1000000,[]⟩
theorem b112(L:Lp)(R:Rp)(N:St→Prop)(xs:List (Elem k3))(i:Int):(evP E112 G112 L (lp112 2) (st112 xs i) (rk112 L R 2 N))=(
    br (decide (i < (↑xs.length:Int))) (br (decide (0≤i∧i < (↑xs.length:Int))) (br (!entryOk (xs.getD i.toNat (edflt k3))) (R (some ⟨vB false,[],[]⟩)) (br (decide (i > 0)) (br (decide (0≤IntKind.i64.wrap (i - 1)∧IntKind.i64.wrap (i - 1) < (↑xs.length:Int))) (br (decide ((xs.getD (IntKind.i64.wrap (i - 1)).toNat (edflt k3)).2.1≥(xs.getD i.toNat (edflt k3)).2.1)) (R (some ⟨vB false,[],[]⟩)) (N ⟨(.rsl k3 xs :: vU :: vB false :: vJ :: vJ :: .rsl k3 xs :: vI (↑xs.length:Int) :: vI (IntKind.i64.wrap (i+1)) :: jn 23 ([vU,vU,vU])),[],1000000,[]⟩)) False) (N ⟨(.rsl k3 xs :: vU :: vB false :: vJ :: vJ :: .rsl k3 xs :: vI (↑xs.length:Int) :: vI (IntKind.i64.wrap (i+1)) :: jn 23 ([vU,vU,vU])),[],1000000,[]⟩))) False) (R (some ⟨vB (decide ((↑xs.length:Int)≤48)),[],[]⟩))):=by kernel_rfl
theorem h112:G1Ok Tryz.prog 112 g112:=by
  intro args obs k h
  unfold g112 at h
  split at h
  · rename_i k xs
    obtain ⟨hlen,h⟩:=br_and h
    simp at hlen
    refine ⟨_,ctr_fn ok0 hg112 Tryz.func112 (by kernel_rfl) (by kernel_rfl) (by kernel_rfl) fun C => ?_,h⟩
    rw [e112]
    exact loopR okf112 hg112 (ι := {i:Int // 0≤i∧i≤xs.length ∧ ∀ j:Nat,(j:Int) < i→okAt xs j=true}) (fun i=>st112 xs i.1) (fun i=>(xs.length - i.1).toNat) (fun ⟨i,h0,h1,hall⟩=>by
      show evP E112 G112 _ (lp112 2) (st112 xs i) (rk112 _ _ 2 _)
      rw [b112]
      have hw1:IntKind.i64.wrap (i+1)=i+1:=wrap_id (by omega) (by omega)
      have hw2:IntKind.i64.wrap (i - 1)=i - 1:=wrap_id (by omega) (by omega)
      rw [hw1,hw2]
      refine br_intro (fun h2 => ?_) (fun h2 => ?_)
      · simp at h2
        have hi:((i.toNat:Nat):Int)=i:=by omega
        have bad:okAt xs i.toNat=false→ddtOk xs=false:=by
          intro hb
          have:(List.range xs.length).all (okAt xs)=false:=by
            rw [List.all_eq_false]
            exact ⟨i.toNat,by simp; omega,by simp [hb]⟩
          simp [ddtOk,this]
        have next:okAt xs i.toNat=true → ∃ j : {i:Int // 0≤i∧i≤xs.length ∧ ∀ j:Nat,(j:Int) < i→okAt xs j=true},st112 xs (i+1)=st112 xs j.1∧(xs.length - j.1).toNat < (xs.length - i).toNat:=by
          intro hok
          refine ⟨⟨i+1,by omega,by omega,fun j hj => ?_⟩,rfl,by show (xs.length - (i+1)).toNat < _; omega⟩
          by_cases e:(j:Int) < i
          · exact hall j e
          · have:j=i.toNat:=by omega
            rw [this]; exact hok
        refine br_intro (fun _ => ?_) (fun h3=>by simp at h3; omega)
        refine br_intro (fun h3 => ?_) (fun h3 => ?_)
        · show _=_
          rw [bad (by unfold okAt at3; simp at h3; simp [h3])]
        · simp at h3
          refine br_intro (fun h4 => ?_) (fun h4 => ?_)
          · simp at h4
            have hj:(i - 1).toNat=i.toNat - 1:=by omega
            have hne : ¬ i.toNat=0:=by omega
            refine br_intro (fun _ => ?_) (fun h5=>by simp at h5; omega)
            refine br_intro (fun h5 => ?_) (fun h5 => ?_)
            · show _=_
              rw [bad (by unfold okAt at3; rw [hj] at h5; simp at h5; simp [hne]; intro _; omega)]
            · exact next (by unfold okAt at3; rw [hj] at h5; simp at h5; simp [hne,h3]; omega)
          · simp at h4
            have h0':i.toNat=0:=by omega
            exact next (by unfold okAt at3; simp [h0'] at h3 ⊢; simp [h3])
      · simp at h2
        show _=_
        have:(List.range xs.length).all (okAt xs)=true:=by
          rw [List.all_eq_true]
          intro j hj
          exact hall j (by simp at hj; omega)
        have e:decide ((xs.length:Int)≤48)=decide (xs.length≤48):=by
          apply decide_eq_decide.2; omega
        rw [e]
        simp [ddtOk,this]) ⟨0,by omega,by omega,fun j hj=>by omega⟩
  · exact h.elim
theorem h46:G1Ok Tryz.prog 46 g112:=by
  intro args obs k h
  unfold g112 at h
  split at h
  · rename_i k xs
    obtain ⟨hlen,h⟩:=br_and h
    simp at hlen
    refine ⟨_,ctr_fn ok0 hg46 Tryz.func46 (by kernel_rfl) (by kernel_rfl) (by kernel_rfl) fun C => ?_,h⟩
    rw [e46]
    refine br_intro (fun hb => ?_) (fun hb => ?_)
    · simp at hb
      have:ddtOk xs=false:=by simp [ddtOk]; omega
      rw [this]
    have h222:xs.length≤48:=by simp at hb; omega
    have hb':decide ((xs.length:Int) > 48)=false:=hb
    exact loopR okf46 hg46 (ι := {i:Int // 0≤i∧i≤xs.length ∧ ∀ j:Nat,(j:Int) < i→okAt xs j=true}) (fun i=>st46 xs i.1) (fun i=>(xs.length - i.1).toNat) (fun ⟨i,h0,h1,hall⟩=>by
      show evP E46 G46 _ (lp46 4) (st46 xs i) (rk46 _ _ 4 _)
      rw [b46]
      have hw1:IntKind.i64.wrap (i+1)=i+1:=wrap_id (by omega) (by omega)
      have hw2:IntKind.i64.wrap (i - 1)=i - 1:=wrap_id (by omega) (by omega)
      rw [hw1,hw2]
      refine br_intro (fun h2 => ?_) (fun h2 => ?_)
      · simp at h2
        have hi:((i.toNat:Nat):Int)=i:=by omega
        have bad:okAt xs i.toNat=false→ddtOk xs=false:=by
          intro hb
          have:(List.range xs.length).all (okAt xs)=false:=by
            rw [List.all_eq_false]
            exact ⟨i.toNat,by simp; omega,by simp [hb]⟩
          simp [ddtOk,this]
        have next:okAt xs i.toNat=true → ∃ j : {i:Int // 0≤i∧i≤xs.length ∧ ∀ j:Nat,(j:Int) < i→okAt xs j=true},st46 xs (i+1)=st46 xs j.1∧(xs.length - j.1).toNat < (xs.length - i).toNat:=by
          intro hok
          refine ⟨⟨i+1,by omega,by omega,fun j hj => ?_⟩,rfl,by show (xs.length - (i+1)).toNat < _; omega⟩
          by_cases e:(j:Int) < i
          · exact hall j e
          · have:j=i.toNat:=by omega
            rw [this]; exact hok
        refine br_intro (fun _ => ?_) (fun h3=>by simp at h3; omega)
        refine br_intro (fun h3 => ?_) (fun h3 => ?_)
        · show _=_
          rw [bad (by unfold okAt at3; simp at h3; simp [h3])]
        · simp at h3
          refine br_intro (fun h4 => ?_) (fun h4 => ?_)
          · simp at h4
            have hj:(i - 1).toNat=i.toNat - 1:=by omega
            have hne : ¬ i.toNat=0:=by omega
            refine br_intro (fun _ => ?_) (fun h5=>by simp at h5; omega)
            refine br_intro (fun _ => ?_) (fun h5=>by simp at h5; omega)
            refine br_intro (fun h5 => ?_) (fun h5 => ?_)
            · show _=_
              rw [bad (by unfold okAt at3; rw [hj] at h5; simp at h5; simp [hne]; intro _; omega)]
            · exact next (by unfold okAt at3; rw [hj] at h5; simp at h5; simp [hne,h3]; omega)
          · simp at h4
            have h0':i.toNat=0:=by omega
            exact next (by unfold okAt at3; simp [h0'] at h3 ⊢; simp [h3])
      · simp at h2
        show _=_
        have:(List.range xs.length).all (okAt xs)=true:=by
          rw [List.all_eq_true]
          intro j hj
          exact hall j (by simp at hj; omega)
        simp [ddtOk,this,h222]) ⟨0,by omega,by omega,fun j hj=>by omega⟩
  · exact h.elim
def abc:ByteArray:=⟨#[97,98,99,100,101,102,103,104,105,106,107,108,109,110,111,112,113,114,115,116,117,118,119,120,121,122]⟩
def isL(b:UInt8):Bool:=decide (97≤b.toNat)&&decide (b.toNat≤122)
def trimT(s:ByteArray):ByteArray:=⟨((s.data.toList.reverse.dropWhile isL).reverse.dropWhile isL).toArray⟩
def g222:G1
  | [.val (.string s),.val (.string c)],[],k=>br (strEq c abc&&decide (s.size≤1048576)) (k ⟨.val (.string (trimT s)),[],[]⟩) False
  | _,_,_=>False
def nameOk(t:ByteArray):Bool:=decide (1≤(t.size:Int))&&decide ((t.size:Int)≤6)&&allB t.size fun i=>decide (97≤byteAt t i)&&decide (byteAt t i≤122)
def g167:G1
  | [.val (.string t)],[],k=>br (decide (t.size≤1048576)) (k ⟨.val (.bool (nameOk t)),[],[]⟩) False
  | _,_,_=>False
theorem strEq_eq{a b:ByteArray}(h:strEq a b=true):a=b:=by
  unfold strEq at h
  have h:=eq_of_beq h
  rw [ByteArray.toList_eq,ByteArray.toList_eq] at h
  apply ByteArray.ext
  apply Array.ext'
  exact h
theorem strEq_nil(a:ByteArray):strEq a ⟨#[]⟩=decide (a.data.toList = []):=by
  unfold strEq
  rw [ByteArray.toList_eq,ByteArray.toList_eq,Bool.eq_iff_iff,beq_iff_eq,decide_eq_true_eq]
theorem abc_isL(b:UInt8):abc.data.toList.contains b=isL b:=by
  have hb:=b.toNat_lt
  rw [Bool.eq_iff_iff]
  show [97,98,99,100,101,102,103,104,105,106,107,108,109,110,111,112,113,114,115,116,117,118,119,120,121,122].contains b=true↔_
  simp only [List.contains_cons,List.contains_nil,Bool.or_eq_true,beq_iff_eq,isL,Bool.and_eq_true,decide_eq_true_eq,← UInt8.toNat_inj]
  simp
  omega
theorem dropWhile_head(p:UInt8→Bool) : ∀ (l:List UInt8) (x:UInt8) (xs:List UInt8),l.dropWhile p=x :: xs→p x=false
  | [],x,xs,h=>by simp at h
  | y :: l,x,xs,h=>by
    rw [List.dropWhile_cons] at h
    split at h
    · exact dropWhile_head p l x xs h
    · rename_i hp
      cases h
      simpa using hp
theorem dropWhile_nil(p:UInt8→Bool) : ∀ (l:List UInt8),l.dropWhile p = [] ↔ ∀ x∈l,p x=true
  | []=>by simp
  | y :: l=>by
    rw [List.dropWhile_cons]
    split
    · rename_i hp
      rw [dropWhile_nil p l]
      simp [hp]
    · rename_i hp
      simp [hp]
theorem trim_nil(p:UInt8→Bool)(l:List UInt8):((l.reverse.dropWhile p).reverse.dropWhile p = [])↔l.all p=true:=by
  constructor
  · intro h
    cases hd:l.reverse.dropWhile p with
    | nil =>
      rw [dropWhile_nil] at hd
      rw [List.all_eq_true]
      intro x hx
      exact hd x (by simpa using hx)
    | cons x xs =>
      have hx:=dropWhile_head p _ _ _ hd
      rw [hd,dropWhile_nil] at h
      have:=h x (by simp)
      rw [hx] at this
      cases this
  · intro h
    rw [List.all_eq_true] at h
    have:l.reverse.dropWhile p = []:=(dropWhile_nil p _).2 fun x hx=>h x (by simpa using hx)
    rw [this]
    rfl
theorem all_byteAt(t:ByteArray):t.data.toList.all isL=allB t.size fun i=>decide (97≤byteAt t i)&&decide (byteAt t i≤122):=by
  have hb : ∀ i (hi:i < t.size),byteAt t i=((t.data.toList[i]'hi).toNat:Int):=by
    intro i hi
    unfold byteAt
    rw [dif_pos (show ((i:Int)).toNat < t.size from hi)]
    rfl
  rw [Bool.eq_iff_iff,List.all_eq_true]
  constructor
  · intro h
    refine allB_t fun i hi => ?_
    have:=h _ (List.getElem_mem (l:=t.data.toList) (n:=i) hi)
    rw [hb i hi]
    unfold isL at this
    simp only [Bool.and_eq_true,decide_eq_true_eq] at this ⊢
    omega
  · intro h x hx
    obtain ⟨i,hi,rfl⟩:=List.getElem_of_mem hx
    have:=allB_at h (i:=i) hi
    rw [hb i hi] at this
    unfold isL
    simp only [Bool.and_eq_true,decide_eq_true_eq] at this ⊢
    omega
theorem h222:G1Ok Tryz.prog 222 g222:=by
  intro args obs k h
  unfold g222 at h
  split at h
  · rename_i k s c
    obtain ⟨hc,hs,h2⟩:=brb2 h
    have hs:=of_decide_eq_true hs
    obtain rfl:=strEq_eq hc
    refine ⟨_,ctr_plain (us := [.string s,.string abc]) (v := .string (trimT s)) Tryz.func222 (by kernel_rfl) (by kernel_rfl) (fun w ht => ?_),h2⟩
    refine (Any.strings_Trim_laid Tryz.lays160 (by kernel_rfl) s abc w (by omega) (by decide) (ascii_of_all (by decide))).mono fun e w' he => ?_
    obtain ⟨rfl,hb⟩:=he
    refine ⟨?_,quiet_below hb⟩
    unfold trimT Lib.trimS Lib.trimLeftS Lib.trimRightS
    have:(fun b=>abc.data.toList.contains b)=isL:=funext abc_isL
    rw [this]
  · exact h.elim
noncomputable def E167:Env:=E0.of Tryz.f167
noncomputable def G167:Gk:=gk []
noncomputable def lp167(n:Nat):Code:=(loopOf n (codeOf Tryz.f167)).getD .skip
noncomputable def ct167(L:Lp)(R:Rp)(n:Nat):Kt:=contOf E167 G167 L n (codeOf Tryz.f167) (endK E167 Tryz.f167.results.toList R)
noncomputable def rk167(L:Lp)(R:Rp)(n:Nat)(N:St→Prop):Kt:=rk (jof E167 (lp167 n)) N (ct167 L R n)
noncomputable def LOOP167(L:Lp)(R:Rp)(n:Nat)(st:St):Prop:=L (lp167 n) st (ct167 L R n)
theorem hg167:HG Tryz.prog G167:=hg_nil
theorem okf167:Ok Tryz.prog E167:=ok0.of Tryz.f167
theorem e167(L:Lp)(R:Rp)(t:ByteArray):(bodyP E0 G167 L Tryz.f167 [.val (.string t)] [] R)=(
    LOOP167 L R 2 ⟨(vS t :: vU :: vB false :: vI 0 :: jn 16 ([vU,vU,vU,vU,vU,vU,vU,vU])),[],1000000,[]⟩):=by kernel_rfl
def st167(t:ByteArray)(i:Int):St :=  ⟨(vS t :: vU :: vB false :: .val (.int .i64 i) :: jn 16 ([vU,vU,vU,vU,vU,vU,vU,vU])),[],1000000,[]⟩
theorem b167(L:Lp)(R:Rp)(N:St→Prop)(t:ByteArray)(i:Int):(evP E167 G167 L (lp167 2) (st167 t i) (rk167 L R 2 N))=(
    br (decide (i < (↑t.size:Int))) (br (decide (0≤i∧i < (↑t.size:Int))) (br (decide (byteAt t i < 97)) (R (some ⟨vB false,[],[]⟩)) (br (decide (0≤i∧i < (↑t.size:Int))) (br (decide (byteAt t i > 122)) (R (some ⟨vB false,[],[]⟩)) (N (st167 t (IntKind.i64.wrap (i+1))))) False)) False) (br (decide ((↑t.size:Int) > 0)) (R (some ⟨vB (decide ((↑t.size:Int)≤6)),[],[]⟩)) (R (some ⟨vB false,[],[]⟩)))):=by kernel_rfl
theorem h167:G1Ok Tryz.prog 167 g167:=by
  intro args obs k h
  unfold g167 at h
  split at h
  · rename_i k t
    obtain ⟨hl,h⟩:=brd h
    refine ⟨_,ctr_fn ok0 hg167 Tryz.func167 (by kernel_rfl) (by kernel_rfl) (by kernel_rfl) fun C => ?_,h⟩
    rw [e167]
    refine loopAll okf167 hg167 (fun i=>st167 t i) t.size (fun i=>decide (97≤byteAt t i)&&decide (byteAt t i≤122)) (by omega) (fun N i hi hw next fails done => ?_)
    show evP E167 G167 _ (lp167 2) (st167 t i) (rk167 _ _ 2 _)
    rw [b167,hw]
    have hf:(decide (97≤byteAt t i)&&decide (byteAt t i≤122))=false→i < t.size→nameOk t=false:=by
      intro h1 h2
      unfold nameOk
      rw [fails h2 h1,Bool.and_false]
    refine br_dec (fun h2=>br_yes ⟨by omega,h2⟩ (br_dec (fun h3 => ?_) (fun h3=>br_yes ⟨by omega,h2⟩ (br_dec (fun h4 => ?_) (fun h4 => ?_))))) (fun h2=>br_dec (fun h3 => ?_) (fun h3 => ?_))
    · show _=_
      rw [hf (by rw [decide_eq_false (by omega)]; rfl) (by omega)]
    · show _=_
      rw [hf (by rw [decide_eq_false (show ¬ byteAt t i≤122 by omega),Bool.and_false]) (by omega)]
    · exact next (by omega) (by rw [decide_eq_true (show 97≤byteAt t i by omega),decide_eq_true (show byteAt t i≤122 by omega)]; rfl)
    · show _=_
      unfold nameOk
      rw [done (by omega),decide_eq_true (show 1≤(t.size:Int) by omega),Bool.and_true]
      rfl
    · show _=_
      unfold nameOk
      rw [decide_eq_false (show ¬ 1≤(t.size:Int) by omega)]
      rfl
  · exact h.elim
noncomputable def G172:Gk:=gk [(129,g129),(222,g222)]
theorem hg172:HG Tryz.prog G172:=(hg_cons h129 (hg_cons h222 hg_nil))
theorem e172(L:Lp)(R:Rp)(t:ByteArray):(bodyP E0 G172 L Tryz.f172 [.val (.string t)] [] R)=(
    br (decide (1≤(↑t.size:Int))&&decide ((↑t.size:Int)≤6)) (br (true&&decide (t.size≤1048576)) (R (some ⟨vB (strEq (trimT t) { data := #[] }),[],[]⟩)) False) (R (some ⟨vB false,[],[]⟩))):=by kernel_rfl
theorem trimT_nil(t:ByteArray):strEq (trimT t) ⟨#[]⟩=allB t.size fun i=>decide (97≤byteAt t i)&&decide (byteAt t i≤122):=by
  rw [strEq_nil,← all_byteAt,Bool.eq_iff_iff,decide_eq_true_eq]
  exact trim_nil isL _
theorem h172:G1Ok Tryz.prog 172 g167:=by
  intro args obs k h
  unfold g167 at h
  split at h
  · rename_i k t
    obtain ⟨hl,h⟩:=br_and h
    have h0:strEq abc abc=true:=strEq_self _
    refine ⟨_,ctr_fn ok0 hg172 Tryz.func172 (by kernel_rfl) (by kernel_rfl) (by kernel_rfl) fun C => ?_,h⟩
    rw [e172]
    refine br_intro (fun h1=>br_t ?_ ?_) (fun h1 => ?_)
    · rw [hl]
      rfl
    · show _=_
      unfold nameOk
      rw [h1,Bool.true_and,← trimT_nil]
    · show _=_
      unfold nameOk
      rw [h1]
      rfl
  · exact h.elim
abbrev s8(a0 a1 a2 a3 a4 a5 a6 a7:ByteArray):AV := .agg [.val (.string a0),.val (.string a1),.val (.string a2),.val (.string a3),.val (.string a4),.val (.string a5),.val (.string a6),.val (.string a7)]
abbrev kb:List CK := [.str,.int .i64,.str,.str,.str,.str,.str,.str,.str,.str,.str]
abbrev kc:List CK := [.str,.int .i64,.str,.int .i64,.int .i64,.int .i64,.int .i64,.int .i64,.int .i64,.int .i64,.int .i64,.int .i64,.int .i64,.int .i64,.int .i64,.int .i64,.int .i64,.int .i64,.int .i64,.int .i64,.int .i64,.int .i64,.int .i64,.int .i64,.int .i64,.int .i64,.int .i64,.int .i64,.int .i64,.int .i64,.bool]
def szC(e:Elem kc):Nat:=e.1.size+e.2.2.1.size
def inC(e:Elem kc):Bool:=inS e.1&&inS e.2.2.1
def g51:G1
  | [.rsl [.int .i64,.int .i64,.int .i64] xs,.val (.int .i64 l)],[],k=>br (decide (xs.length≤9223372036854775807)&&inL l) (k ⟨.val (.int .i64 (szR l xs.length)),[],[]⟩) False
  | _,_,_=>False
noncomputable def G51:Gk:=gk []
theorem hg51:HG Tryz.prog G51:=hg_nil
theorem e51(L:Lp)(R:Rp)(xs:List (Elem k3))(l:Int):(bodyP E0 G51 L Tryz.f51 [.rsl k3 xs,.val (.int .i64 l)] [] R)=(
    br (decide (IntKind.i64.wrap (l - (↑xs.length:Int)) < 0)) (R (some ⟨vI (-1),[],[]⟩)) (R (some ⟨vI (IntKind.i64.wrap (l - (↑xs.length:Int))),[],[]⟩))):=by kernel_rfl
theorem h51:G1Ok Tryz.prog 51 g51:=by
  intro args obs k h
  unfold g51 at h
  split at h
  · rename_i k xs l
    obtain ⟨hp,hl,h⟩:=brb2 h
    simp only [inL,decide_eq_true_eq] at hl hp
    refine ⟨_,ctr_fn ok0 hg51 Tryz.func51 (by kernel_rfl) (by kernel_rfl) (by kernel_rfl) fun C => ?_,h⟩
    rw [e51]
    rw [wrap_id (n:=l - xs.length) (by omega) (by omega)]
    refine br_dec (fun h => ?_) (fun h => ?_)
    · show _=_
      rw [szR_neg (by omega)]
    · show _=_
      rw [szR_pos (by omega)]
  · exact h.elim
def g52:G1
  | [.rsl [.int .i64] xs,.val (.int .i64 l)],[],k=>br (decide (xs.length≤9223372036854775807)&&inL l) (k ⟨.val (.int .i64 (szR l xs.length)),[],[]⟩) False
  | _,_,_=>False
noncomputable def G52:Gk:=gk []
theorem hg52:HG Tryz.prog G52:=hg_nil
theorem e52(L:Lp)(R:Rp)(xs:List (Elem ki))(l:Int):(bodyP E0 G52 L Tryz.f52 [.rsl ki xs,.val (.int .i64 l)] [] R)=(
    br (decide (IntKind.i64.wrap (l - (↑xs.length:Int)) < 0)) (R (some ⟨vI (-1),[],[]⟩)) (R (some ⟨vI (IntKind.i64.wrap (l - (↑xs.length:Int))),[],[]⟩))):=by kernel_rfl
theorem h52:G1Ok Tryz.prog 52 g52:=by
  intro args obs k h
  unfold g52 at h
  split at h
  · rename_i k xs l
    obtain ⟨hp,hl,h⟩:=brb2 h
    simp only [inL,decide_eq_true_eq] at hl hp
    refine ⟨_,ctr_fn ok0 hg52 Tryz.func52 (by kernel_rfl) (by kernel_rfl) (by kernel_rfl) fun C => ?_,h⟩
    rw [e52]
    rw [wrap_id (n:=l - xs.length) (by omega) (by omega)]
    refine br_dec (fun h => ?_) (fun h => ?_)
    · show _=_
      rw [szR_neg (by omega)]
    · show _=_
      rw [szR_pos (by omega)]
  · exact h.elim
def g23s:G1
  | [.rsl [.int .i64,.int .i64,.int .i64] xs,.val (.int .i64 l)],[],k=>br (decide (xs.length≤9223372036854775807)&&inL l) (k ⟨.val (.int .i64 (szR l xs.length)),[],[]⟩) False
  | _,_,_=>False
theorem h23s:G1Ok Tryz.prog 50 g23s:=by
  intro args obs k h
  unfold g23s at h
  split at h
  · rename_i k xs l
    obtain ⟨hp,hl,h⟩:=brb2 h
    simp only [inL,decide_eq_true_eq] at hl hp
    refine ⟨_,ctr_fn ok0 hg_nil Tryz.func50 (by kernel_rfl) (by kernel_rfl) (by kernel_rfl) fun C => ?_,h⟩
    rw [e50]
    rw [wrap_id (n:=l - xs.length) (by omega) (by omega)]
    refine br_dec (fun h => ?_) (fun h => ?_)
    · show _=_
      rw [szR_neg (by omega)]
    · show _=_
      rw [szR_pos (by omega)]
  · exact h.elim
def g124:G1
  | [.agg us,.val (.int .i64 l)],[],k=>match elemOf kc us with
    | some a=>br (inC a&&inL l) (k ⟨.val (.int .i64 (szR l (szC a))),[],[]⟩) False
    | none=>False
  | _,_,_=>False
noncomputable def G124:Gk:=gk []
theorem hg124:HG Tryz.prog G124:=hg_nil
theorem e124(L:Lp)(R:Rp)(a0:ByteArray)(a1:Int)(a2:ByteArray)(a3:Int)(a4:Int)(a5:Int)(a6:Int)(a7:Int)(a8:Int)(a9:Int)(a10:Int)(a11:Int)(a12:Int)(a13:Int)(a14:Int)(a15:Int)(a16:Int)(a17:Int)(a18:Int)(a19:Int)(a20:Int)(a21:Int)(a22:Int)(a23:Int)(a24:Int)(a25:Int)(a26:Int)(a27:Int)(a28:Int)(a29:Int)(a30:Bool)(l:Int):(bodyP E0 G124 L Tryz.f124 [.agg [.val (.string a0),.val (.int .i64 a1),.val (.string a2),.val (.int .i64 a3),.val (.int .i64 a4),.val (.int .i64 a5),.val (.int .i64 a6),.val (.int .i64 a7),.val (.int .i64 a8),.val (.int .i64 a9),.val (.int .i64 a10),.val (.int .i64 a11),.val (.int .i64 a12),.val (.int .i64 a13),.val (.int .i64 a14),.val (.int .i64 a15),.val (.int .i64 a16),.val (.int .i64 a17),.val (.int .i64 a18),.val (.int .i64 a19),.val (.int .i64 a20),.val (.int .i64 a21),.val (.int .i64 a22),.val (.int .i64 a23),.val (.int .i64 a24),.val (.int .i64 a25),.val (.int .i64 a26),.val (.int .i64 a27),.val (.int .i64 a28),.val (.int .i64 a29),.val (.bool a30)],.val (.int .i64 l)] [] R)=(
    br (decide (IntKind.i64.wrap (l - (↑a0.size:Int)) < 0)) (R (some ⟨vI (-1),[],[]⟩)) (br (decide (IntKind.i64.wrap (IntKind.i64.wrap (l - (↑a0.size:Int)) - (↑a2.size:Int)) < 0)) (R (some ⟨vI (-1),[],[]⟩)) (R (some ⟨vI (IntKind.i64.wrap (IntKind.i64.wrap (l - (↑a0.size:Int)) - (↑a2.size:Int))),[],[]⟩)))):=by kernel_rfl
theorem h124:G1Ok Tryz.prog 124 g124:=by
  intro args obs k h
  unfold g124 at h
  split at h
  · rename_i k us l
    split at h
    rotate_left
    · exact h.elim
    rename_i a ha
    obtain rfl:=elemOf_inv ha
    obtain ⟨a0,a1,a2,a3,a4,a5,a6,a7,a8,a9,a10,a11,a12,a13,a14,a15,a16,a17,a18,a19,a20,a21,a22,a23,a24,a25,a26,a27,a28,a29,a30,⟨⟩⟩:=a
    obtain ⟨hp,hl,h⟩:=brb2 h
    unfold inC at hp
    simp only [inL,inS,Bool.and_eq_true,decide_eq_true_eq] at hl hp
    obtain ⟨h0,h2⟩:=hp
    refine ⟨_,ctr_fn ok0 hg124 Tryz.func124 (by kernel_rfl) (by kernel_rfl) (by kernel_rfl) fun C => ?_,h⟩
    show bodyP E0 G124 _ Tryz.f124 [.agg [.val (.string a0),.val (.int .i64 a1),.val (.string a2),.val (.int .i64 a3),.val (.int .i64 a4),.val (.int .i64 a5),.val (.int .i64 a6),.val (.int .i64 a7),.val (.int .i64 a8),.val (.int .i64 a9),.val (.int .i64 a10),.val (.int .i64 a11),.val (.int .i64 a12),.val (.int .i64 a13),.val (.int .i64 a14),.val (.int .i64 a15),.val (.int .i64 a16),.val (.int .i64 a17),.val (.int .i64 a18),.val (.int .i64 a19),.val (.int .i64 a20),.val (.int .i64 a21),.val (.int .i64 a22),.val (.int .i64 a23),.val (.int .i64 a24),.val (.int .i64 a25),.val (.int .i64 a26),.val (.int .i64 a27),.val (.int .i64 a28),.val (.int .i64 a29),.val (.bool a30)],.val (.int .i64 l)] [] _
    rw [e124]
    have e:szC (a0,a1,a2,a3,a4,a5,a6,a7,a8,a9,a10,a11,a12,a13,a14,a15,a16,a17,a18,a19,a20,a21,a22,a23,a24,a25,a26,a27,a28,a29,a30,())=a0.size+a2.size:=rfl
    rw [e,wrap_id (n:=l - a0.size) (by omega) (by omega)]
    refine br_dec (fun h => ?_) (fun h => ?_)
    · show _=_
      rw [szR_neg (by omega)]
    rw [wrap_id (n:=l - a0.size - a2.size) (by omega) (by omega)]
    refine br_dec (fun h => ?_) (fun h => ?_)
    · show _=_
      rw [szR_neg (by omega)]
    · show _=_
      rw [szR_pos (by omega)]
      exact resI (by omega)
  · exact h.elim
def szCs(xs:List (Elem kc)):Nat:=xs.length+(xs.map szC).sum
def inCs(xs:List (Elem kc)):Bool:=decide (xs.length≤9223372036854775807)&&xs.all inC
def g49:G1
  | [.rsl cxs xs0,.val (.int .i64 l)],[],k=>match castE kc cxs xs0 with
    | some xs=>br (inCs xs&&inL l) (k ⟨.val (.int .i64 (szR l (szCs xs))),[],[]⟩) False
    | _=>False
  | _,_,_=>False
noncomputable def E49:Env:=E0.of Tryz.f49
noncomputable def G49:Gk:=gk [(124,g124)]
noncomputable def lp49(n:Nat):Code:=(loopOf n (codeOf Tryz.f49)).getD .skip
noncomputable def ct49(L:Lp)(R:Rp)(n:Nat):Kt:=contOf E49 G49 L n (codeOf Tryz.f49) (endK E49 Tryz.f49.results.toList R)
noncomputable def rk49(L:Lp)(R:Rp)(n:Nat)(N:St→Prop):Kt:=rk (jof E49 (lp49 n)) N (ct49 L R n)
noncomputable def LOOP49(L:Lp)(R:Rp)(n:Nat)(st:St):Prop:=L (lp49 n) st (ct49 L R n)
theorem hg49:HG Tryz.prog G49:=(hg_cons h124 hg_nil)
theorem okf49:Ok Tryz.prog E49:=ok0.of Tryz.f49
theorem e49(L:Lp)(R:Rp)(xs:List (Elem kc))(l:Int):(bodyP E0 G49 L Tryz.f49 [.rsl kc xs,.val (.int .i64 l)] [] R)=(
    br (decide (IntKind.i64.wrap (l - (↑xs.length:Int)) < 0)) (R (some ⟨vI (-1),[],[]⟩)) (LOOP49 L R 5 ⟨(.rsl kc xs :: vI (IntKind.i64.wrap (l - (↑xs.length:Int))) :: vU :: vU :: vI 0 :: vI 0 :: jn 20 ([vU])),[],1000000,[]⟩)):=by kernel_rfl
def st49(xs:List (Elem kc))(l m i:Int):St :=  ⟨(AV.rsl kc xs :: .val (.int .i64 m) :: vU :: vU :: vI 0 :: .val (.int .i64 i) :: jn 20 ([vU])),[],1000000,[]⟩
theorem b49(L:Lp)(R:Rp)(N:St→Prop)(xs:List (Elem kc))(l m i:Int):(evP E49 G49 L (lp49 5) (st49 xs l m i) (rk49 L R 5 N))=(
    br (decide (i < (↑xs.length:Int))) (br (decide (0≤i∧i < (↑xs.length:Int))) (br (inC (xs.getD i.toNat (edflt kc))&&inL m) (br (decide (szR m (szC (xs.getD i.toNat (edflt kc))) < 0)) (R (some ⟨vI (-1),[],[]⟩)) (N ⟨(.rsl kc xs :: vI (szR m (szC (xs.getD i.toNat (edflt kc)))) :: vU :: vU :: vI 0 :: vI (IntKind.i64.wrap (i+1)) :: jn 20 ([vU])),[],1000000,[]⟩)) False) False) (R (some ⟨vI m,[],[]⟩))):=by kernel_rfl
theorem h49:G1Ok Tryz.prog 49 g49:=by
  intro args obs k h
  unfold g49 at h
  split at h
  · rename_i k cxs xs0 l
    split at h
    rotate_left
    · exact h.elim
    rename_i xs hxs
    cases castE_inv hxs
    obtain ⟨hp,h⟩:=br_and h
    rw [Bool.and_eq_true] at hp
    obtain ⟨hB,hl⟩:=hp
    unfold inCs at hB
    rw [Bool.and_eq_true] at hB
    obtain ⟨hlen,hB⟩:=hB
    simp only [inL,decide_eq_true_eq] at hl hlen
    refine ⟨_,ctr_fn ok0 hg49 Tryz.func49 (by kernel_rfl) (by kernel_rfl) (by kernel_rfl) fun C => ?_,h⟩
    rw [e49]
    have e:szCs xs=xs.length+(xs.map szC).sum:=rfl
    have hw0:=wrap_id (n:=l - xs.length) (by omega) (by omega)
    refine br_dec (fun h => ?_) (fun h => ?_)<;>rw [hw0] at h
    · show _=_
      rw [e,szR_neg (by omega)]
    · exact loopSz okf49 hg49 (fun i m=>st49 xs l m i) xs (edflt kc) szC inC l (by omega) hl.2 hB (fun N i m hi h0 h1 hw hpr neg pos done=>by
        show evP E49 G49 _ (lp49 5) (st49 xs l m i) (rk49 _ _ 5 _)
        rw [b49,hw,Int.toNat_natCast]
        refine br_dec (fun h=>br_yes ⟨by omega,h⟩ (br_t ?_ (br_dec (fun h2 => ?_) (fun h2 => ?_)))) (fun h => ?_)
        · rw [Bool.and_eq_true]
          exact ⟨hpr (by omega),by simp only [inL,decide_eq_true_eq]; omega⟩
        · show _=_
          rw [e,neg (by omega) (szR_lt0 h2)]
        · rw [szR_pos (szR_ge0 h2)]
          exact pos (by omega) (szR_ge0 h2)
        · show _=_
          rw [e,done (by omega)]) _ hw0 (by omega)
  · exact h.elim
end Go.Proofs.YtkjnijddbiconaaGreatDoor.Ev