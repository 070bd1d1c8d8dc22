/- Counts of a core: proofs. -/
import Derived.Test.YtkjnijddbiconaaGreatDoorC6
namespace Go.Proofs.YtkjnijddbiconaaGreatDoor.Ev
open Go
set_option linter.unusedVariables false
set_option linter.unusedSimpArgs false
set_option maxRecDepth 100000
set_option maxHeartbeats 1000000
def cnI(d l:List (Elem k3))(k:Nat):Nat:=l.countP fun p=>p.1 != 0&&(bsD d p.1==k)
def csI(d l:List (Elem k3)):List (Elem ki):=(List.range d.length).map fun k=>((cnI d l k:Int),())
def prI(d:List (Elem k3))(p:Elem k3):Bool:=p.1==0 || (bkD d p.1&&((atP d (bsD d p.1)).1==p.2.1))
def cntI(d:List (Elem k3))(s:List (Elem kc)):Bool:=(ptsOf s).all (prI d)&&allB d.length fun k=>(atP d k).2.2.1==(cnI d (ptsOf s) k:Int)
def g135:G1
  | [.agg us],[],k=>match coreOf us with
    | some c=>br (smCo c) (k ⟨.val (.bool (cntI c.2.2.1 c.2.1)),[],[]⟩) False
    | none=>False
  | _,_,_=>False
theorem ddt_len{d:List (Elem k3)}(h:ddtOk d=true):d.length≤48:=by
  unfold ddtOk at h
  rw [Bool.and_eq_true,decide_eq_true_eq] at h
  exact h.1
theorem ddt_at{d:List (Elem k3)}(h:ddtOk d=true){k:Nat}(hk:k < d.length):okAt d k=true:=by
  simp only [ddtOk,Bool.and_eq_true,List.all_eq_true] at h
  exact h.2 k (by simp; exact hk)
def cnD(d:List (Elem k3))(k:Nat):Int:=(atP d k).2.2.1
def adD(d:List (Elem k3))(k:Nat):Int:=(atP d k).2.1
theorem ddt_ent{d:List (Elem k3)}(h:ddtOk d=true){k:Nat}(hk:k < d.length):(1≤adD d k∧adD d k≤119)∧(1≤cnD d k∧cnD d k≤1000):=by
  have:=ddt_at h hk
  simp only [okAt,entryOk,within,Bool.and_eq_true,decide_eq_true_eq] at this
  exact ⟨⟨this.1.1.2.1,this.1.1.2.2⟩,this.1.2.1,this.1.2.2⟩
theorem ddt_step{d:List (Elem k3)}(h:ddtOk d=true){k:Nat}(hk:k+1 < d.length):adD d k < adD d (k+1):=by
  have:=ddt_at h hk
  simp [okAt] at this
  exact this.2
theorem allC_next(d:List (Elem k3)){i:Nat}(hi:i < d.length):allC (d.take (i+1))=allC (d.take i)+cnD d i:=by
  unfold allC
  rw [take_next d (edflt k3) hi,List.map_append,List.sum_append,List.map_cons,List.map_nil,List.sum_cons,List.sum_nil]
  show _+(cnD d i+0)=_
  rw [Int.add_zero]
theorem allC_bd{d:List (Elem k3)}(h:ddtOk d=true) : ∀ i,i≤d.length→0≤allC (d.take i)∧allC (d.take i)≤1000 * (i:Int)
  | 0,_=>by simp [allC]
  | i+1,hi=>by
    have h1:=allC_bd h i (by omega)
    have h2:=(ddt_ent h (k:=i) (by omega)).2
    rw [allC_next d (by omega)]
    have h3:((i+1:Nat):Int)=(i:Int)+1:=by omega
    rw [h3]
    omega
theorem h110:G1Ok Tryz.prog 110 g110:=by
  intro args obs k h
  unfold g110 at h
  split at h
  · rename_i k us
    split at h
    rotate_left
    · exact h.elim
    rename_i c hc
    obtain rfl:=coreOf_inv hc
    obtain ⟨x,s,d,p,b,f,n⟩:=c
    obtain ⟨hp,hd,h⟩:=brb2 h
    have hd:ddtOk d=true:=hd
    have hl:s.length≤1048576:=smCo_s hp
    have hdl:=ddt_len hd
    refine ⟨_,ctr_fn okf hg110 Tryz.func110 (by kernel_rfl) (by kernel_rfl) (by kernel_rfl) fun C => ?_,h⟩
    show bodyP Ef G110 _ Tryz.f110 [coreAV x s d p b f n] [] _
    rw [e110]
    refine loopUp okf110 hg110 (fun i m=>st110 x s d p b f n m i) d.length (fun i m=>m=allC (d.take i) ∧ ∀ j,j < i→cntK d s j=true) (fun N i m hi hm next => ?_) 0 ⟨rfl,fun j hj=>by omega⟩
    obtain ⟨hm,hall⟩:=hm
    show evP E110 G110 _ (lp110 3) (st110 x s d p b f n m i) (rk110 _ _ 3 _)
    have hb:=allC_bd hd i hi
    rw [b110,Int.toNat_natCast,wrap_id (n:=(i:Int)+1) (by omega) (by omega)]
    refine br_dec (fun h2=>br_yes ⟨by omega,h2⟩ (br_t hp (br_yes ⟨by omega,h2⟩ (br_bne (fun h3 => ?_) (fun h3=>br_yes ⟨by omega,h2⟩ ?_))))) (fun h2 => ?_)
    · show _=_
      have:cntS d s=false:=by
        unfold cntS
        rw [allB_f (i:=i) (by omega) h3]
        rfl
      rw [this]
    · have he:=(ddt_ent hd (k:=i) (by omega)).2
      have hn:=allC_next d (i:=i) (by omega)
      have hw:IntKind.i64.wrap (m+cnD d i)=m+cnD d i:=wrap_id (by omega) (by omega)
      show N (st110 x s d p b f n (IntKind.i64.wrap (m+cnD d i)) ((i:Int)+1))
      rw [hw]
      refine next (by omega) _ ⟨by omega,fun j hj => ?_⟩
      by_cases e:j < i
      · exact hall j e
      · have:j=i:=by omega
        rw [this]
        exact h3
    · have hi':i=d.length:=by omega
      have hall':allB d.length (cntK d s)=true:=allB_t fun j hj=>hall j (by omega)
      rw [hi',List.take_length] at hm
      rw [hi',List.take_length] at hb
      refine loopUp okf110 hg110 (fun i m=>so56 x s d p b f n m i) s.length (fun i m=>m=allC d - liveP (preP s i 0)) (fun N i m hi hm next => ?_) m (by rw [pre_zero,hm]; show _=allC d - ((0:Nat):Int); omega)
      show evP E110 G110 _ (lp110 9) (so56 x s d p b f n m i) (rk110 _ _ 9 _)
      rw [bo56]
      refine br_dec (fun h2 => ?_) (fun h2 => ?_)
      · refine loopUp okf110 hg110 (fun j m=>si110 x s d p b f n m i j) 8 (fun j m=>m=allC d - liveP (preP s i j)) (fun N2 j m hj hm next2 => ?_) m hm
        have hle:=liveP_le (preP s i j)
        have hle2:=pre_len s i j
        have cs:j=0∨j=1∨j=2∨j=3∨j=4∨j=5∨j=6∨j=7∨j=8:=by omega
        rcases cs with rfl | rfl | rfl | rfl | rfl | rfl | rfl | rfl | rfl
        · show evP E110 G110 _ (lp110 12) (si110 x s d p b f n m i 0) (rkn110 _ _ 9 N 12 _)
          have hn:=liveP_next (preP s i 0) (atP (mps (atC s i)) 0)
          rw [← pre_next s i (j:=0) (by omega)] at hn
          rw [bi110_0,Int.toNat_natCast,wrap_id (n:=m - 1) (by omega) (by omega)]
          refine br_yes ⟨by omega,h2⟩ (br_intro (fun h3 => ?_) (fun h3 => ?_))
          · refine next2 (by omega) _ ?_
            rw [if_pos (show decide ((atP (mps (atC s i)) 0).1 > 0)=true from h3)] at hn
            rw [hn]
            omega
          · refine next2 (by omega) _ ?_
            rw [if_neg (by rw [show decide ((atP (mps (atC s i)) 0).1 > 0)=false from h3]; exact Bool.false_ne_true)] at hn
            rw [hn]
            omega
        · show evP E110 G110 _ (lp110 12) (si110 x s d p b f n m i 1) (rkn110 _ _ 9 N 12 _)
          have hn:=liveP_next (preP s i 1) (atP (mps (atC s i)) 1)
          rw [← pre_next s i (j:=1) (by omega)] at hn
          rw [bi110_1,Int.toNat_natCast,wrap_id (n:=m - 1) (by omega) (by omega)]
          refine br_yes ⟨by omega,h2⟩ (br_intro (fun h3 => ?_) (fun h3 => ?_))
          · refine next2 (by omega) _ ?_
            rw [if_pos (show decide ((atP (mps (atC s i)) 1).1 > 0)=true from h3)] at hn
            rw [hn]
            omega
          · refine next2 (by omega) _ ?_
            rw [if_neg (by rw [show decide ((atP (mps (atC s i)) 1).1 > 0)=false from h3]; exact Bool.false_ne_true)] at hn
            rw [hn]
            omega
        · show evP E110 G110 _ (lp110 12) (si110 x s d p b f n m i 2) (rkn110 _ _ 9 N 12 _)
          have hn:=liveP_next (preP s i 2) (atP (mps (atC s i)) 2)
          rw [← pre_next s i (j:=2) (by omega)] at hn
          rw [bi110_2,Int.toNat_natCast,wrap_id (n:=m - 1) (by omega) (by omega)]
          refine br_yes ⟨by omega,h2⟩ (br_intro (fun h3 => ?_) (fun h3 => ?_))
          · refine next2 (by omega) _ ?_
            rw [if_pos (show decide ((atP (mps (atC s i)) 2).1 > 0)=true from h3)] at hn
            rw [hn]
            omega
          · refine next2 (by omega) _ ?_
            rw [if_neg (by rw [show decide ((atP (mps (atC s i)) 2).1 > 0)=false from h3]; exact Bool.false_ne_true)] at hn
            rw [hn]
            omega
        · show evP E110 G110 _ (lp110 12) (si110 x s d p b f n m i 3) (rkn110 _ _ 9 N 12 _)
          have hn:=liveP_next (preP s i 3) (atP (mps (atC s i)) 3)
          rw [← pre_next s i (j:=3) (by omega)] at hn
          rw [bi110_3,Int.toNat_natCast,wrap_id (n:=m - 1) (by omega) (by omega)]
          refine br_yes ⟨by omega,h2⟩ (br_intro (fun h3 => ?_) (fun h3 => ?_))
          · refine next2 (by omega) _ ?_
            rw [if_pos (show decide ((atP (mps (atC s i)) 3).1 > 0)=true from h3)] at hn
            rw [hn]
            omega
          · refine next2 (by omega) _ ?_
            rw [if_neg (by rw [show decide ((atP (mps (atC s i)) 3).1 > 0)=false from h3]; exact Bool.false_ne_true)] at hn
            rw [hn]
            omega
        · show evP E110 G110 _ (lp110 12) (si110 x s d p b f n m i 4) (rkn110 _ _ 9 N 12 _)
          have hn:=liveP_next (preP s i 4) (atP (mps (atC s i)) 4)
          rw [← pre_next s i (j:=4) (by omega)] at hn
          rw [bi110_4,Int.toNat_natCast,wrap_id (n:=m - 1) (by omega) (by omega)]
          refine br_yes ⟨by omega,h2⟩ (br_intro (fun h3 => ?_) (fun h3 => ?_))
          · refine next2 (by omega) _ ?_
            rw [if_pos (show decide ((atP (mps (atC s i)) 4).1 > 0)=true from h3)] at hn
            rw [hn]
            omega
          · refine next2 (by omega) _ ?_
            rw [if_neg (by rw [show decide ((atP (mps (atC s i)) 4).1 > 0)=false from h3]; exact Bool.false_ne_true)] at hn
            rw [hn]
            omega
        · show evP E110 G110 _ (lp110 12) (si110 x s d p b f n m i 5) (rkn110 _ _ 9 N 12 _)
          have hn:=liveP_next (preP s i 5) (atP (mps (atC s i)) 5)
          rw [← pre_next s i (j:=5) (by omega)] at hn
          rw [bi110_5,Int.toNat_natCast,wrap_id (n:=m - 1) (by omega) (by omega)]
          refine br_yes ⟨by omega,h2⟩ (br_intro (fun h3 => ?_) (fun h3 => ?_))
          · refine next2 (by omega) _ ?_
            rw [if_pos (show decide ((atP (mps (atC s i)) 5).1 > 0)=true from h3)] at hn
            rw [hn]
            omega
          · refine next2 (by omega) _ ?_
            rw [if_neg (by rw [show decide ((atP (mps (atC s i)) 5).1 > 0)=false from h3]; exact Bool.false_ne_true)] at hn
            rw [hn]
            omega
        · show evP E110 G110 _ (lp110 12) (si110 x s d p b f n m i 6) (rkn110 _ _ 9 N 12 _)
          have hn:=liveP_next (preP s i 6) (atP (mps (atC s i)) 6)
          rw [← pre_next s i (j:=6) (by omega)] at hn
          rw [bi110_6,Int.toNat_natCast,wrap_id (n:=m - 1) (by omega) (by omega)]
          refine br_yes ⟨by omega,h2⟩ (br_intro (fun h3 => ?_) (fun h3 => ?_))
          · refine next2 (by omega) _ ?_
            rw [if_pos (show decide ((atP (mps (atC s i)) 6).1 > 0)=true from h3)] at hn
            rw [hn]
            omega
          · refine next2 (by omega) _ ?_
            rw [if_neg (by rw [show decide ((atP (mps (atC s i)) 6).1 > 0)=false from h3]; exact Bool.false_ne_true)] at hn
            rw [hn]
            omega
        · show evP E110 G110 _ (lp110 12) (si110 x s d p b f n m i 7) (rkn110 _ _ 9 N 12 _)
          have hn:=liveP_next (preP s i 7) (atP (mps (atC s i)) 7)
          rw [← pre_next s i (j:=7) (by omega)] at hn
          rw [bi110_7,Int.toNat_natCast,wrap_id (n:=m - 1) (by omega) (by omega)]
          refine br_yes ⟨by omega,h2⟩ (br_intro (fun h3 => ?_) (fun h3 => ?_))
          · refine next2 (by omega) _ ?_
            rw [if_pos (show decide ((atP (mps (atC s i)) 7).1 > 0)=true from h3)] at hn
            rw [hn]
            omega
          · refine next2 (by omega) _ ?_
            rw [if_neg (by rw [show decide ((atP (mps (atC s i)) 7).1 > 0)=false from h3]; exact Bool.false_ne_true)] at hn
            rw [hn]
            omega
        · show evP E110 G110 _ (lp110 12) (si110 x s d p b f n m i 8) (rkn110 _ _ 9 N 12 _)
          rw [bi110_8,wrap_id (n:=(i:Int)+1) (by omega) (by omega)]
          exact next (by omega) _ (by rw [hm,pre_end (by omega)])
      · show _=_
        have e:i=s.length:=by omega
        have:cntS d s=(m==0):=by
          unfold cntS
          rw [hall',hm,e,pre_all,Bool.true_and]
        rw [this]
  · exact h.elim
theorem sums_f{d:List (Elem k3)}{s:List (Elem kc)}{i j:Nat}(hi:i < s.length)(hj:j < 8)(h:sumK d (atP (mps (atC s i)) j)=false):(ptsOf s).all (sumK d)=false:=by
  rw [List.all_eq_false]
  exact ⟨_,pts_mem hi hj,by rw [h]; exact Bool.false_ne_true⟩
theorem sumK_1{d:List (Elem k3)}{p:Elem k3}(h1:decide (p.1 > 0)=true)(h2:okD d p.1=false):sumK d p=false:=by unfold sumK; rw [h1,h2]; rfl
theorem sumK_2{d:List (Elem k3)}{p:Elem k3}(h1:decide (p.1 > 0)=true)(h2:okD d p.1=true):sumK d p=((atP d (lnD d p.1)).1==p.2.1):=by unfold sumK; rw [h1,h2]; rfl
theorem sumK_3{d:List (Elem k3)}{p:Elem k3}(h1:decide (p.1 > 0)=false):sumK d p=true:=by unfold sumK; rw [h1]; rfl
theorem okD_lt{d:List (Elem k3)}{t:Int}(h:okD d t=true):lnD d t < d.length:=by
  unfold okD at h
  rw [Bool.and_eq_true] at h
  exact of_decide_eq_true h.1
theorem bkD_lt{d:List (Elem k3)}{t:Int}(h:bkD d t=true):bsD d t < d.length:=by
  unfold bkD at h
  rw [Bool.and_eq_true] at h
  exact of_decide_eq_true h.1
theorem all_next{α:Type}{q:α→Bool}{l:List α}{e:α}(h:l.all q=true)(he:q e=true):(l ++ [e]).all q=true:=by
  rw [List.all_append,h,List.all_cons,he]
  rfl
theorem h111:G1Ok Tryz.prog 111 g111:=by
  intro args obs k h
  unfold g111 at h
  split at h
  · rename_i k us
    split at h
    rotate_left
    · exact h.elim
    rename_i c hc
    obtain rfl:=coreOf_inv hc
    obtain ⟨x,s,d,p,b,f,n⟩:=c
    obtain ⟨hp,h⟩:=br_and h
    have hl:s.length≤1048576:=smCo_s hp
    have hdl:d.length≤1048576:=smCo_d hp
    refine ⟨_,ctr_fn okf hg111 Tryz.func111 (by kernel_rfl) (by kernel_rfl) (by kernel_rfl) fun C => ?_,h⟩
    show bodyP Ef G111 _ Tryz.f111 [coreAV x s d p b f n] [] _
    rw [e111]
    refine loopUp okf111 hg111 (α:=Unit) (fun i _=>st111 x s d p b f n i) s.length (fun i _=>(preP s i 0).all (sumK d)=true) (fun N i m hi hm next => ?_) () (by rw [pre_zero]; rfl)
    show evP E111 G111 _ (lp111 2) (st111 x s d p b f n i) (rk111 _ _ 2 _)
    rw [b111]
    refine br_dec (fun h2 => ?_) (fun h2 => ?_)
    · refine loopUp okf111 hg111 (α:=Unit) (fun j _=>si111 x s d p b f n i j) 8 (fun j _=>(preP s i j).all (sumK d)=true) (fun N2 j m hj hm next2 => ?_) () hm
      have cs:j=0∨j=1∨j=2∨j=3∨j=4∨j=5∨j=6∨j=7∨j=8:=by omega
      rcases cs with rfl | rfl | rfl | rfl | rfl | rfl | rfl | rfl | rfl
      · show evP E111 G111 _ (lp111 5) (si111 x s d p b f n i 0) (rkn111 _ _ 2 N 5 _)
        rw [bi111_0,Int.toNat_natCast,Int.toNat_natCast]
        have nx:sumK d (atP (mps (atC s i)) 0)=true→_:=fun hq=>next2 (by omega) () (by rw [pre_next s i (by omega)]; exact all_next hm hq)
        have bad:sumK d (atP (mps (atC s i)) 0)=false→_:=fun hq=>sums_f (i:=i) (by omega) (by omega) hq
        generalize hP:atP (mps (atC s i)) 0=P at nx bad
        refine br_yes ⟨by omega,h2⟩ (br_yes hdl (br_intro (fun h3 => ?_) (fun h3 => ?_)))
        · have h3:decide (P.1 > 0)=true:=by rw [← hP]; exact h3
          refine br_not (fun h4 => ?_) (fun h4 => ?_)
          · have h4:okD d P.1=false:=by rw [← hP]; exact h4
            show _=_
            rw [bad (sumK_1 h3 h4)]
          · have h4':okD d P.1=true:=by rw [← hP]; exact h4
            have hk:=okD_lt h4'
            rw [← hP] at hk
            refine br_yes ⟨Int.natCast_nonneg _,Int.ofNat_lt.2 hk⟩ (br_bne (fun h5 => ?_) (fun h5 => ?_))
            · have h5:((atP d (lnD d P.1)).1==P.2.1)=false:=by rw [← hP]; exact h5
              show _=_
              rw [bad ((sumK_2 h3 h4').trans h5)]
            · have h5:((atP d (lnD d P.1)).1==P.2.1)=true:=by rw [← hP]; exact h5
              exact nx ((sumK_2 h3 h4').trans h5)
        · have h3:decide (P.1 > 0)=false:=by rw [← hP]; exact h3
          exact nx (sumK_3 h3)
      · show evP E111 G111 _ (lp111 5) (si111 x s d p b f n i 1) (rkn111 _ _ 2 N 5 _)
        rw [bi111_1,Int.toNat_natCast,Int.toNat_natCast]
        have nx:sumK d (atP (mps (atC s i)) 1)=true→_:=fun hq=>next2 (by omega) () (by rw [pre_next s i (by omega)]; exact all_next hm hq)
        have bad:sumK d (atP (mps (atC s i)) 1)=false→_:=fun hq=>sums_f (i:=i) (by omega) (by omega) hq
        generalize hP:atP (mps (atC s i)) 1=P at nx bad
        refine br_yes ⟨by omega,h2⟩ (br_yes hdl (br_intro (fun h3 => ?_) (fun h3 => ?_)))
        · have h3:decide (P.1 > 0)=true:=by rw [← hP]; exact h3
          refine br_not (fun h4 => ?_) (fun h4 => ?_)
          · have h4:okD d P.1=false:=by rw [← hP]; exact h4
            show _=_
            rw [bad (sumK_1 h3 h4)]
          · have h4':okD d P.1=true:=by rw [← hP]; exact h4
            have hk:=okD_lt h4'
            rw [← hP] at hk
            refine br_yes ⟨Int.natCast_nonneg _,Int.ofNat_lt.2 hk⟩ (br_bne (fun h5 => ?_) (fun h5 => ?_))
            · have h5:((atP d (lnD d P.1)).1==P.2.1)=false:=by rw [← hP]; exact h5
              show _=_
              rw [bad ((sumK_2 h3 h4').trans h5)]
            · have h5:((atP d (lnD d P.1)).1==P.2.1)=true:=by rw [← hP]; exact h5
              exact nx ((sumK_2 h3 h4').trans h5)
        · have h3:decide (P.1 > 0)=false:=by rw [← hP]; exact h3
          exact nx (sumK_3 h3)
      · show evP E111 G111 _ (lp111 5) (si111 x s d p b f n i 2) (rkn111 _ _ 2 N 5 _)
        rw [bi111_2,Int.toNat_natCast,Int.toNat_natCast]
        have nx:sumK d (atP (mps (atC s i)) 2)=true→_:=fun hq=>next2 (by omega) () (by rw [pre_next s i (by omega)]; exact all_next hm hq)
        have bad:sumK d (atP (mps (atC s i)) 2)=false→_:=fun hq=>sums_f (i:=i) (by omega) (by omega) hq
        generalize hP:atP (mps (atC s i)) 2=P at nx bad
        refine br_yes ⟨by omega,h2⟩ (br_yes hdl (br_intro (fun h3 => ?_) (fun h3 => ?_)))
        · have h3:decide (P.1 > 0)=true:=by rw [← hP]; exact h3
          refine br_not (fun h4 => ?_) (fun h4 => ?_)
          · have h4:okD d P.1=false:=by rw [← hP]; exact h4
            show _=_
            rw [bad (sumK_1 h3 h4)]
          · have h4':okD d P.1=true:=by rw [← hP]; exact h4
            have hk:=okD_lt h4'
            rw [← hP] at hk
            refine br_yes ⟨Int.natCast_nonneg _,Int.ofNat_lt.2 hk⟩ (br_bne (fun h5 => ?_) (fun h5 => ?_))
            · have h5:((atP d (lnD d P.1)).1==P.2.1)=false:=by rw [← hP]; exact h5
              show _=_
              rw [bad ((sumK_2 h3 h4').trans h5)]
            · have h5:((atP d (lnD d P.1)).1==P.2.1)=true:=by rw [← hP]; exact h5
              exact nx ((sumK_2 h3 h4').trans h5)
        · have h3:decide (P.1 > 0)=false:=by rw [← hP]; exact h3
          exact nx (sumK_3 h3)
      · show evP E111 G111 _ (lp111 5) (si111 x s d p b f n i 3) (rkn111 _ _ 2 N 5 _)
        rw [bi111_3,Int.toNat_natCast,Int.toNat_natCast]
        have nx:sumK d (atP (mps (atC s i)) 3)=true→_:=fun hq=>next2 (by omega) () (by rw [pre_next s i (by omega)]; exact all_next hm hq)
        have bad:sumK d (atP (mps (atC s i)) 3)=false→_:=fun hq=>sums_f (i:=i) (by omega) (by omega) hq
        generalize hP:atP (mps (atC s i)) 3=P at nx bad
        refine br_yes ⟨by omega,h2⟩ (br_yes hdl (br_intro (fun h3 => ?_) (fun h3 => ?_)))
        · have h3:decide (P.1 > 0)=true:=by rw [← hP]; exact h3
          refine br_not (fun h4 => ?_) (fun h4 => ?_)
          · have h4:okD d P.1=false:=by rw [← hP]; exact h4
            show _=_
            rw [bad (sumK_1 h3 h4)]
          · have h4':okD d P.1=true:=by rw [← hP]; exact h4
            have hk:=okD_lt h4'
            rw [← hP] at hk
            refine br_yes ⟨Int.natCast_nonneg _,Int.ofNat_lt.2 hk⟩ (br_bne (fun h5 => ?_) (fun h5 => ?_))
            · have h5:((atP d (lnD d P.1)).1==P.2.1)=false:=by rw [← hP]; exact h5
              show _=_
              rw [bad ((sumK_2 h3 h4').trans h5)]
            · have h5:((atP d (lnD d P.1)).1==P.2.1)=true:=by rw [← hP]; exact h5
              exact nx ((sumK_2 h3 h4').trans h5)
        · have h3:decide (P.1 > 0)=false:=by rw [← hP]; exact h3
          exact nx (sumK_3 h3)
      · show evP E111 G111 _ (lp111 5) (si111 x s d p b f n i 4) (rkn111 _ _ 2 N 5 _)
        rw [bi111_4,Int.toNat_natCast,Int.toNat_natCast]
        have nx:sumK d (atP (mps (atC s i)) 4)=true→_:=fun hq=>next2 (by omega) () (by rw [pre_next s i (by omega)]; exact all_next hm hq)
        have bad:sumK d (atP (mps (atC s i)) 4)=false→_:=fun hq=>sums_f (i:=i) (by omega) (by omega) hq
        generalize hP:atP (mps (atC s i)) 4=P at nx bad
        refine br_yes ⟨by omega,h2⟩ (br_yes hdl (br_intro (fun h3 => ?_) (fun h3 => ?_)))
        · have h3:decide (P.1 > 0)=true:=by rw [← hP]; exact h3
          refine br_not (fun h4 => ?_) (fun h4 => ?_)
          · have h4:okD d P.1=false:=by rw [← hP]; exact h4
            show _=_
            rw [bad (sumK_1 h3 h4)]
          · have h4':okD d P.1=true:=by rw [← hP]; exact h4
            have hk:=okD_lt h4'
            rw [← hP] at hk
            refine br_yes ⟨Int.natCast_nonneg _,Int.ofNat_lt.2 hk⟩ (br_bne (fun h5 => ?_) (fun h5 => ?_))
            · have h5:((atP d (lnD d P.1)).1==P.2.1)=false:=by rw [← hP]; exact h5
              show _=_
              rw [bad ((sumK_2 h3 h4').trans h5)]
            · have h5:((atP d (lnD d P.1)).1==P.2.1)=true:=by rw [← hP]; exact h5
              exact nx ((sumK_2 h3 h4').trans h5)
        · have h3:decide (P.1 > 0)=false:=by rw [← hP]; exact h3
          exact nx (sumK_3 h3)
      · show evP E111 G111 _ (lp111 5) (si111 x s d p b f n i 5) (rkn111 _ _ 2 N 5 _)
        rw [bi111_5,Int.toNat_natCast,Int.toNat_natCast]
        have nx:sumK d (atP (mps (atC s i)) 5)=true→_:=fun hq=>next2 (by omega) () (by rw [pre_next s i (by omega)]; exact all_next hm hq)
        have bad:sumK d (atP (mps (atC s i)) 5)=false→_:=fun hq=>sums_f (i:=i) (by omega) (by omega) hq
        generalize hP:atP (mps (atC s i)) 5=P at nx bad
        refine br_yes ⟨by omega,h2⟩ (br_yes hdl (br_intro (fun h3 => ?_) (fun h3 => ?_)))
        · have h3:decide (P.1 > 0)=true:=by rw [← hP]; exact h3
          refine br_not (fun h4 => ?_) (fun h4 => ?_)
          · have h4:okD d P.1=false:=by rw [← hP]; exact h4
            show _=_
            rw [bad (sumK_1 h3 h4)]
          · have h4':okD d P.1=true:=by rw [← hP]; exact h4
            have hk:=okD_lt h4'
            rw [← hP] at hk
            refine br_yes ⟨Int.natCast_nonneg _,Int.ofNat_lt.2 hk⟩ (br_bne (fun h5 => ?_) (fun h5 => ?_))
            · have h5:((atP d (lnD d P.1)).1==P.2.1)=false:=by rw [← hP]; exact h5
              show _=_
              rw [bad ((sumK_2 h3 h4').trans h5)]
            · have h5:((atP d (lnD d P.1)).1==P.2.1)=true:=by rw [← hP]; exact h5
              exact nx ((sumK_2 h3 h4').trans h5)
        · have h3:decide (P.1 > 0)=false:=by rw [← hP]; exact h3
          exact nx (sumK_3 h3)
      · show evP E111 G111 _ (lp111 5) (si111 x s d p b f n i 6) (rkn111 _ _ 2 N 5 _)
        rw [bi111_6,Int.toNat_natCast,Int.toNat_natCast]
        have nx:sumK d (atP (mps (atC s i)) 6)=true→_:=fun hq=>next2 (by omega) () (by rw [pre_next s i (by omega)]; exact all_next hm hq)
        have bad:sumK d (atP (mps (atC s i)) 6)=false→_:=fun hq=>sums_f (i:=i) (by omega) (by omega) hq
        generalize hP:atP (mps (atC s i)) 6=P at nx bad
        refine br_yes ⟨by omega,h2⟩ (br_yes hdl (br_intro (fun h3 => ?_) (fun h3 => ?_)))
        · have h3:decide (P.1 > 0)=true:=by rw [← hP]; exact h3
          refine br_not (fun h4 => ?_) (fun h4 => ?_)
          · have h4:okD d P.1=false:=by rw [← hP]; exact h4
            show _=_
            rw [bad (sumK_1 h3 h4)]
          · have h4':okD d P.1=true:=by rw [← hP]; exact h4
            have hk:=okD_lt h4'
            rw [← hP] at hk
            refine br_yes ⟨Int.natCast_nonneg _,Int.ofNat_lt.2 hk⟩ (br_bne (fun h5 => ?_) (fun h5 => ?_))
            · have h5:((atP d (lnD d P.1)).1==P.2.1)=false:=by rw [← hP]; exact h5
              show _=_
              rw [bad ((sumK_2 h3 h4').trans h5)]
            · have h5:((atP d (lnD d P.1)).1==P.2.1)=true:=by rw [← hP]; exact h5
              exact nx ((sumK_2 h3 h4').trans h5)
        · have h3:decide (P.1 > 0)=false:=by rw [← hP]; exact h3
          exact nx (sumK_3 h3)
      · show evP E111 G111 _ (lp111 5) (si111 x s d p b f n i 7) (rkn111 _ _ 2 N 5 _)
        rw [bi111_7,Int.toNat_natCast,Int.toNat_natCast]
        have nx:sumK d (atP (mps (atC s i)) 7)=true→_:=fun hq=>next2 (by omega) () (by rw [pre_next s i (by omega)]; exact all_next hm hq)
        have bad:sumK d (atP (mps (atC s i)) 7)=false→_:=fun hq=>sums_f (i:=i) (by omega) (by omega) hq
        generalize hP:atP (mps (atC s i)) 7=P at nx bad
        refine br_yes ⟨by omega,h2⟩ (br_yes hdl (br_intro (fun h3 => ?_) (fun h3 => ?_)))
        · have h3:decide (P.1 > 0)=true:=by rw [← hP]; exact h3
          refine br_not (fun h4 => ?_) (fun h4 => ?_)
          · have h4:okD d P.1=false:=by rw [← hP]; exact h4
            show _=_
            rw [bad (sumK_1 h3 h4)]
          · have h4':okD d P.1=true:=by rw [← hP]; exact h4
            have hk:=okD_lt h4'
            rw [← hP] at hk
            refine br_yes ⟨Int.natCast_nonneg _,Int.ofNat_lt.2 hk⟩ (br_bne (fun h5 => ?_) (fun h5 => ?_))
            · have h5:((atP d (lnD d P.1)).1==P.2.1)=false:=by rw [← hP]; exact h5
              show _=_
              rw [bad ((sumK_2 h3 h4').trans h5)]
            · have h5:((atP d (lnD d P.1)).1==P.2.1)=true:=by rw [← hP]; exact h5
              exact nx ((sumK_2 h3 h4').trans h5)
        · have h3:decide (P.1 > 0)=false:=by rw [← hP]; exact h3
          exact nx (sumK_3 h3)
      · show evP E111 G111 _ (lp111 5) (si111 x s d p b f n i 8) (rkn111 _ _ 2 N 5 _)
        rw [bi111_8,wrap_id (n:=(i:Int)+1) (by omega) (by omega)]
        exact next (by omega) () (by rw [← pre_end (by omega)]; exact hm)
    · show _=_
      have e:i=s.length:=by omega
      rw [e,pre_all] at hm
      rw [hm]
  · exact h.elim
theorem csI_len(d l:List (Elem k3)):(csI d l).length=d.length:=by unfold csI; rw [List.length_map,List.length_range]
theorem csI_at(d l:List (Elem k3)){k:Nat}(hk:k < d.length):(csI d l).getD k (edflt ki)=((cnI d l k:Int),()):=by
  unfold csI
  rw [List.getD_eq_getElem?_getD,List.getElem?_map,List.getElem?_range hk]
  rfl
theorem cnI_next(d l:List (Elem k3))(e:Elem k3)(k:Nat):cnI d (l ++ [e]) k=cnI d l k+if (e.1 != 0&&(bsD d e.1==k))=true then 1 else 0:=by
  unfold cnI
  rw [List.countP_append,List.countP_cons,List.countP_nil]
  simp
theorem cnI_le(d l:List (Elem k3))(k:Nat):cnI d l k≤l.length:=List.countP_le_length
theorem csI_zero{d l:List (Elem k3)}{e:Elem k3}(h:(e.1==0)=true):csI d (l ++ [e])=csI d l:=by
  unfold csI
  refine List.map_congr_left fun k hk => ?_
  rw [cnI_next,if_neg (by unfold bne; rw [h]; exact Bool.false_ne_true)]
  rfl
theorem csI_one{d l:List (Elem k3)}{e:Elem k3}(h:(e.1==0)=false):csI d (l ++ [e])=(csI d l).set (bsD d e.1) ((cnI d l (bsD d e.1):Int)+1,()):=by
  have hb:(e.1 != 0)=true:=by unfold bne; rw [h]; rfl
  unfold csI
  refine List.ext_getElem (by simp) fun k h1 h2 => ?_
  rw [List.getElem_set]
  simp only [List.getElem_map,List.getElem_range]
  rw [cnI_next,hb,Bool.true_and]
  by_cases e1:bsD d e.1=k
  · rw [if_pos (by rw [beq_iff_eq]; exact e1),if_pos e1,e1]
    rfl
  · rw [if_neg (by rw [beq_iff_eq]; exact e1),if_neg e1]
    rfl
theorem prI_0{d:List (Elem k3)}{p:Elem k3}(h:(p.1==0)=true):prI d p=true:=by unfold prI; rw [h]; rfl
theorem prI_1{d:List (Elem k3)}{p:Elem k3}(h:(p.1==0)=false)(h2:bkD d p.1=false):prI d p=false:=by unfold prI; rw [h,h2]; rfl
theorem prI_2{d:List (Elem k3)}{p:Elem k3}(h:(p.1==0)=false)(h2:bkD d p.1=true):prI d p=((atP d (bsD d p.1)).1==p.2.1):=by unfold prI; rw [h,h2]; rfl
theorem cntI_f{d:List (Elem k3)}{s:List (Elem kc)}{i j:Nat}(hi:i < s.length)(hj:j < 8)(h:prI d (atP (mps (atC s i)) j)=false):cntI d s=false:=by
  have:(ptsOf s).all (prI d)=false:=by
    rw [List.all_eq_false]
    exact ⟨_,pts_mem hi hj,by rw [h]; exact Bool.false_ne_true⟩
  unfold cntI
  rw [this]
  rfl
theorem h135:G1Ok Tryz.prog 135 g135:=by
  intro args obs k h
  unfold g135 at h
  split at h
  · rename_i k us
    split at h
    rotate_left
    · exact h.elim
    rename_i c hc
    obtain rfl:=coreOf_inv hc
    obtain ⟨x,s,d,p,b,f,n⟩:=c
    obtain ⟨hp,h⟩:=br_and h
    have hl:s.length≤1048576:=smCo_s hp
    have hdl:d.length≤1048576:=smCo_d hp
    refine ⟨_,ctr_fn okf hg135 Tryz.func135 (by kernel_rfl) (by kernel_rfl) (by kernel_rfl) fun C => ?_,h⟩
    show bodyP Ef G135 _ Tryz.f135 [coreAV x s d p b f n] [] _
    rw [e135]
    refine br_yes ⟨by omega,by omega,by omega⟩ ?_
    refine loopUp okf135 hg135 (fun i cs=>st135 x s d p b f n i cs) s.length (fun i cs=>cs=csI d (preP s i 0)∧(preP s i 0).all (prI d)=true) (fun N i cs hi hm next => ?_) _ ⟨by
      rw [pre_zero,Int.toNat_natCast]
      unfold csI
      refine List.ext_getElem (by simp) fun k h1 h2 => ?_
      rw [List.getElem_replicate,List.getElem_map]
      rfl,by rw [pre_zero]; rfl⟩
    obtain ⟨hm,hall⟩:=hm
    show evP E135 G135 _ (lp135 3) (st135 x s d p b f n i cs) (rk135 _ _ 3 _)
    rw [b135,Int.toNat_natCast]
    refine br_dec (fun h2=>br_yes ⟨by omega,h2⟩ ?_) (fun h2 => ?_)
    · refine loopUp okf135 hg135 (fun j cs=>si135 x s d p b f n i j (atC s i) cs) 8 (fun j cs=>cs=csI d (preP s i j)∧(preP s i j).all (prI d)=true) (fun N2 j cs hj hm next2 => ?_) cs ⟨hm,hall⟩
      obtain ⟨hm,hall⟩:=hm
      have hcl:cs.length=d.length:=by rw [hm,csI_len]
      have cj:j=0∨j=1∨j=2∨j=3∨j=4∨j=5∨j=6∨j=7∨j=8:=by omega
      rcases cj with rfl | rfl | rfl | rfl | rfl | rfl | rfl | rfl | rfl
      · show evP E135 G135 _ (lp135 6) (si135 x s d p b f n i 0 (atC s i) cs) (rkn135 _ _ 3 N 6 _)
        rw [bi135_0]
        have hn:=pre_next s i (j:=0) (by omega)
        have hle:=pre_len s i 0
        generalize hP:atP (mps (atC s i)) 0=P at hn
        have hPm:prI d P=false→cntI d s=false:=fun hq=>cntI_f (i:=i) (j:=0) (by omega) (by omega) (by rw [hP]; exact hq)
        refine br_intro (fun h3 => ?_) (fun h3 => ?_)
        · have h3:(P.1==0)=true:=by rw [← hP]; exact h3
          exact next2 (by omega) cs ⟨by rw [hn,csI_zero h3]; exact hm,by rw [hn]; exact all_next hall (prI_0 h3)⟩
        have h3:(P.1==0)=false:=by rw [← hP]; exact h3
        refine br_yes hdl (br_not (fun h4 => ?_) (fun h4 => ?_))
        · have h4:bkD d P.1=false:=by rw [← hP]; exact h4
          show _=_
          rw [hPm (prI_1 h3 h4)]
        · have h4':bkD d P.1=true:=by rw [← hP]; exact h4
          have hk:=bkD_lt h4'
          have hk':bsD d P.1 < cs.length:=by omega
          rw [← hP] at hk hk'
          refine br_yes ⟨Int.natCast_nonneg _,Int.ofNat_lt.2 hk⟩ (br_bne (fun h5 => ?_) (fun h5=>br_yes ⟨Int.natCast_nonneg _,Int.ofNat_lt.2 hk'⟩ (br_yes ⟨Int.natCast_nonneg _,Int.ofNat_lt.2 hk'⟩ ?_)))
          · have h5:((atP d (bsD d P.1)).1==P.2.1)=false:=by rw [← hP]; exact h5
            show _=_
            rw [hPm ((prI_2 h3 h4').trans h5)]
          · have h5:((atP d (bsD d P.1)).1==P.2.1)=true:=by rw [← hP]; exact h5
            refine next2 (by omega) _ ⟨?_,by rw [hn]; exact all_next hall ((prI_2 h3 h4').trans h5)⟩
            have hc:=cnI_le d (preP s i 0) (bsD d P.1)
            rw [hP] at hk
            show cs.set (((bsD d (atP (mps (atC s i)) 0).1:Nat):Int)).toNat (IntKind.i64.wrap ((cs.getD (((bsD d (atP (mps (atC s i)) 0).1:Nat):Int)).toNat (edflt ki)).1+1),())=_
            rw [hP,hn,csI_one h3,Int.toNat_natCast,hm,csI_at d _ hk,wrap_id (n:=((cnI d (preP s i 0) (bsD d P.1):Nat):Int)+1) (by omega) (by omega)]
      · show evP E135 G135 _ (lp135 6) (si135 x s d p b f n i 1 (atC s i) cs) (rkn135 _ _ 3 N 6 _)
        rw [bi135_1]
        have hn:=pre_next s i (j:=1) (by omega)
        have hle:=pre_len s i 1
        generalize hP:atP (mps (atC s i)) 1=P at hn
        have hPm:prI d P=false→cntI d s=false:=fun hq=>cntI_f (i:=i) (j:=1) (by omega) (by omega) (by rw [hP]; exact hq)
        refine br_intro (fun h3 => ?_) (fun h3 => ?_)
        · have h3:(P.1==0)=true:=by rw [← hP]; exact h3
          exact next2 (by omega) cs ⟨by rw [hn,csI_zero h3]; exact hm,by rw [hn]; exact all_next hall (prI_0 h3)⟩
        have h3:(P.1==0)=false:=by rw [← hP]; exact h3
        refine br_yes hdl (br_not (fun h4 => ?_) (fun h4 => ?_))
        · have h4:bkD d P.1=false:=by rw [← hP]; exact h4
          show _=_
          rw [hPm (prI_1 h3 h4)]
        · have h4':bkD d P.1=true:=by rw [← hP]; exact h4
          have hk:=bkD_lt h4'
          have hk':bsD d P.1 < cs.length:=by omega
          rw [← hP] at hk hk'
          refine br_yes ⟨Int.natCast_nonneg _,Int.ofNat_lt.2 hk⟩ (br_bne (fun h5 => ?_) (fun h5=>br_yes ⟨Int.natCast_nonneg _,Int.ofNat_lt.2 hk'⟩ (br_yes ⟨Int.natCast_nonneg _,Int.ofNat_lt.2 hk'⟩ ?_)))
          · have h5:((atP d (bsD d P.1)).1==P.2.1)=false:=by rw [← hP]; exact h5
            show _=_
            rw [hPm ((prI_2 h3 h4').trans h5)]
          · have h5:((atP d (bsD d P.1)).1==P.2.1)=true:=by rw [← hP]; exact h5
            refine next2 (by omega) _ ⟨?_,by rw [hn]; exact all_next hall ((prI_2 h3 h4').trans h5)⟩
            have hc:=cnI_le d (preP s i 1) (bsD d P.1)
            rw [hP] at hk
            show cs.set (((bsD d (atP (mps (atC s i)) 1).1:Nat):Int)).toNat (IntKind.i64.wrap ((cs.getD (((bsD d (atP (mps (atC s i)) 1).1:Nat):Int)).toNat (edflt ki)).1+1),())=_
            rw [hP,hn,csI_one h3,Int.toNat_natCast,hm,csI_at d _ hk,wrap_id (n:=((cnI d (preP s i 1) (bsD d P.1):Nat):Int)+1) (by omega) (by omega)]
      · show evP E135 G135 _ (lp135 6) (si135 x s d p b f n i 2 (atC s i) cs) (rkn135 _ _ 3 N 6 _)
        rw [bi135_2]
        have hn:=pre_next s i (j:=2) (by omega)
        have hle:=pre_len s i 2
        generalize hP:atP (mps (atC s i)) 2=P at hn
        have hPm:prI d P=false→cntI d s=false:=fun hq=>cntI_f (i:=i) (j:=2) (by omega) (by omega) (by rw [hP]; exact hq)
        refine br_intro (fun h3 => ?_) (fun h3 => ?_)
        · have h3:(P.1==0)=true:=by rw [← hP]; exact h3
          exact next2 (by omega) cs ⟨by rw [hn,csI_zero h3]; exact hm,by rw [hn]; exact all_next hall (prI_0 h3)⟩
        have h3:(P.1==0)=false:=by rw [← hP]; exact h3
        refine br_yes hdl (br_not (fun h4 => ?_) (fun h4 => ?_))
        · have h4:bkD d P.1=false:=by rw [← hP]; exact h4
          show _=_
          rw [hPm (prI_1 h3 h4)]
        · have h4':bkD d P.1=true:=by rw [← hP]; exact h4
          have hk:=bkD_lt h4'
          have hk':bsD d P.1 < cs.length:=by omega
          rw [← hP] at hk hk'
          refine br_yes ⟨Int.natCast_nonneg _,Int.ofNat_lt.2 hk⟩ (br_bne (fun h5 => ?_) (fun h5=>br_yes ⟨Int.natCast_nonneg _,Int.ofNat_lt.2 hk'⟩ (br_yes ⟨Int.natCast_nonneg _,Int.ofNat_lt.2 hk'⟩ ?_)))
          · have h5:((atP d (bsD d P.1)).1==P.2.1)=false:=by rw [← hP]; exact h5
            show _=_
            rw [hPm ((prI_2 h3 h4').trans h5)]
          · have h5:((atP d (bsD d P.1)).1==P.2.1)=true:=by rw [← hP]; exact h5
            refine next2 (by omega) _ ⟨?_,by rw [hn]; exact all_next hall ((prI_2 h3 h4').trans h5)⟩
            have hc:=cnI_le d (preP s i 2) (bsD d P.1)
            rw [hP] at hk
            show cs.set (((bsD d (atP (mps (atC s i)) 2).1:Nat):Int)).toNat (IntKind.i64.wrap ((cs.getD (((bsD d (atP (mps (atC s i)) 2).1:Nat):Int)).toNat (edflt ki)).1+1),())=_
            rw [hP,hn,csI_one h3,Int.toNat_natCast,hm,csI_at d _ hk,wrap_id (n:=((cnI d (preP s i 2) (bsD d P.1):Nat):Int)+1) (by omega) (by omega)]
      · show evP E135 G135 _ (lp135 6) (si135 x s d p b f n i 3 (atC s i) cs) (rkn135 _ _ 3 N 6 _)
        rw [bi135_3]
        have hn:=pre_next s i (j:=3) (by omega)
        have hle:=pre_len s i 3
        generalize hP:atP (mps (atC s i)) 3=P at hn
        have hPm:prI d P=false→cntI d s=false:=fun hq=>cntI_f (i:=i) (j:=3) (by omega) (by omega) (by rw [hP]; exact hq)
        refine br_intro (fun h3 => ?_) (fun h3 => ?_)
        · have h3:(P.1==0)=true:=by rw [← hP]; exact h3
          exact next2 (by omega) cs ⟨by rw [hn,csI_zero h3]; exact hm,by rw [hn]; exact all_next hall (prI_0 h3)⟩
        have h3:(P.1==0)=false:=by rw [← hP]; exact h3
        refine br_yes hdl (br_not (fun h4 => ?_) (fun h4 => ?_))
        · have h4:bkD d P.1=false:=by rw [← hP]; exact h4
          show _=_
          rw [hPm (prI_1 h3 h4)]
        · have h4':bkD d P.1=true:=by rw [← hP]; exact h4
          have hk:=bkD_lt h4'
          have hk':bsD d P.1 < cs.length:=by omega
          rw [← hP] at hk hk'
          refine br_yes ⟨Int.natCast_nonneg _,Int.ofNat_lt.2 hk⟩ (br_bne (fun h5 => ?_) (fun h5=>br_yes ⟨Int.natCast_nonneg _,Int.ofNat_lt.2 hk'⟩ (br_yes ⟨Int.natCast_nonneg _,Int.ofNat_lt.2 hk'⟩ ?_)))
          · have h5:((atP d (bsD d P.1)).1==P.2.1)=false:=by rw [← hP]; exact h5
            show _=_
            rw [hPm ((prI_2 h3 h4').trans h5)]
          · have h5:((atP d (bsD d P.1)).1==P.2.1)=true:=by rw [← hP]; exact h5
            refine next2 (by omega) _ ⟨?_,by rw [hn]; exact all_next hall ((prI_2 h3 h4').trans h5)⟩
            have hc:=cnI_le d (preP s i 3) (bsD d P.1)
            rw [hP] at hk
            show cs.set (((bsD d (atP (mps (atC s i)) 3).1:Nat):Int)).toNat (IntKind.i64.wrap ((cs.getD (((bsD d (atP (mps (atC s i)) 3).1:Nat):Int)).toNat (edflt ki)).1+1),())=_
            rw [hP,hn,csI_one h3,Int.toNat_natCast,hm,csI_at d _ hk,wrap_id (n:=((cnI d (preP s i 3) (bsD d P.1):Nat):Int)+1) (by omega) (by omega)]
      · show evP E135 G135 _ (lp135 6) (si135 x s d p b f n i 4 (atC s i) cs) (rkn135 _ _ 3 N 6 _)
        rw [bi135_4]
        have hn:=pre_next s i (j:=4) (by omega)
        have hle:=pre_len s i 4
        generalize hP:atP (mps (atC s i)) 4=P at hn
        have hPm:prI d P=false→cntI d s=false:=fun hq=>cntI_f (i:=i) (j:=4) (by omega) (by omega) (by rw [hP]; exact hq)
        refine br_intro (fun h3 => ?_) (fun h3 => ?_)
        · have h3:(P.1==0)=true:=by rw [← hP]; exact h3
          exact next2 (by omega) cs ⟨by rw [hn,csI_zero h3]; exact hm,by rw [hn]; exact all_next hall (prI_0 h3)⟩
        have h3:(P.1==0)=false:=by rw [← hP]; exact h3
        refine br_yes hdl (br_not (fun h4 => ?_) (fun h4 => ?_))
        · have h4:bkD d P.1=false:=by rw [← hP]; exact h4
          show _=_
          rw [hPm (prI_1 h3 h4)]
        · have h4':bkD d P.1=true:=by rw [← hP]; exact h4
          have hk:=bkD_lt h4'
          have hk':bsD d P.1 < cs.length:=by omega
          rw [← hP] at hk hk'
          refine br_yes ⟨Int.natCast_nonneg _,Int.ofNat_lt.2 hk⟩ (br_bne (fun h5 => ?_) (fun h5=>br_yes ⟨Int.natCast_nonneg _,Int.ofNat_lt.2 hk'⟩ (br_yes ⟨Int.natCast_nonneg _,Int.ofNat_lt.2 hk'⟩ ?_)))
          · have h5:((atP d (bsD d P.1)).1==P.2.1)=false:=by rw [← hP]; exact h5
            show _=_
            rw [hPm ((prI_2 h3 h4').trans h5)]
          · have h5:((atP d (bsD d P.1)).1==P.2.1)=true:=by rw [← hP]; exact h5
            refine next2 (by omega) _ ⟨?_,by rw [hn]; exact all_next hall ((prI_2 h3 h4').trans h5)⟩
            have hc:=cnI_le d (preP s i 4) (bsD d P.1)
            rw [hP] at hk
            show cs.set (((bsD d (atP (mps (atC s i)) 4).1:Nat):Int)).toNat (IntKind.i64.wrap ((cs.getD (((bsD d (atP (mps (atC s i)) 4).1:Nat):Int)).toNat (edflt ki)).1+1),())=_
            rw [hP,hn,csI_one h3,Int.toNat_natCast,hm,csI_at d _ hk,wrap_id (n:=((cnI d (preP s i 4) (bsD d P.1):Nat):Int)+1) (by omega) (by omega)]
      · show evP E135 G135 _ (lp135 6) (si135 x s d p b f n i 5 (atC s i) cs) (rkn135 _ _ 3 N 6 _)
        rw [bi135_5]
        have hn:=pre_next s i (j:=5) (by omega)
        have hle:=pre_len s i 5
        generalize hP:atP (mps (atC s i)) 5=P at hn
        have hPm:prI d P=false→cntI d s=false:=fun hq=>cntI_f (i:=i) (j:=5) (by omega) (by omega) (by rw [hP]; exact hq)
        refine br_intro (fun h3 => ?_) (fun h3 => ?_)
        · have h3:(P.1==0)=true:=by rw [← hP]; exact h3
          exact next2 (by omega) cs ⟨by rw [hn,csI_zero h3]; exact hm,by rw [hn]; exact all_next hall (prI_0 h3)⟩
        have h3:(P.1==0)=false:=by rw [← hP]; exact h3
        refine br_yes hdl (br_not (fun h4 => ?_) (fun h4 => ?_))
        · have h4:bkD d P.1=false:=by rw [← hP]; exact h4
          show _=_
          rw [hPm (prI_1 h3 h4)]
        · have h4':bkD d P.1=true:=by rw [← hP]; exact h4
          have hk:=bkD_lt h4'
          have hk':bsD d P.1 < cs.length:=by omega
          rw [← hP] at hk hk'
          refine br_yes ⟨Int.natCast_nonneg _,Int.ofNat_lt.2 hk⟩ (br_bne (fun h5 => ?_) (fun h5=>br_yes ⟨Int.natCast_nonneg _,Int.ofNat_lt.2 hk'⟩ (br_yes ⟨Int.natCast_nonneg _,Int.ofNat_lt.2 hk'⟩ ?_)))
          · have h5:((atP d (bsD d P.1)).1==P.2.1)=false:=by rw [← hP]; exact h5
            show _=_
            rw [hPm ((prI_2 h3 h4').trans h5)]
          · have h5:((atP d (bsD d P.1)).1==P.2.1)=true:=by rw [← hP]; exact h5
            refine next2 (by omega) _ ⟨?_,by rw [hn]; exact all_next hall ((prI_2 h3 h4').trans h5)⟩
            have hc:=cnI_le d (preP s i 5) (bsD d P.1)
            rw [hP] at hk
            show cs.set (((bsD d (atP (mps (atC s i)) 5).1:Nat):Int)).toNat (IntKind.i64.wrap ((cs.getD (((bsD d (atP (mps (atC s i)) 5).1:Nat):Int)).toNat (edflt ki)).1+1),())=_
            rw [hP,hn,csI_one h3,Int.toNat_natCast,hm,csI_at d _ hk,wrap_id (n:=((cnI d (preP s i 5) (bsD d P.1):Nat):Int)+1) (by omega) (by omega)]
      · show evP E135 G135 _ (lp135 6) (si135 x s d p b f n i 6 (atC s i) cs) (rkn135 _ _ 3 N 6 _)
        rw [bi135_6]
        have hn:=pre_next s i (j:=6) (by omega)
        have hle:=pre_len s i 6
        generalize hP:atP (mps (atC s i)) 6=P at hn
        have hPm:prI d P=false→cntI d s=false:=fun hq=>cntI_f (i:=i) (j:=6) (by omega) (by omega) (by rw [hP]; exact hq)
        refine br_intro (fun h3 => ?_) (fun h3 => ?_)
        · have h3:(P.1==0)=true:=by rw [← hP]; exact h3
          exact next2 (by omega) cs ⟨by rw [hn,csI_zero h3]; exact hm,by rw [hn]; exact all_next hall (prI_0 h3)⟩
        have h3:(P.1==0)=false:=by rw [← hP]; exact h3
        refine br_yes hdl (br_not (fun h4 => ?_) (fun h4 => ?_))
        · have h4:bkD d P.1=false:=by rw [← hP]; exact h4
          show _=_
          rw [hPm (prI_1 h3 h4)]
        · have h4':bkD d P.1=true:=by rw [← hP]; exact h4
          have hk:=bkD_lt h4'
          have hk':bsD d P.1 < cs.length:=by omega
          rw [← hP] at hk hk'
          refine br_yes ⟨Int.natCast_nonneg _,Int.ofNat_lt.2 hk⟩ (br_bne (fun h5 => ?_) (fun h5=>br_yes ⟨Int.natCast_nonneg _,Int.ofNat_lt.2 hk'⟩ (br_yes ⟨Int.natCast_nonneg _,Int.ofNat_lt.2 hk'⟩ ?_)))
          · have h5:((atP d (bsD d P.1)).1==P.2.1)=false:=by rw [← hP]; exact h5
            show _=_
            rw [hPm ((prI_2 h3 h4').trans h5)]
          · have h5:((atP d (bsD d P.1)).1==P.2.1)=true:=by rw [← hP]; exact h5
            refine next2 (by omega) _ ⟨?_,by rw [hn]; exact all_next hall ((prI_2 h3 h4').trans h5)⟩
            have hc:=cnI_le d (preP s i 6) (bsD d P.1)
            rw [hP] at hk
            show cs.set (((bsD d (atP (mps (atC s i)) 6).1:Nat):Int)).toNat (IntKind.i64.wrap ((cs.getD (((bsD d (atP (mps (atC s i)) 6).1:Nat):Int)).toNat (edflt ki)).1+1),())=_
            rw [hP,hn,csI_one h3,Int.toNat_natCast,hm,csI_at d _ hk,wrap_id (n:=((cnI d (preP s i 6) (bsD d P.1):Nat):Int)+1) (by omega) (by omega)]
      · show evP E135 G135 _ (lp135 6) (si135 x s d p b f n i 7 (atC s i) cs) (rkn135 _ _ 3 N 6 _)
        rw [bi135_7]
        have hn:=pre_next s i (j:=7) (by omega)
        have hle:=pre_len s i 7
        generalize hP:atP (mps (atC s i)) 7=P at hn
        have hPm:prI d P=false→cntI d s=false:=fun hq=>cntI_f (i:=i) (j:=7) (by omega) (by omega) (by rw [hP]; exact hq)
        refine br_intro (fun h3 => ?_) (fun h3 => ?_)
        · have h3:(P.1==0)=true:=by rw [← hP]; exact h3
          exact next2 (by omega) cs ⟨by rw [hn,csI_zero h3]; exact hm,by rw [hn]; exact all_next hall (prI_0 h3)⟩
        have h3:(P.1==0)=false:=by rw [← hP]; exact h3
        refine br_yes hdl (br_not (fun h4 => ?_) (fun h4 => ?_))
        · have h4:bkD d P.1=false:=by rw [← hP]; exact h4
          show _=_
          rw [hPm (prI_1 h3 h4)]
        · have h4':bkD d P.1=true:=by rw [← hP]; exact h4
          have hk:=bkD_lt h4'
          have hk':bsD d P.1 < cs.length:=by omega
          rw [← hP] at hk hk'
          refine br_yes ⟨Int.natCast_nonneg _,Int.ofNat_lt.2 hk⟩ (br_bne (fun h5 => ?_) (fun h5=>br_yes ⟨Int.natCast_nonneg _,Int.ofNat_lt.2 hk'⟩ (br_yes ⟨Int.natCast_nonneg _,Int.ofNat_lt.2 hk'⟩ ?_)))
          · have h5:((atP d (bsD d P.1)).1==P.2.1)=false:=by rw [← hP]; exact h5
            show _=_
            rw [hPm ((prI_2 h3 h4').trans h5)]
          · have h5:((atP d (bsD d P.1)).1==P.2.1)=true:=by rw [← hP]; exact h5
            refine next2 (by omega) _ ⟨?_,by rw [hn]; exact all_next hall ((prI_2 h3 h4').trans h5)⟩
            have hc:=cnI_le d (preP s i 7) (bsD d P.1)
            rw [hP] at hk
            show cs.set (((bsD d (atP (mps (atC s i)) 7).1:Nat):Int)).toNat (IntKind.i64.wrap ((cs.getD (((bsD d (atP (mps (atC s i)) 7).1:Nat):Int)).toNat (edflt ki)).1+1),())=_
            rw [hP,hn,csI_one h3,Int.toNat_natCast,hm,csI_at d _ hk,wrap_id (n:=((cnI d (preP s i 7) (bsD d P.1):Nat):Int)+1) (by omega) (by omega)]
      · show evP E135 G135 _ (lp135 6) (si135 x s d p b f n i 8 (atC s i) cs) (rkn135 _ _ 3 N 6 _)
        rw [bi135_8,wrap_id (n:=(i:Int)+1) (by omega) (by omega)]
        exact next (by omega) cs ⟨by rw [← pre_end (by omega)]; exact hm,by rw [← pre_end (by omega)]; exact hall⟩
    · have e:i=s.length:=by omega
      rw [e,pre_all] at hm hall
      have hcl:cs.length=d.length:=by rw [hm,csI_len]
      have hc:cntI d s=allB d.length fun k=>(atP d k).2.2.1==(cnI d (ptsOf s) k:Int):=by
        unfold cntI
        rw [hall,Bool.true_and]
      refine loopAll okf135 hg135 (fun i=>so72 d i cs) d.length (fun k=>(atP d k).2.2.1==(cnI d (ptsOf s) k:Int)) (by omega) (fun N2 k hk hw next2 fails2 done2 => ?_)
      show evP E135 G135 _ (lp135 16) (so72 d k cs) (rk135 _ _ 16 _)
      rw [bo72,hw,Int.toNat_natCast]
      refine br_dec (fun h3=>br_yes ⟨by omega,h3⟩ (br_yes ⟨by omega,by omega⟩ ?_)) (fun h3 => ?_)
      · have hcs:cs.getD k (edflt ki)=((cnI d (ptsOf s) k:Int),()):=by rw [hm,csI_at d _ (by omega)]
        rw [hcs]
        refine br_bne (fun h4 => ?_) (fun h4=>next2 (by omega) h4)
        show _=_
        rw [hc,fails2 (by omega) h4]
      · show _=_
        rw [hc,done2 (by omega)]
  · exact h.elim
end Go.Proofs.YtkjnijddbiconaaGreatDoor.Ev
