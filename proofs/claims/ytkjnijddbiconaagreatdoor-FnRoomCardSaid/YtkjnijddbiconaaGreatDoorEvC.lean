/- From what a statement says of arguments to abstract values. -/
import Derived.Test.YtkjnijddbiconaaGreatDoorEvB
import Derived.WalkKit
import Derived.ProofKit
import Derived.OpenShut
import Derived.ShutString
import Derived.ChangeOld
import Derived.Below
import Derived.Carry
import Derived.SizedLaws
import Derived.Laws.Externs
import Derived.LaidMore
import Derived.MakeChecks
import Derived.Deep.DeepHandedRow
import Derived.Lib.LaidTab
import Derived.Lib.Bytealg
import Derived.Lib.SplitLaws
namespace Go.Proofs.YtkjnijddbiconaaGreatDoor.Ev
open Go
set_option linter.unusedVariables false
set_option linter.unusedSimpArgs false
variable {P:Program} {H:Type} {enc:TypeId × Value→H} {w:World} {base:Nat} {spare:Nat→Bool} {held:Bool}
inductive SK
  | cell (c:CK)
  | slc (cs:List CK)
@[reducible] def Sd:List SK→Type
  | []=>Unit
  | .cell c :: r=>c.T × Sd r
  | .slc cs :: r=>List (Elem cs) × Sd r
def toAVs:(sk:List SK)→Sd sk→List AV
  | [],_ => []
  | .cell c :: r,d => .val (c.val d.1) :: toAVs r d.2
  | .slc cs :: r,d => .rsl cs d.1 :: toAVs r d.2
def ckOk:(c:CK)→c.T→Prop
  | .int k,n=>(Lit.int k n).wf=true
  | .str,s=>s.size≤maxLen
  | .bool,_=>True
def elemOk:(cs:List CK)→Elem cs→Prop
  | [],_=>True
  | c :: cs,e=>ckOk c e.1∧elemOk cs e.2
def sdOk:(sk:List SK)→Sd sk→Prop
  | [],_=>True
  | .cell c :: r,d=>ckOk c d.1∧sdOk r d.2
  | .slc cs :: r,d=>(d.1.length≤maxLen ∧ ∀ e∈d.1,elemOk cs e)∧sdOk r d.2
def joinSd:(sk sk':List SK)→Sd sk→Sd sk'→Sd (sk++sk')
  | [],_,_,d=>d
  | .cell _ :: r,sk',d,d'=>(d.1,joinSd r sk' d.2 d')
  | .slc _ :: r,sk',d,d'=>(d.1,joinSd r sk' d.2 d')
theorem toAVs_join : ∀ (sk sk':List SK) (d:Sd sk) (d':Sd sk'),toAVs (sk++sk') (joinSd sk sk' d d')=toAVs sk d++toAVs sk' d'
  | [],_,_,_=>rfl
  | .cell _ :: r,sk',d,d'=>by simp [toAVs,joinSd,toAVs_join r sk' d.2 d']
  | .slc _ :: r,sk',d,d'=>by simp [toAVs,joinSd,toAVs_join r sk' d.2 d']
theorem sdOk_join : ∀ (sk sk':List SK) (d:Sd sk) (d':Sd sk'),sdOk sk d→sdOk sk' d'→sdOk (sk++sk') (joinSd sk sk' d d')
  | [],_,_,_,_,h=>h
  | .cell _ :: r,sk',d,d',h,h'=>⟨h.1,sdOk_join r sk' d.2 d' h.2 h'⟩
  | .slc _ :: r,sk',d,d',h,h'=>⟨h.1,sdOk_join r sk' d.2 d' h.2 h'⟩
def shapeFs(P:Program)(g:TypeId→Option (List SK)):List Field→Nat→Option (List SK)
  | [],_=>some []
  | f :: fs,off=>if f.offset=off then match g f.type with
      | some k=>if k.length=P.cellsOf f.type then match shapeFs P g fs (off+k.length) with
        | some ks=>some (k++ks)
        | none=>none
        else none
      | none=>none
    else none
def shapeN(k:List SK):Nat→List SK
  | 0 => []
  | n+1=>k++shapeN k n
def cellsSK:List SK→Option (List CK)
  | []=>some []
  | .cell c :: r=>match cellsSK r with
    | some cs=>some (c :: cs)
    | none=>none
  | .slc _ :: _=>none
def shapeB(P:Program):Nat→TypeId→Option (List SK)
  | 0,_=>none
  | d+1,t=>match P.underlying t with
    | some (.int k)=>some [.cell (.int k)]
    | some .bool=>some [.cell .bool]
    | some .string=>some [.cell .str]
    | some (.slice e)=>match shapeB P d e with
      | some sk=>match cellsSK sk with
        | some cs=>if cs.length=P.cellsOf e then some [.slc cs] else none
        | none=>none
      | none=>none
    | some (.array n e)=>match shapeB P d e with
      | some k=>if k.length=P.cellsOf e∧(shapeN k n).length=P.cellsOf t then some (shapeN k n) else none
      | none=>none
    | some (.struct fs)=>match shapeFs P (shapeB P d) fs.toList 0 with
      | some ks=>if ks.length=P.cellsOf t then some ks else none
      | none=>none
    | _=>none
theorem mapM_at{α β:Type}{g:α→Option β} : ∀ (xs:List α) (ys:List β),xs.mapM g=some ys→ys.length=xs.length ∧ ∀ (i:Nat) (x:α),xs[i]? = some x → ∃ y,g x=some y∧ys[i]? = some y
  | [],ys,h=>by simp at h; subst h; exact ⟨rfl,fun i x h=>by simp at h⟩
  | x :: xs,ys,h=>by
    rw [List.mapM_cons] at h
    cases hx:g x with
    | none=>simp [hx] at h
    | some y =>
      cases hr:xs.mapM g with
      | none=>simp [hx,hr] at h
      | some ys' =>
        simp [hx,hr] at h
        subst h
        obtain ⟨h1,h2⟩:=mapM_at xs ys' hr
        refine ⟨by simp [h1],fun i z hz => ?_⟩
        cases i with
        | zero=>simp at hz; subst hz; exact ⟨y,hx,rfl⟩
        | succ i=>simpa using h2 i z (by simpa using hz)
theorem cells_at{a:Addr}{n:Nat}{cs:List Value}(h:w.cells? base a n=some cs):cs.length=n ∧ ∀ i u,cs[i]? = some u→w.cell? (a.add i)=some u:=by
  unfold World.cells? at h
  split at h
  · obtain ⟨h1,h2⟩:=mapM_at _ _ h
    simp at h1
    refine ⟨h1,fun i u hu => ?_⟩
    have hi:=(List.getElem?_eq_some_iff.1 hu).1
    obtain ⟨y,g1,g2⟩:=h2 i i (by rw [List.getElem?_range (by omega)])
    rw [hu] at g2
    rw [g1]; exact g2.symm
  · cases h
theorem cellsSK_vals : ∀ (sk:List SK) (cs:List CK),cellsSK sk=some cs → ∀ (d:Sd sk),sdOk sk d → ∃ e:Elem cs,toAVs sk d=(vals cs e).map .val∧elemOk cs e
  | [],cs,h,d,_=>by simp [cellsSK] at h; subst h; exact ⟨(),rfl,trivial⟩
  | .slc _ :: r,cs,h,d,_=>by simp [cellsSK] at h
  | .cell c :: r,cs,h,d,hd=>by
    simp only [cellsSK] at h
    split at h
    · rename_i cs' hcs
      obtain rfl:=Option.some.inj h
      obtain ⟨e,h1,h2⟩:=cellsSK_vals r cs' hcs d.2 hd.2
      exact ⟨(d.1,e),by simp [toAVs,vals,h1],hd.1,h2⟩
    · cases h
theorem RL_vals_eq{S:Sb}{σ:Sg} : ∀ {vs ws:List Value},RL S σ (vs.map .val) ws→ws=vs
  | [],ws,h=>List.eq_nil_of_length_eq_zero (by have:=h.1; simpa using this.symm)
  | v :: vs,ws,h=>by
    obtain ⟨u,us,rfl,h1,h2⟩:=h.uncons
    cases h1
    rw [RL_vals_eq h2]
theorem build_list{α:Type}{Q:Nat→α→Prop} : ∀ (n:Nat),(∀ i,i < n → ∃ e,Q i e) → ∃ xs:List α,xs.length=n ∧ ∀ (i:Nat) (e:α),xs[i]? = some e→Q i e
  | 0,_=>⟨[],rfl,fun i e h=>by simp at h⟩
  | n+1,h=>by
    obtain ⟨xs,h1,h2⟩:=build_list n fun i hi=>h i (by omega)
    obtain ⟨e,he⟩:=h n (by omega)
    refine ⟨xs ++ [e],by simp [h1],fun i y hy => ?_⟩
    by_cases hi:i < n
    · rw [List.getElem?_append_left (by omega)] at hy
      exact h2 i y hy
    · rw [List.getElem?_append_right (by omega)] at hy
      have hz:i - xs.length=0:=by
        have:=(List.getElem?_eq_some_iff.1 hy).1
        simp at this
        omega
      rw [hz] at hy
      simp at hy
      subst hy
      have:i=n:=by omega
      rw [this]; exact he
theorem take_two{α:Type}(l:List α)(off a b:Nat):(l.drop off).take (a+b)=(l.drop off).take a++(l.drop (off+a)).take b:=by
  rw [List.take_add,List.drop_drop]
theorem trod_read(σ:Sg) : ∀ (fuel d:Nat) (t:TypeId) (cs:List Value) (x:DataW H × List MemPlace) (sk:List SK),shapeB P d t=some sk→DataW.trod enc P w base spare held fuel t cs=some x →
    ∃ v:Sd sk,RL (SH w) σ (toAVs sk v) cs∧sdOk sk v
  | 0,d,t,cs,x,sk,_,h=>by simp [DataW.trod] at h
  | fuel+1,0,t,cs,x,sk,hs,h=>by simp [shapeB] at hs
  | fuel+1,d+1,t,cs,x,sk,hs,h=>by
    simp only [shapeB] at hs
    unfold DataW.trod at h
    split at hs
    · rename_i k hk
      obtain rfl:=Option.some.inj hs
      simp only [hk] at h
      split at h<;>try (simp_all; done)
      rename_i k1 k2 n e2
      split at h
      · rename_i hw
        obtain ⟨rfl,hw⟩:=hw
        simp at e2
        subst e2
        exact ⟨(n,()),.cons (.val _) .nil,hw,trivial⟩
      · cases h
    · rename_i hk
      obtain rfl:=Option.some.inj hs
      simp only [hk] at h
      split at h<;>try (simp_all; done)
      rename_i b _
      exact ⟨(b,()),.cons (.val _) .nil,trivial,trivial⟩
    · rename_i hk
      obtain rfl:=Option.some.inj hs
      simp only [hk] at h
      split at h<;>try (simp_all; done)
      rename_i s _
      split at h
      · rename_i hs
        exact ⟨(s,()),.cons (.val _) .nil,hs,trivial⟩
      · cases h
    · rename_i e hk
      split at hs
      · rename_i ske hske
        split at hs
        · rename_i cks hcks
          split at hs
          · rename_i hlen
            obtain rfl:=Option.some.inj hs
            simp only [hk] at h
            split at h<;>try (simp_all; done)
            · refine ⟨([],()),.cons (.rsl cks [] none 0 (by simp) fun j u hu=>by simp [flat] at hu) .nil,⟨by simp [maxLen],fun e he=>by simp at he⟩,trivial⟩
            · rename_i e' ad len cap he'
              simp at he'
              subst he'
              split at h
              · rename_i hb
                cases hm:(List.range len).mapM (fun i=>(w.cells? base (ad.add (i * P.cellsOf e)) (P.cellsOf e)).bind (DataW.trod enc P w base spare held fuel e)) with
                | none=>rw [hm] at h; simp at h
                | some ys =>
                  obtain ⟨hl,hat⟩:=mapM_at _ _ hm
                  have each : ∀ i,i < len → ∃ el:Elem cks,elemOk cks el ∧ ∀ r u,(vals cks el)[r]? = some u→w.cell? ((ad.add (i * cks.length)).add r)=some u:=by
                    intro i hi
                    obtain ⟨y,hy,_⟩:=hat i i (by rw [List.getElem?_range hi])
                    cases hc:w.cells? base (ad.add (i * P.cellsOf e)) (P.cellsOf e) with
                    | none=>rw [hc] at hy; simp at hy
                    | some cs =>
                      rw [hc] at hy
                      obtain ⟨v,g1,g2⟩:=trod_read σ fuel d e cs y ske hske hy
                      obtain ⟨el,g3,g4⟩:=cellsSK_vals ske cks hcks v g2
                      rw [g3] at g1
                      have:=RL_vals_eq g1
                      subst this
                      obtain ⟨_,g5⟩:=cells_at hc
                      rw [← hlen] at g5
                      exact ⟨el,g4,g5⟩
                  obtain ⟨xs,hxl,hxs⟩:=build_list len each
                  refine ⟨(xs,()),.cons ?_ .nil,⟨by rw [hxl]; omega,fun el he => ?_⟩,trivial⟩
                  · have:=R.rsl (S:=SH w) (σ:=σ) cks xs (some ad) cap (by omega) fun j u hu=>⟨ad,rfl,by
                      have hj:=(List.getElem?_eq_some_iff.1 hu).1
                      rw [flat_length] at hj
                      have hc:0 < cks.length:=Nat.pos_of_mul_pos_left (Nat.lt_of_le_of_lt (Nat.zero_le _) hj)
                      have hi:j / cks.length < xs.length:=(Nat.div_lt_iff_lt_mul hc).2 hj
                      have hr:j % cks.length < cks.length:=Nat.mod_lt _ hc
                      have hsplit:j / cks.length * cks.length+j % cks.length=j:=by rw [Nat.mul_comm]; exact Nat.div_add_mod j cks.length
                      have hf:=flat_get cks xs (j / cks.length) (j % cks.length) hi hr
                      rw [hsplit,hu] at hf
                      have hel:xs[j / cks.length]? = some (xs.getD (j / cks.length) (edflt cks)):=by
                        rw [List.getD_eq_getElem?_getD,List.getElem?_eq_getElem hi]; rfl
                      have:=(hxs _ _ hel).2 _ u hf.symm
                      rw [Addr.add_add,hsplit] at this
                      exact cellS_of this⟩
                    rwa [hxl] at this
                  · obtain ⟨i,hi,rfl⟩:=List.getElem_of_mem he
                    exact (hxs i _ (List.getElem?_eq_getElem hi)).1
              · cases h
          · cases hs
        · cases hs
      · cases hs
    · rename_i n e hk
      split at hs
      · rename_i k hke
        split at hs
        · rename_i hlen
          obtain rfl:=Option.some.inj hs
          simp only [hk] at h
          split at h
          · rename_i hcl
            cases hm:(List.range n).mapM (fun i=>DataW.trod enc P w base spare held fuel e ((cs.drop (i * P.cellsOf e)).take (P.cellsOf e))) with
            | none=>rw [hm] at h; simp at h
            | some ys =>
              obtain ⟨_,hat⟩:=mapM_at _ _ hm
              have key : ∀ (q j:Nat),j+q=n → ∃ v:Sd (shapeN k q),RL (SH w) σ (toAVs (shapeN k q) v) ((cs.drop (j * k.length)).take (shapeN k q).length)∧sdOk (shapeN k q) v:=by
                intro q
                induction q with
                | zero=>intro j _; exact ⟨(),by simpa [shapeN,toAVs] using RL.nil,trivial⟩
                | succ q ih =>
                  intro j hj
                  obtain ⟨y,hy,_⟩:=hat j j (by rw [List.getElem?_range (by omega)])
                  obtain ⟨v1,g1,g2⟩:=trod_read σ fuel d e _ y k hke hy
                  obtain ⟨v2,g3,g4⟩:=ih (j+1) (by omega)
                  refine ⟨joinSd k (shapeN k q) v1 v2,?_,sdOk_join _ _ _ _ g2 g4⟩
                  simp only [shapeN]
                  rw [toAVs_join,List.length_append,take_two]
                  rw [← hlen.1] at g1
                  have e1:j * k.length+k.length=(j+1) * k.length:=by rw [Nat.add_mul]; omega
                  rw [e1]
                  exact g1.append g3
              obtain ⟨v,g1,g2⟩:=key n 0 (by omega)
              refine ⟨v,?_,g2⟩
              rw [hlen.2,← hcl] at g1
              simpa using g1
          · cases h
        · cases hs
      · cases hs
    · rename_i fs hk
      split at hs
      · rename_i ks hks
        split at hs
        · rename_i hlen
          obtain rfl:=Option.some.inj hs
          simp only [hk] at h
          split at h
          · rename_i hcl
            cases hm:fs.toList.mapM (fun f=>DataW.trod enc P w base spare held fuel f.type ((cs.drop f.offset).take (P.cellsOf f.type))) with
            | none=>rw [hm] at h; simp at h
            | some ys =>
              obtain ⟨_,hat⟩:=mapM_at _ _ hm
              have key : ∀ (gs:List Field) (off:Nat) (ks:List SK),(∀ g∈gs,∃ y,DataW.trod enc P w base spare held fuel g.type ((cs.drop g.offset).take (P.cellsOf g.type))=some y)→shapeFs P (shapeB P d) gs off=some ks →
                  ∃ v:Sd ks,RL (SH w) σ (toAVs ks v) ((cs.drop off).take ks.length)∧sdOk ks v:=by
                intro gs
                induction gs with
                | nil=>intro off ks _ hsf; simp [shapeFs] at hsf; subst hsf; exact ⟨(),by simpa [toAVs] using RL.nil,trivial⟩
                | cons g gs ih =>
                  intro off ks hall hsf
                  simp only [shapeFs] at hsf
                  split at hsf
                  · rename_i hoff
                    subst hoff
                    split at hsf
                    · rename_i k hke
                      split at hsf
                      · rename_i hkl
                        split at hsf
                        · rename_i ks' hks'
                          obtain rfl:=Option.some.inj hsf
                          obtain ⟨y,hy⟩:=hall g (by simp)
                          obtain ⟨v1,g1,g2⟩:=trod_read σ fuel d g.type _ y k hke hy
                          obtain ⟨v2,g3,g4⟩:=ih _ ks' (fun g' hg'=>hall g' (by simp [hg'])) hks'
                          refine ⟨joinSd k ks' v1 v2,?_,sdOk_join _ _ _ _ g2 g4⟩
                          rw [toAVs_join,List.length_append,take_two]
                          rw [← hkl] at g1
                          exact g1.append g3
                        · cases hsf
                      · cases hsf
                    · cases hsf
                  · cases hsf
              obtain ⟨v,g1,g2⟩:=key fs.toList 0 ks (fun g hg=>by
                obtain ⟨i,hi,rfl⟩:=List.getElem_of_mem hg
                obtain ⟨y,hy,_⟩:=hat i _ (List.getElem?_eq_getElem hi)
                exact ⟨y,hy⟩) hks
              refine ⟨v,?_,g2⟩
              rw [hlen,← hcl] at g1
              simpa using g1
          · cases h
        · cases hs
      · cases hs
    · cases hs
end Go.Proofs.YtkjnijddbiconaaGreatDoor.Ev

namespace Go.Proofs.YtkjnijddbiconaaGreatDoor.Ev
open Go Go.ChangeShapes Go.WideShapes Go.ChangeAt Go.RowKit
set_option linter.unusedVariables false
set_option linter.unusedSimpArgs false
variable {P:Program} {H:Type} {enc:TypeId × Value→H} {w:World} {base:Nat} {spare:Nat→Bool} {held:Bool}
def argAV(agg:Bool)(us:List AV):AV :=
  match agg with
  | true => .agg us
  | false=>us.headD .junk
theorem arg_read(σ:Sg){r:Reach}{b0 d:Nat}{t:TypeId}{sk:List SK}(hs:shapeB P d t=some sk){agg:Bool}(ha:aggT P t=agg){v:Value}(hval:Value.okWide P w r b0 t v){x:DataW H}{ps:List MemPlace}(h:DataW.Trod enc P w base spare held t v x ps) :
    ∃ y:Sd sk,R (SH w) σ (argAV agg (toAVs sk y)) v∧sdOk sk y:=by
  subst ha
  obtain ⟨fuel,hf⟩:=h
  obtain ⟨y,h1,h2⟩:=trod_read σ fuel d t _ (x,ps) sk hs hf
  refine ⟨y,?_,h2⟩
  have scalar : ∀ (hc:v.cells = #[v]) (hg:aggT P t=false),R (SH w) σ (argAV (aggT P t) (toAVs sk y)) v:=by
    intro hc hg
    rw [hc] at h1
    rw [hg]
    generalize toAVs sk y=us at h1
    cases us with
    | nil=>have:=h1.1; simp at this
    | cons a us =>
      obtain ⟨u,us',e,g1,g2⟩:=h1.uncons
      simp at e
      obtain ⟨rfl,rfl⟩:=e
      exact g1
  cases d with
  | zero=>simp [shapeB] at hs
  | succ d =>
    simp only [shapeB] at hs
    split at hs
    · rename_i k hk
      obtain ⟨n,rfl⟩:=okWide_int hk hval
      exact scalar rfl (by simp [aggT,hk])
    · rename_i hk
      obtain ⟨n,rfl⟩:=okWide_bool hk hval
      exact scalar rfl (by simp [aggT,hk])
    · rename_i hk
      obtain ⟨n,rfl⟩:=okWide_string hk hval
      exact scalar rfl (by simp [aggT,hk])
    · rename_i e hk
      obtain ⟨ad,len,cap,rfl⟩:=okWide_slice hk hval
      exact scalar rfl (by simp [aggT,hk])
    · rename_i n e hk
      simp only [Value.okWide,hk] at hval
      obtain ⟨cs,rfl,_,_⟩:=hval
      have:aggT P t=true:=by simp [aggT,hk]
      rw [this]
      have:=R.agg (S:=SH w) (σ:=σ) (toAVs sk y) cs.toList h1.1 h1.2
      simpa [argAV] using this
    · rename_i fs hk
      simp only [Value.okWide,hk] at hval
      obtain ⟨cs,rfl,_,_⟩:=hval
      have:aggT P t=true:=by simp [aggT,hk]
      rw [this]
      have:=R.agg (S:=SH w) (σ:=σ) (toAVs sk y) cs.toList h1.1 h1.2
      simpa [argAV] using this
    · cases hs
theorem ctr_calls{f : FuncId}{fn : Func}(hf : P.funcs[f]? = some fn)(hb : fn.body.isSome = true)(hn : (fn.name == "runtime.NumGoroutine") = false){args : List AV}(h : Ctr P f args [] ⟨.val (.bool true), [], []⟩){vs : List Value}
    (hR:RL (SH w) (fun _=>none) args vs) (ht:TabOK (SH w)):Calls P f vs.toArray w fun e w'=>e = .returned (.bool true)∧Below w.heap.size w w':=by
  obtain ⟨c,hc⟩:=Option.isSome_iff_exists.1 hb
  have hgo:=h (SH w) (fun _=>none) w vs hR ⟨fun o x ho=>by simp [number,lookN] at ho,fun o o' x x' k k' ho=>by simp [number,lookN] at ho,fun b x hb=>hb,fun o x k ho=>by simp [number,lookN] at ho,ht⟩ (fun q hq=>absurd rfl hq)
    ⟨some 0, .move (.const undef), 0, "", #[], none⟩ ⟨#[undef], []⟩ (fun a' w' => a'.tmps = #[.bool true] ∧ Below w.heap.size w w') (fun _ _ _ => False) fun v w' ⟨σ', h1, h2, h3, _, _⟩ => by
      cases h1
      refine ⟨rfl,h3.os,h3.tape,h3.output,h3.size,fun k hk => ?_⟩
      have:SH w k=some w.heap[k]:=by simp [SH,hk]
      rw [h2.st k _ this]
      simp [hk]
  rw [run_callFunc hf hc hn] at hgo
  refine Calls.mono hgo fun e w' he => ?_
  cases e with
  | returned v =>
    obtain ⟨h1,h2⟩:=he
    simp [Act.put] at h1
    exact ⟨by rw [h1],h2⟩
  | panicked ch=>exact he.elim
  | outgrown=>obtain ⟨a,w',h⟩:=he; exact h.elim
end Go.Proofs.YtkjnijddbiconaaGreatDoor.Ev

namespace Go.Proofs.YtkjnijddbiconaaGreatDoor.Ev
open Go
set_option linter.unusedVariables false
variable {P:Program}
structure Quiet (w w':World):Prop where
  tl:Tail w w'
  fr : ∀ (b:Nat) (x:Obj),w.heap[b]? = some x→w'.heap[b]? = some x
theorem ctr_lib{f : FuncId}{fn : Func}(hf : P.funcs[f]? = some fn)(hb : fn.body.isSome = true)(hn : (fn.name == "runtime.NumGoroutine") = false){args : List AV}{v : AV}
    (h : ∀ (S:Sb) (π:Sg) (w:World) (vs:List Value),RL S π args vs→(∀ b x,S b=some x→w.heap[b]? = some x)→TabW w→Calls P f vs.toArray w fun e w' => ∃ x,e = .returned x∧R S π v x∧Quiet w w'):Ctr P f args [] ⟨v,[],[]⟩:=by
  obtain ⟨c,hc⟩:=Option.isSome_iff_exists.1 hb
  intro S π w vs hR oi hπ o a K Q hk
  rw [run_callFunc hf hc hn]
  show Calls P f vs.toArray w _
  refine Calls.mono (h S π w vs hR oi.st (oi.tab w oi.st)) fun e w' ⟨x,he,hx,q⟩ => ?_
  subst he
  exact hk x w' ⟨π,hx,⟨fun o x ho=>by simp [number,lookN] at ho,fun o o' x x' k k' ho=>by simp [number,lookN] at ho,fun b x hb=>q.fr b x (oi.st b x hb),fun o x k ho=>by simp [number,lookN] at ho,oi.tab⟩,q.tl,hπ,fun i q hq=>by simp at hq⟩
theorem ctr_plain{f : FuncId}{fn : Func}(hf : P.funcs[f]? = some fn)(hb : fn.body.isSome = true)(hn : (fn.name == "runtime.NumGoroutine") = false){us : List Value}{v : Value}
    (h : ∀ w,TabW w→Calls P f us.toArray w fun e w'=>e = .returned v∧Quiet w w'):Ctr P f (us.map .val) [] ⟨.val v,[],[]⟩ :=
  ctr_lib hf hb hn fun S π w vs hR hS ht=>by
    obtain rfl:=RL_vals_eq hR
    exact Calls.mono (h w ht) fun e w' ⟨he,q⟩=>⟨v,he,.val v,q⟩
theorem Quiet.refl(w:World):Quiet w w:=⟨.refl w,fun _ _ h=>h⟩
end Go.Proofs.YtkjnijddbiconaaGreatDoor.Ev

namespace Go.Proofs.YtkjnijddbiconaaGreatDoor.Ev
open Go
set_option linter.unusedVariables false
end Go.Proofs.YtkjnijddbiconaaGreatDoor.Ev

namespace Go.Proofs.YtkjnijddbiconaaGreatDoor.Ev
open Go
set_option linter.unusedVariables false
variable {P:Program}
theorem bl_irrefl : ∀ (a:List UInt8),Op.bytesLess a a=false
  | []=>rfl
  | x :: a=>by simp [Op.bytesLess,bl_irrefl a]
theorem bl_trans : ∀ (a b c:List UInt8),Op.bytesLess a b=true→Op.bytesLess b c=true→Op.bytesLess a c=true
  | [],[],c,h,_=>by simp [Op.bytesLess] at h
  | [],_ :: _,[],_,h=>by simp [Op.bytesLess] at h
  | [],_ :: _,_ :: _,_,_=>by simp [Op.bytesLess]
  | _ :: _,[],_,h,_=>by simp [Op.bytesLess] at h
  | _ :: _,_ :: _,[],_,h=>by simp [Op.bytesLess] at h
  | x :: a,y :: b,z :: c,h1,h2=>by
    simp only [Op.bytesLess,Bool.or_eq_true,Bool.and_eq_true,decide_eq_true_eq,beq_iff_eq,UInt8.lt_iff_toNat_lt,← UInt8.toNat_inj] at *
    rcases h1 with h1 | ⟨h1,h1'⟩<;>rcases h2 with h2 | ⟨h2,h2'⟩
    · exact .inl (by omega)
    · exact .inl (by omega)
    · exact .inl (by omega)
    · exact .inr ⟨by omega,bl_trans a b c h1' h2'⟩
theorem bl_tri : ∀ (a b:List UInt8),Op.bytesLess a b=true∨a=b∨Op.bytesLess b a=true
  | [],[]=>by simp
  | [],_ :: _=>by simp [Op.bytesLess]
  | _ :: _,[]=>by simp [Op.bytesLess]
  | x :: a,y :: b=>by
    simp only [Op.bytesLess,Bool.or_eq_true,Bool.and_eq_true,decide_eq_true_eq,beq_iff_eq,UInt8.lt_iff_toNat_lt,← UInt8.toNat_inj,List.cons.injEq]
    rcases Nat.lt_trichotomy x.toNat y.toNat with h | h | h
    · exact .inl (.inl h)
    · rcases bl_tri a b with g | g | g
      · exact .inl (.inr ⟨h,g⟩)
      · exact .inr (.inl ⟨h,g⟩)
      · exact .inr (.inr (.inr ⟨h.symm,g⟩))
    · exact .inr (.inr (.inl h))
theorem bs_ext{a b:ByteArray}(h:a.toList=b.toList):a=b:=by
  rw [ByteArray.toList_eq,ByteArray.toList_eq] at h
  apply ByteArray.ext
  apply Array.ext'
  exact h
theorem strLt_irrefl(a:ByteArray):strLt a a=false:=bl_irrefl _
theorem strLt_trans{a b c:ByteArray}(h1:strLt a b=true)(h2:strLt b c=true):strLt a c=true:=bl_trans _ _ _ h1 h2
theorem strLt_tri(a b:ByteArray):strLt a b=true∨a=b∨strLt b a=true:=by
  rcases bl_tri a.toList b.toList with h | h | h
  · exact .inl h
  · exact .inr (.inl (bs_ext h))
  · exact .inr (.inr h)
theorem strLt_asymm{a b:ByteArray}(h1:strLt a b=true):strLt b a=false:=by
  cases h:strLt b a with
  | false=>rfl
  | true =>
    have:=strLt_trans h1 h
    rw [strLt_irrefl] at this
    cases this
theorem strEq_iff{a b:ByteArray}:strEq a b=true↔a=b:=by
  unfold strEq
  rw [beq_iff_eq]
  exact ⟨bs_ext,fun h=>by rw [h]⟩
theorem strEq_dec(a b:ByteArray):strEq a b=decide (a=b):=by
  rw [Bool.eq_iff_iff,strEq_iff,decide_eq_true_eq]
def ln(p:Nat→Bool)(n:Nat):Nat:=(List.range n).findIdx (fun i => !p i)
theorem ln_at{p:Nat→Bool}{n i:Nat}(h : ∀ j,j < i→p j=true)(hi:i < n)(hp:p i=false):ln p n=i:=by
  unfold ln
  rw [List.findIdx_eq (by simpa using hi)]
  simp only [List.getElem_range]
  exact ⟨by simp [hp],fun j hj=>by simp [h j hj]⟩
theorem ln_end{p:Nat→Bool}{n:Nat}(h : ∀ j,j < n→p j=true):ln p n=n:=by
  unfold ln
  have:(List.range n).findIdx (fun i => !p i)=(List.range n).length:=List.findIdx_eq_length.2 (by
    intro x hx
    simp [h x (by simpa using hx)])
  simpa using this
theorem ln_le(p:Nat→Bool)(n:Nat):ln p n≤n:=by
  have:=List.findIdx_le_length (p:=fun i => !p i) (xs:=List.range n)
  simpa [ln] using this
theorem ln_below{p:Nat→Bool}{n j:Nat}(hj:j < ln p n):p j=true:=by
  have h:=List.not_of_lt_findIdx (p:=fun i => !p i) (xs:=List.range n) hj
  simpa using h
theorem ln_fails{p:Nat→Bool}{n:Nat}(h:ln p n < n):p (ln p n)=false:=by
  have h2:=List.findIdx_getElem (p:=fun i => !p i) (xs:=List.range n) (w:=by rw [List.length_range]; exact h)
  simpa [ln] using h2
theorem ln_uniq{p:Nat→Bool}{n i:Nat}(h : ∀ j,j < i→p j=true)(hi:i≤n)(hp:i < n→p i=false):ln p n=i:=by
  by_cases e:i < n
  · exact ln_at h e (hp e)
  · have:i=n:=by omega
    subst this
    exact ln_end h
theorem ln_congr{p q:Nat→Bool}{n:Nat}(h : ∀ j,j < n→p j=q j):ln p n=ln q n:=by
  have l:=ln_le q n
  exact ln_uniq (fun j hj=>by rw [h j (by omega)]; exact ln_below hj) l (fun hi=>by rw [h _ hi]; exact ln_fails hi)
def bsf(p:Nat→Bool)(i j:Nat):Nat :=
  if h:i < j then if p ((i+j) / 2) then bsf p ((i+j) / 2+1) j else bsf p i ((i+j) / 2) else i
termination_by j - i
theorem bsf_le(p:Nat→Bool)(i j:Nat)(h:i≤j):i≤bsf p i j∧bsf p i j≤j:=by
  fun_induction bsf p i j with
  | case1 i j hlt hp ih=>have:=ih (by omega); omega
  | case2 i j hlt hp ih=>have:=ih (by omega); omega
  | case3 i j hlt=>omega
theorem bsf_ok(p:Nat→Bool)(n:Nat)(hp : ∀ a b,a≤b→b < n→p b=true→p a=true) : ∀ (i j:Nat),i≤j→j≤n→(∀ k,k < i→p k=true)→(∀ k,j≤k→k < n→p k=false) →
    (∀ k,k < bsf p i j→p k=true)∧(∀ k,bsf p i j≤k→k < n→p k=false):=by
  intro i j
  fun_induction bsf p i j with
  | case1 i j hlt hm ih =>
    intro h1 h2 h3 h4
    refine ih (by omega) h2 (fun k hk=>hp k ((i+j) / 2) (by omega) (by omega) hm) h4
  | case2 i j hlt hm ih =>
    intro h1 h2 h3 h4
    refine ih (by omega) (by omega) h3 (fun k hk hn => ?_)
    cases hk':p k with
    | false=>rfl
    | true=>exact absurd (hp _ k hk hn hk') hm
  | case3 i j hlt =>
    intro h1 h2 h3 h4
    exact ⟨h3,fun k hk hn=>h4 k (by omega) hn⟩
theorem bsf_ln{p:Nat→Bool}{n:Nat}(hp : ∀ a b,a≤b→b < n→p b=true→p a=true):bsf p 0 n=ln p n:=by
  obtain ⟨h1,h2⟩:=bsf_ok p n hp 0 n (Nat.zero_le _) (Nat.le_refl _) (fun k hk=>by omega) (fun k h1 h2=>by omega)
  obtain ⟨_,h4⟩:=bsf_le p 0 n (Nat.zero_le _)
  exact (ln_uniq h1 h4 (fun h=>h2 _ (Nat.le_refl _) h)).symm
theorem mid_eq{i j:Nat}(h1:i≤j)(h2:j≤4611686018427387903):IntKind.i64.wrap ((IntKind.u64.wrap (IntKind.i64.wrap ((i:Int)+j))).fdiv 2)=(((i+j) / 2:Nat):Int):=by
  rw [wrap_id (n:=(i:Int)+j) (by omega) (by omega)]
  have hu:IntKind.u64.wrap ((i:Int)+j)=(i:Int)+j:=by rw [IntKind.wrap_u64]; omega
  rw [hu,Int.fdiv_eq_ediv_of_nonneg _ (by omega)]
  rw [wrap_id (by omega) (by omega)]
  omega
theorem loopBs{E:Env}(ok:Ok P E){G:Gk}(hG:HG P G){C:Cx}(ST:Int→Int→St)(n:Nat)(p:Nat→Bool){c:Code}{k:Kt}(hn:n≤4611686018427387903)
    (body : ∀ (N:St→Prop) (i j:Nat),i≤j→j≤n→IntKind.i64.wrap ((IntKind.u64.wrap (IntKind.i64.wrap ((i:Int)+j))).fdiv 2)=(((i+j) / 2:Nat):Int) →
      (i < j→IntKind.i64.wrap ((((i+j) / 2:Nat):Int)+1)=(((i+j) / 2+1:Nat):Int)) →
      (i < j→p ((i+j) / 2)=true→N (ST (((i+j) / 2+1:Nat):Int) j))→(i < j→p ((i+j) / 2)=false→N (ST i (((i+j) / 2:Nat):Int)))→(¬ i < j→bsf p 0 n=i) →
      evP E G (LoopOk P C) c (ST i j) (rk (jof E c) N k)) (m:Int) (hm:m=n):LoopOk P C c (ST 0 m) k:=by
  subst hm
  exact loopR ok hG (ι := {q:Nat × Nat // q.1≤q.2∧q.2≤n∧bsf p q.1 q.2=bsf p 0 n}) (fun q=>ST q.1.1 q.1.2) (fun q=>q.1.2 - q.1.1) (fun ⟨(i,j),h0,h1,hb⟩=>by
    simp only at h0 h1 hb
    refine body _ i j h0 h1 (mid_eq h0 (by omega)) (fun h => ?_) (fun h2 h3 => ?_) (fun h2 h3 => ?_) (fun h2 => ?_)
    · rw [wrap_id (by omega) (by omega)]; omega
    · rw [bsf,dif_pos h2,if_pos h3] at hb
      exact ⟨⟨((i+j) / 2+1,j),by show (i+j) / 2+1≤j; omega,h1,hb⟩,rfl,by show j - ((i+j) / 2+1) < j - i; omega⟩
    · rw [bsf,dif_pos h2,if_neg (by simp [h3])] at hb
      exact ⟨⟨(i,(i+j) / 2),by show i≤(i+j) / 2; omega,by show (i+j) / 2≤n; omega,hb⟩,rfl,by show (i+j) / 2 - i < j - i; omega⟩
    · rw [bsf,dif_neg h2] at hb
      exact hb.symm) ⟨(0,n),Nat.zero_le _,Nat.le_refl _,rfl⟩
theorem loopLn{E:Env}(ok:Ok P E){G:Gk}(hG:HG P G){C:Cx}(ST:Int→St)(n:Nat)(p:Nat→Bool){c:Code}{k:Kt}
    (hn:n < 9223372036854775807)
    (body : ∀ (N:St→Prop) (i:Nat),i≤n→IntKind.i64.wrap ((i:Int)+1)=(i:Int)+1→(i < n→p i=true→N (ST ((i:Int)+1)))→(i < n→p i=false→ln p n=i)→(¬ i < n→ln p n=i) →
      evP E G (LoopOk P C) c (ST i) (rk (jof E c) N k)):LoopOk P C c (ST 0) k :=
  loopUp ok hG (α:=Unit) (fun i _=>ST i) n (fun i _ => ∀ j,j < i→p j=true)
    (fun N i _ hi hall hN=>body N i hi (wrap_id (by omega) (by omega)) (fun h1 h2=>hN h1 () (fun j hj=>by
      by_cases e:j < i
      · exact hall j e
      · have:j=i:=by omega
        rw [this]; exact h2)) (fun h1 h2=>ln_at hall h1 h2) (fun h1=>by
          have:i=n:=by omega
          subst this
          exact ln_end hall)) () (fun j hj=>by omega)
theorem fd_ln{p e:Nat→Bool}{n:Nat}(h1 : ∀ i,i < n→p i=true→e i=false)(h2 : ∀ i j,i < j→j < n→e j=true→p i=true) :
    fd n e=match decide (ln p n < n)&&e (ln p n) with | true=>some (ln p n) | false=>none:=by
  have hle:=ln_le p n
  cases he:decide (ln p n < n)&&e (ln p n) with
  | true =>
    simp only [Bool.and_eq_true,decide_eq_true_eq] at he
    exact fd_at (fun j hj=>h1 j (by omega) (ln_below hj)) he.1 he.2
  | false =>
    refine fd_none fun j hj => ?_
    rcases Nat.lt_trichotomy j (ln p n) with h | h | h
    · exact h1 j hj (ln_below h)
    · subst h
      rw [decide_eq_true hj,Bool.true_and] at he
      exact he
    · cases hej:e j with
      | false=>rfl
      | true =>
        have:=h2 _ j h hj hej
        rw [ln_fails (p:=p) (n:=n) (by omega)] at this
        cases this
def chain(st:Nat→Bool ⊕ Nat):Nat→Nat→Bool
  | 0,_=>false
  | m+1,a=>match st a with
    | .inl b=>b
    | .inr k=>chain st m k
theorem chain_mono(st:Nat→Bool ⊕ Nat) : ∀ (m a:Nat),chain st m a=true→chain st (m+1) a=true
  | 0,a,h=>by cases h
  | m+1,a,h=>by
    unfold chain at h ⊢
    split at h
    · exact h
    · exact chain_mono st m _ h
theorem chain_stable(st:Nat→Bool ⊕ Nat)(n:Nat)(hst : ∀ a k,a < n→st a = .inr k→k < n)(m:Nat)(h : ∀ a,a < n→chain st m a=chain st (m+1) a) :
    ∀ a,a < n→chain st (m+1) a=chain st (m+2) a:=by
  intro a ha
  conv=>lhs; unfold chain
  conv=>rhs; unfold chain
  split
  · rfl
  · rename_i k hk
    exact h k (hst a k ha hk)
theorem cnt_le{p q:Nat→Bool} : ∀ (l:List Nat),(∀ a∈l,p a=true→q a=true)→l.countP p≤l.countP q
  | l,h=>List.countP_mono_left h
theorem cnt_eq{p q:Nat→Bool} : ∀ (l:List Nat),(∀ a∈l,p a=true→q a=true)→l.countP p=l.countP q → ∀ a∈l,p a=q a
  | [],_,_,a,ha=>by cases ha
  | x :: l,h,e,a,ha=>by
    have h1:=cnt_le (p:=p) (q:=q) l (fun a ha=>h a (by simp [ha]))
    have hx:=h x (by simp)
    rw [List.countP_cons,List.countP_cons] at e
    have e1:p x=q x:=by
      cases hp:p x with
      | true=>rw [hx hp]
      | false =>
        cases hq:q x with
        | false=>rfl
        | true=>simp [hp,hq] at e; omega
    rw [e1] at e
    rcases List.mem_cons.1 ha with rfl | ha
    · exact e1
    · exact cnt_eq l (fun a ha=>h a (by simp [ha])) (by omega) a ha
theorem chain_enough(st:Nat→Bool ⊕ Nat)(n:Nat)(hst : ∀ a k,a < n→st a = .inr k→k < n) : ∀ a,a < n→chain st n a=chain st (n+1) a:=by
  have key : ∀ m,m≤(List.range n).countP (chain st m) ∨ ∀ a,a < n→chain st m a=chain st (m+1) a:=by
    intro m
    induction m with
    | zero=>exact .inl (Nat.zero_le _)
    | succ m ih =>
      rcases ih with ih | ih
      · by_cases e:(List.range n).countP (chain st m)=(List.range n).countP (chain st (m+1))
        · have h2:=cnt_eq (List.range n) (fun a _ h=>chain_mono st m a h) e
          exact .inr (chain_stable st n hst m fun a ha=>h2 a (by simpa using ha))
        · have h2:=cnt_le (List.range n) (fun a _ h=>chain_mono st m a h)
          exact .inl (by omega)
      · exact .inr (chain_stable st n hst m ih)
  rcases key n with h | h
  · by_cases e:(List.range n).countP (chain st n)=(List.range n).countP (chain st (n+1))
    · intro a ha
      exact cnt_eq (List.range n) (fun a _ h=>chain_mono st n a h) e a (by simpa using ha)
    · have h2:=cnt_le (List.range n) (fun a _ h=>chain_mono st n a h)
      have h3:(List.range n).countP (chain st (n+1))≤n:=by
        have:=List.countP_le_length (p:=chain st (n+1)) (l:=List.range n)
        simpa using this
      omega
  · exact h
end Go.Proofs.YtkjnijddbiconaaGreatDoor.Ev

namespace Go.Proofs.YtkjnijddbiconaaGreatDoor.Ev
open Go
set_option linter.unusedVariables false
variable {P:Program}
end Go.Proofs.YtkjnijddbiconaaGreatDoor.Ev
