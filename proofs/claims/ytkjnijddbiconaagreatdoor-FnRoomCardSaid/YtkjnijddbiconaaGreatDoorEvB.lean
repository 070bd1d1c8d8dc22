/- Every operation but calls of functions: the evaluator says what the model does. -/
import Derived.Test.YtkjnijddbiconaaGreatDoorEvA
import Derived.KernelRfl
import Derived.Laws.StructEq
import Derived.ChangeKeysEq
namespace Go.Proofs.YtkjnijddbiconaaGreatDoor.Ev
open Go
set_option linter.unusedVariables false
set_option linter.unusedSimpArgs false
variable {P:Program} {E:Env} {S:Sb} {σ:Sg} {l:List AV} {a:Act} {ob:Ob} {w:World}
theorem Does.row(oi:OI S σ ob w){nb:Nat}(hn:σ nb=none){cs:List CK}{xs:List (Elem cs)}{n cap m:Nat}{cur:Array Value}{e:TypeId}(hm:cs.length=m)(hx:xs.length=n)(hcap:n≤cap)(hsz:cap * m≤cur.size)
    (hc:cur.toList.take (flat cs xs).length=flat cs xs) :
    ∃ σ',Does S σ ob w nb (.ows nb) [(nb,some (.row cs xs))] (.slice (some ⟨w.heap.size,0,none⟩) n cap) (w.alloc (.cells cur e)) σ':=by
  let k:Bk:=⟨w.heap.size,n,m,cur.size,true⟩
  refine ⟨fun p=>if p=nb then some k else σ p,Does.alloc oi (k:=k) hn rfl (.ows nb k cap (by simp) rfl hcap hsz) ⟨hx,fun h=>by simp [k] at h,fun _=>⟨hm,cur,e,heap_alloc_new w _,rfl,hc⟩⟩⟩
theorem kindsOf_ok(tt:TTOK P E.tt){t:Nat}{te:TI}{cs:List CK}(h:kindsOf E t=some (te,cs)) : ∃ e,P.underlying t=some (.slice e)∧RowOK P e te∧cs=te.cks∧lookN E.tt e=some te ∧ ∃ a b c d,lookN E.tt t=some ⟨.slice e,a,b,c,d⟩:=by
  unfold kindsOf at h
  split at h
  · rename_i e a b c d hl
    split at h
    · rename_i ti hte
      simp at h
      obtain ⟨rfl,rfl⟩:=h
      exact ⟨e,(tt.row hl).slice rfl,tt.row hte,rfl,hte,a,b,c,d,hl⟩
    · cases h
  · cases h
theorem makeSlice_ok(tt:TTOK P E.tt)(oi:OI S σ ob w){t:Nat}{te:TI}{cs:List CK}(hk:kindsOf E t=some (te,cs))(hcs:cs.length=te.size)(hby:0 < te.bytes){n m:Int}(h0:0≤n)(h1:n≤m)(h2:(te.bytes:Int) * m≤281474976710656)
    {nb:Nat} (hn:σ nb=none) : ∃ v' w' σ',(Instr.makeSlice t (.int .i64 n) (.int .i64 m)).run P w = .ok v' w'∧Does S σ ob w nb (.ows nb) [(nb,some (.row cs (List.replicate n.toNat (edflt cs))))] v' w' σ':=by
  obtain ⟨e,hu,row,rfl,_⟩:=kindsOf_ok tt hk
  obtain ⟨i,hi,his,hib,hiz⟩:=row.info
  have hm:m≤281474976710656:=by
    have:m≤(te.bytes:Int) * m:=by
      have h3:1 * m≤(te.bytes:Int) * m:=Int.mul_le_mul_of_nonneg_right (by omega) (by omega)
      omega
    omega
  have hrun:=run_make (P:=P) w t e i te.zero hu hi hiz .i64 .i64 n m h0 h1 (by rw [hib]; exact h2) (by omega)
  have hnm:n.toNat≤m.toNat:=by omega
  have hlen:(flat te.cks (List.replicate n.toNat (edflt te.cks))).length=n.toNat * te.size:=by rw [flat_length,hcs]; simp
  obtain ⟨σ',hd⟩:=Does.row oi (nb:=nb) hn (cs:=te.cks) (xs:=List.replicate n.toNat (edflt te.cks)) (n:=n.toNat) (cap:=m.toNat) (m:=te.size) (cur:=madeCells te.zero.cells (m.toNat * i.size)) (e:=e) hcs (by simp) hnm
    (by rw [size_madeCells,his]; exact Nat.le_refl _) (by
      rw [hlen]
      by_cases hz:0 < m.toNat * te.size
      · rw [his,made_ok row m.toNat hz,flat_replicate]
        have hpos:0 < te.size:=Nat.pos_of_mul_pos_left hz
        rcases row.k with hk | hk
        · rw [hk] at hcs; simp at hcs; omega
        · rw [hk]
          have hvl:(vals te.cks (edflt te.cks)).length=te.size:=by rw [vals_length,hcs]
          obtain ⟨d,hd⟩ : ∃ d,m.toNat=n.toNat+d:=⟨m.toNat - n.toNat,by omega⟩
          rw [hd,← List.replicate_append_replicate,List.flatten_append]
          have:n.toNat * te.size=((List.replicate n.toNat (vals te.cks (edflt te.cks))).flatten).length:=by simp [hvl]
          rw [this]
          exact List.take_left
      · have hz0:n.toNat * te.size=0:=by
          have:=Nat.mul_le_mul_right te.size hnm
          omega
        have:flat te.cks (List.replicate n.toNat (edflt te.cks)) = []:=List.eq_nil_of_length_eq_zero (by rw [hlen,hz0])
        rw [this,hz0]; rfl)
  exact ⟨_,_,σ',hrun,hd⟩
theorem zeroRow_RL(ti:TI) : ∀ (n:Nat),RL S σ (zeroRow ti n) ((List.replicate n (ti.z.map zval)).flatten)
  | 0 => .nil
  | n+1=>by
    have:=(zav_RL (S:=S) (σ:=σ) ti.z).append (zeroRow_RL ti n)
    simpa [zeroRow,List.replicate_succ] using this
theorem buildSlice_ok(tt:TTOK P E.tt)(hs:Slots S σ l a)(oi:OI S σ ob w){t n e:Nat}{te:TI}{cs:List CK}(hk:kindsOf E t=some (te,cs))(ht:P.underlying t=some (.slice e))(hte:lookN E.tt e=some te)
    (hcs:cs.length=te.size) (hsz:n * te.size≤16777216) {ps:Array (Nat × Operand)} {us:List AV} (hus:partsAV E (getT l) (fun i=>some (i * te.size,e)) ps.toList (zeroRow te n)=some us)
    {xs:List (Elem cs)} (hxs:elemsX cs n us=some xs) {nb:Nat} (hn:σ nb=none) :
    ∃ v' w' σ',(Instr.buildSlice t n (ps.map fun (i,x)=>(i,a.eval x))).run P w = .ok v' w'∧Does S σ ob w nb (.ows nb) [(nb,some (.row cs xs))] v' w' σ':=by
  have row:=tt.row hte
  obtain ⟨i,hi,his,hib,hiz⟩:=row.info
  have hz:RL S σ (zeroRow te n) (((Array.range (n * i.size)).map ((if n * i.size=0 then #[] else te.zero.cells)[· % (if n * i.size=0 then #[] else te.zero.cells).size]!))).toList:=by
    by_cases h0:n * te.size=0
    · have:zeroRow te n = []:=by
        apply List.eq_nil_of_length_eq_zero
        simp [zeroRow,row.z]
        exact h0
      rw [this,his,h0]
      simpa using RL.nil
    · have:=made_ok row n (by omega)
      unfold madeCells at this
      rw [his,if_neg h0,this]
      exact zeroRow_RL te n
  obtain ⟨cs',hf,hR⟩:=fill_ok tt hs _ (fun j=>some (j * i.size,i.size)) (fun j off t' ti' h1 h2=>by
      simp at h1
      obtain ⟨rfl,rfl⟩:=h1
      rw [hte] at h2
      obtain rfl:=Option.some.inj h2
      simp [his]) ps.toList _ us _ hus hz
  have hrun:(Instr.buildSlice t n (ps.map fun (i,x)=>(i,a.eval x))).run P w = .ok (.slice (some ⟨w.heap.size,0,none⟩) n n) (w.alloc (.cells cs' e)):=by
    have hsmall : ¬ (16777216 < n * i.size):=by rw [his]; omega
    by_cases h0:n * i.size=0
    · simp only [h0,if_true] at hf
      simp [Array.range_zero'] at hf
      simp [Instr.buildSlice,run_underlying ht,sizeOf,typeInfo,hi,h0,newRow,Array.range_zero',hf]
    · simp only [h0,if_false] at hf
      have hsmall' : ¬ n * i.size > 2 ^ 24:=by omega
      exact run_buildSlice w t e n _ cs' i te.zero ht hi hiz hsmall' h0 (by simpa using hf)
  obtain ⟨h1,h2⟩:=elemsX_ok cs n us xs _ hxs hR
  have hRl:=hR.1
  have hcl:n * te.size≤cs'.size:=by
    have h3:=congrArg List.length h2
    rw [flat_length,h1,hcs] at h3
    simp at h3
    omega
  obtain ⟨σ',hd⟩:=Does.row oi (nb:=nb) hn (cs:=cs) (xs:=xs) (n:=n) (cap:=n) (m:=te.size) (cur:=cs') (e:=e) hcs h1 (Nat.le_refl _) hcl (by
    rw [flat_length,h1,h2])
  exact ⟨_,_,σ',hrun,hd⟩
def Comes(P:Program)(a:Act)(o:Oper)(w:World)(v':Value)(w':World):Prop :=
  (execOp a.eval o).run P w = .ok (.value v') w'∨((execOp a.eval o).run P w = .ok .skip w'∧v'=undef)
theorem Comes.wp{o:Oper}{v':Value}{w':World}{K:Act→World→Prop}{Q:Exit→Act→World→Prop}(h:Comes P a o w v' w')(hk:K (a.put o.dst v') w'):o.wp P a w K Q:=by
  unfold Oper.wp
  rcases h with h | ⟨h,rfl⟩
  · rw [h]; exact hk
  · rw [h]; exact hk
theorem comes_pure(oi:OI S σ ob w){nb:Nat}{o:Oper}{v:AV}{s:Sem Value}(h:execOp a.eval o=(do pure (.value (← s))))(hr : ∃ u,s.run P w = .ok u w∧R S σ v u) :
    ∃ v' w' σ',Comes P a o w v' w'∧Does S σ ob w nb v [] v' w' σ':=by
  obtain ⟨u,h1,h2⟩:=hr
  exact ⟨u,w,σ,.inl (by rw [h]; simp [h1]),Does.pure oi nb h2⟩
theorem comes_new{nb:Nat}{o:Oper}{v:AV}{u:List (Nat × Option AO)}{s:Sem Value}(h:execOp a.eval o=(do pure (.value (← s))))(hr : ∃ v' w' σ',s.run P w = .ok v' w'∧Does S σ ob w nb v u v' w' σ') :
    ∃ v' w' σ',Comes P a o w v' w'∧Does S σ ob w nb v u v' w' σ':=by
  obtain ⟨v',w',σ',h1,h2⟩:=hr
  exact ⟨v',w',σ',.inl (by rw [h]; simp [h1]),h2⟩
theorem valA_eq{x:Option AV}{c:Bool}{v:AV}{u:List (Nat × Option AO)}(h:valA x=some ⟨c,v,u⟩):x=some v∧c=true∧u = []:=by
  unfold valA at h
  split at h
  · simp at h; obtain ⟨rfl,rfl,rfl⟩:=h; exact ⟨rfl,rfl,rfl⟩
  · cases h
theorem cvA_eq{x:Option CV}{c:Bool}{v:AV}{u:List (Nat × Option AO)}(h:cvA x=some ⟨c,v,u⟩):x=some (c,v)∧u = []:=by
  unfold cvA at h
  split at h
  · simp at h; obtain ⟨rfl,rfl,rfl⟩:=h; exact ⟨rfl,rfl⟩
  · cases h
theorem dest_ows(oi:OI S σ ob w){o:Nat}{cs:List CK}{xs:List (Elem cs)}(h:elems ob cs (.ows o)=some xs){v:Value}(hv:R S σ (.ows o) v):Dest S σ ob w cs xs [(o,none)] v:=by
  simp only [elems] at h
  split at h
  · rename_i cs' ys ho
    obtain ⟨rfl,h⟩:=castE_eq h
    simp at h; subst h
    obtain ⟨k',hk',hx,hvt,hreal⟩:=oi.ok o _ ho
    cases hv with
    | ows _ k cap hk hr h1 h2 =>
      rw [hk] at hk'
      obtain rfl:=Option.some.inj hk'
      have:=Dest.row (S:=S) (w:=w) o k ys k.n cap ho hk hr (Nat.le_refl _) h1 h2
      rwa [List.take_of_length_le (by omega)] at this
    | ows0 _ k x hk hr hn =>
      rw [hk] at hk'
      obtain rfl:=Option.some.inj hk'
      have:=hvt hr
      subst this
      exact .empty _ (by simp) x
  · cases h
theorem dest_osl(oi:OI S σ ob w){o n:Nat}{cs:List CK}{xs:List (Elem cs)}(h:elems ob cs (.osl o 0 n)=some xs){v:Value}(hv:R S σ (.osl o 0 n) v):Dest S σ ob w cs xs [(o,none)] v:=by
  simp only [elems] at h
  split at h
  · rename_i cs' ys ho
    obtain ⟨rfl,h⟩:=castE_eq h
    simp at h; subst h
    obtain ⟨k',hk',hx,hvt,hreal⟩:=oi.ok o _ ho
    generalize hz:(0:Nat)=z at hv
    cases hv with
    | osl _ _ _ k cap hk hr h0 h1 h2 =>
      subst hz
      rw [hk] at hk'
      obtain rfl:=Option.some.inj hk'
      have:=Dest.row (S:=S) (w:=w) o k ys n cap ho hk hr (by omega) h1 (by simpa using h2)
      simpa using this
    | osl0 _ _ k x hk h0 =>
      subst hz
      exact .empty _ (by simp) x
  · cases h
theorem append_ok(tt:TTOK P E.tt)(oi:OI S σ ob w){t ty nb:Nat}{az ax:AV}{out:Out}(h:appendA E nb t ob az ax=some out)(hc:out.c=true){vs vx:Value}(hs:R S σ az vs)(hx:R S σ ax vx)(hn:σ nb=none) :
    ∃ v' w' σ',(Builtin.append_ #[t,t] ty #[vs,vx]).run P w = .ok v' w'∧Does S σ ob w nb out.v out.u v' w' σ':=by
  unfold appendA at h
  split at h
  · rename_i ti cs hk
    obtain ⟨e,hu,row,rfl,_⟩:=kindsOf_ok tt hk
    split at h
    · rename_i hsz
      split at h
      · rename_i xs fr hd
        split at h
        · rename_i ys hys
          simp at h
          subst h
          simp at hc
          obtain ⟨A,c,rfl,_,hcell⟩:=elems_ok oi hys hx
          refine append_dest oi hu row hsz.1 hsz.2.1 hsz.2.2 ?_ hcell hc hn
          split at hd
          · simp at hd
            obtain ⟨rfl,rfl⟩:=hd
            cases hs
            exact .empty _ (by simp) none
          · rename_i o
            split at hd
            · rename_i xs' hxs
              simp at hd
              obtain ⟨rfl,rfl⟩:=hd
              exact dest_ows oi hxs hs
            · cases hd
          · rename_i o n
            split at hd
            · rename_i xs' hxs
              simp at hd
              obtain ⟨rfl,rfl⟩:=hd
              exact dest_osl oi hxs hs
            · cases hd
          · cases hd
        · cases h
      · cases h
    · cases h
  · cases h
theorem resolve_builtin{b:Builtin}{args:Array Operand}{ts:Array TypeId}{s:Sem Value}{ρ:Operand→Value}(o:Oper)
    (ho:o.op = .call ⟨.builtin b,args,ts⟩) (hb:builtin b ts o.type (args.map fun | .const _=>true | _=>false) (args.map ρ)=(do pure (.value (← s)))):execOp ρ o=(do pure (.value (← s))):=by
  unfold execOp
  simp only [ho]
  simp only [resolve,pure_bind,invoke]
  exact hb
theorem RL.two{x y:AV}{vs:List Value}(h:RL S σ [x,y] vs) : ∃ v u,vs = [v,u]∧R S σ x v∧R S σ y u:=by
  obtain ⟨v,vs',rfl,h1,h2⟩:=h.uncons
  obtain ⟨u,vs'',rfl,h3,h4⟩:=h2.uncons
  have:vs'' = []:=List.eq_nil_of_length_eq_zero (by have:=h4.1; simpa using this.symm)
  subst this
  exact ⟨v,u,rfl,h1,h3⟩
theorem RL.one{x:AV}{vs:List Value}(h:RL S σ [x] vs) : ∃ v,vs = [v]∧R S σ x v:=by
  obtain ⟨v,vs',rfl,h1,h2⟩:=h.uncons
  have:vs' = []:=List.eq_nil_of_length_eq_zero (by have:=h2.1; simpa using this.symm)
  subst this
  exact ⟨v,rfl,h1⟩
theorem zeroCells_flat{e:Nat}{cs:List CK}{te:TI}(row:RowOK P e te)(hc:te.cks=cs)(hl:cs.length=te.size)(hp:0 < te.size)(n:Nat):(Builtin.zeroCells te.zero.cells n).toList=flat cs (List.replicate n (edflt cs)):=by
  subst hc
  have hz:te.zero.cells.toList=vals te.cks (edflt te.cks):=by
    rw [row.c]
    rcases row.k with h | h
    · rw [h] at hl; simp at hl; omega
    · exact h
  have hs:te.zero.cells.size=te.cks.length:=by
    rw [← Array.length_toList,hz,vals_length]
  have hf:=flat_length te.cks (List.replicate n (edflt te.cks))
  rw [List.length_replicate] at hf
  apply List.ext_getElem
  · simp [Builtin.zeroCells,hs,hf]
  · intro i h1 h2
    have hi:i < n * te.cks.length:=by rw [hf] at h2; exact h2
    have hq:i / te.cks.length < n:=by
      rw [Nat.div_lt_iff_lt_mul (by omega)]
      exact hi
    have hr:i % te.cks.length < te.cks.length:=Nat.mod_lt _ (by omega)
    have hat:=flat_at te.cks (List.replicate n (edflt te.cks)) (i / te.cks.length) (by simpa using hq)
    have hg:(List.replicate n (edflt te.cks)).getD (i / te.cks.length) (edflt te.cks)=edflt te.cks:=by
      rw [List.getD_eq_getElem?_getD,List.getElem?_replicate]
      split<;>rfl
    rw [hg] at hat
    have e1:(flat te.cks (List.replicate n (edflt te.cks)))[i]? = (vals te.cks (edflt te.cks))[i % te.cks.length]? := by
      rw [← hat,List.getElem?_take,if_pos hr,List.getElem?_drop]
      congr 1
      have:=Nat.div_add_mod i te.cks.length
      rw [Nat.mul_comm]
      omega
    have e2:(Builtin.zeroCells te.zero.cells n).toList[i]? = (vals te.cks (edflt te.cks))[i % te.cks.length]? := by
      rw [← hz,Array.getElem?_toList,Array.getElem?_toList]
      unfold Builtin.zeroCells
      rw [Array.getElem?_map,Array.getElem?_range,if_pos (by rw [hs]; exact hi)]
      show some (te.zero.cells[i % te.zero.cells.size]!)=_
      rw [hs]
      rw [getElem!_pos te.zero.cells (i % te.cks.length) (by rw [hs]; exact hr),Array.getElem?_eq_getElem (by rw [hs]; exact hr)]
    have:=e2.trans e1.symm
    rw [List.getElem?_eq_getElem h1,List.getElem?_eq_getElem h2] at this
    exact Option.some.inj this
theorem clear_ok(tt:TTOK P E.tt)(oi:OI S σ ob w){t ty nb o lo n:Nat}{ti:TI}{cs:List CK}{xs:List (Elem cs)}(hk:kindsOf E t=some (ti,cs))(ho:ob o=some (.row cs xs))(hsz:cs.length=ti.size)(hp:0 < ti.size){v:Value}(hv:R S σ (.osl o lo n) v) :
    ∃ v' w' σ',(Builtin.clear_ #[t] ty #[v]).run P w = .ok v' w'∧Does S σ ob w nb (.val (.tuple #[])) [(o,some (.row cs (zapR cs xs lo n)))] v' w' σ':=by
  obtain ⟨e,hu,row,hcs,_⟩:=kindsOf_ok tt hk
  have same:n=0→updF ob [(o,some (.row cs (zapR cs xs lo n)))]=ob:=by
    intro h0
    subst h0
    have:zapR cs xs lo 0=xs:=by unfold zapR; simp
    rw [this]
    funext q
    by_cases hq:q=o
    · subst hq; simp [updF,ho]
    · simp [updF,hq]
  have nop:n=0→Does S σ ob w nb (.val (.tuple #[])) [(o,some (.row cs (zapR cs xs lo n)))] (.tuple #[]) w σ:=fun h0 =>
    ⟨.val _,by rw [same h0]; exact oi,fun _ _ h=>h,fun _ h => .inl h,.refl w,fun _ _ _=>rfl,fun b h=>by rw [same h0] at h; exact .inl h⟩
  cases hv with
  | osl0 _ _ k x hk' h0=>exact ⟨_,_,_,by cases x<;>simp [Builtin.clear_,run_underlying hu],nop rfl⟩
  | osl _ _ _ k cap hk' hr h0 h1 h2 =>
    by_cases hn:n=0
    · subst hn
      exact ⟨_,_,_,by simp [Builtin.clear_,run_underlying hu],nop rfl⟩
    obtain ⟨k',hk2,ok⟩:=oi.ok o _ ho
    rw [hk'] at hk2
    obtain rfl:=Option.some.inj hk2
    obtain ⟨hx,_,hreal⟩:=ok
    obtain ⟨hm,cur,et,hb,hcsz,ht⟩:=hreal hr
    obtain ⟨i,hi,_,_,hiz⟩:=row.info
    have hzc:=zeroCells_flat (P:=P) row hcs.symm hsz hp n
    have hfl:=flat_length cs xs
    have hfr:=flat_length cs (List.replicate n (edflt cs))
    rw [List.length_replicate] at hfr
    have hle:(flat cs xs).length≤cur.size:=by
      have:=congrArg List.length ht
      simp at this
      omega
    have hfit:lo * k.m+(n * cs.length)≤cur.size:=by
      have:(lo+n) * cs.length≤xs.length * cs.length:=Nat.mul_le_mul_right _ (by omega)
      rw [Nat.add_mul] at this
      rw [← hm]
      omega
    have hone : ∀ u∈flat cs (List.replicate n (edflt cs)),u.oneCell'=true:=by
      intro u hu'
      simp only [flat,List.mem_flatMap] at hu'
      obtain ⟨y,_,hu'⟩:=hu'
      exact vals_one cs y u hu'
    have hrun:=run_storeCells_at (P:=P) k.b (lo * k.m) et (flat cs (List.replicate n (edflt cs))) 0 cur w hb (by rw [hfr]; simpa using hfit) hone
    simp only [Nat.add_zero] at hrun
    obtain ⟨m,rfl⟩ : ∃ m,n=m+1:=⟨n - 1,by omega⟩
    refine ⟨_,w.setRow k.b (cur.toList.take (lo * k.m)++flat cs (List.replicate (m+1) (edflt cs))++cur.toList.drop (lo * k.m+(flat cs (List.replicate (m+1) (edflt cs))).length)).toArray,σ,by
      simp [Builtin.clear_,run_underlying hu,zeroValue,typeInfo,hi,hiz,hzc,hrun],⟨.val _,?_,fun _ _ h=>h,fun _ h => .inl h,.setRow _ _ _,fun b _ hno=>setRow_other w k.b b _ fun e=>hno ⟨o,_,k,ho,hk',hr,e.symm⟩,fun b hb => .inl (own_set ho b hb)⟩⟩
    have hnew:cur.toList.take (lo * k.m)++flat cs (List.replicate (m+1) (edflt cs))++cur.toList.drop (lo * k.m+(flat cs (List.replicate (m+1) (edflt cs))).length)=flat cs (zapR cs xs lo (m+1))++cur.toList.drop (flat cs xs).length:=by
      have hcur:cur.toList=flat cs xs++cur.toList.drop (flat cs xs).length:=by
        conv=>lhs; rw [← List.take_append_drop (flat cs xs).length cur.toList,ht]
      have a1:cur.toList.take (lo * cs.length)=flat cs (xs.take lo):=by
        rw [hcur,List.take_append_of_le_length (by rw [hfl]; exact Nat.mul_le_mul_right _ (by omega)),flat_take]
      have a2:cur.toList.drop ((lo+(m+1)) * cs.length)=flat cs (xs.drop (lo+(m+1)))++cur.toList.drop (flat cs xs).length:=by
        conv=>lhs; rw [hcur]
        rw [List.drop_append_of_le_length (by rw [hfl]; exact Nat.mul_le_mul_right _ (by omega)),flat_drop]
      rw [hfr,← hm,a1,← Nat.add_mul,a2]
      unfold zapR
      rw [flat_append,flat_append]
      simp [List.append_assoc]
    have hz:(zapR cs xs lo (m+1)).length=xs.length:=by
      unfold zapR
      simp
      omega
    refine oi.set ho hk' hr (fun b _ hne=>setRow_other w k.b b _ hne) ⟨by rw [hz]; exact hx,fun hf=>by simp [hr] at hf,fun _=>⟨hm,_,et,setRow_heap w k.b cur _ et _ hb,?_,?_⟩⟩
    · rw [hnew,← hcsz]
      have hl1:=flat_length cs (zapR cs xs lo (m+1))
      rw [hz] at hl1
      simp
      rw [hl1,← hfl]
      omega
    · simp only [List.toList_toArray]
      rw [hnew]
      exact List.take_left
theorem builtin_ok(tt:TTOK P E.tt)(oi:OI S σ ob w){nb:Nat}(hn:σ nb=none){o:Oper}{b:Builtin}{args:Array Operand}{ts:Array TypeId}(ho:o.op = .call ⟨.builtin b,args,ts⟩){az:List AV}{out:Out}
    (h:builtinA E nb ob b ts.toList az=some out) (hc:out.c=true) (hl:RL S σ az (args.map a.eval).toList) : ∃ v' w' σ',Comes P a o w v' w'∧Does S σ ob w nb out.v out.u v' w' σ':=by
  have arr : ∀ {xs:List Value},(args.map a.eval).toList=xs→args.map a.eval=xs.toArray:=fun h=>by rw [← h]
  have tarr : ∀ {xs:List Nat},ts.toList=xs→ts=xs.toArray:=fun h=>by rw [← h]
  unfold builtinA at h
  split at h
  · rename_i x
    obtain ⟨v,hv,hR⟩:=hl.one
    split at h
    · rename_i t ht
      have hts:=tarr ht
      split at h
      · rename_i n e _ _ _ _ hlt
        have hu:=(tt.row hlt).array rfl
        simp at h; subst h
        exact comes_pure oi (resolve_builtin (s:=Builtin.len_ ts o.type (args.map a.eval)) o ho rfl) ⟨_,by rw [arr hv,hts]; simp [Builtin.len_,run_underlying hu,goInt],.val _⟩
      · rename_i e _ _ _ _ hlt
        have hu:=(tt.row hlt).slice rfl
        split at h
        · cases h
        · rename_i hnv
          split at h
          · rename_i n hln
            simp at h; subst h
            rcases lenAV_ok oi hln hR with ⟨A,c,rfl,_⟩ | ⟨s,rfl,_⟩
            · exact comes_pure oi (resolve_builtin (s:=Builtin.len_ ts o.type (args.map a.eval)) o ho rfl) ⟨_,by rw [arr hv,hts]; simp [Builtin.len_,run_underlying hu,goInt],.val _⟩
            · exact absurd rfl (hnv _)
          · cases h
      · rename_i hlt
        have hu:=(tt.row hlt).str rfl
        split at h
        · rename_i s
          simp at h; subst h
          cases hR
          exact comes_pure oi (resolve_builtin (s:=Builtin.len_ ts o.type (args.map a.eval)) o ho rfl) ⟨_,by rw [arr hv,hts]; simp [Builtin.len_,run_underlying hu,goInt],.val _⟩
        · cases h
      · cases h
    · cases h
  · rename_i x y
    obtain ⟨v,u,hv,h1,h2⟩:=hl.two
    split at h
    · rename_i t t' ht
      have hts:=tarr ht
      split at h
      · rename_i e
        subst e
        refine comes_new (resolve_builtin (s:=Builtin.append_ ts o.type (args.map a.eval)) o ho rfl) ?_
        rw [arr hv,hts]
        exact append_ok tt oi h hc h1 h2 hn
      · cases h
    · cases h
  · rename_i k x k' y
    obtain ⟨v,u,hv,h1,h2⟩:=hl.two
    split at h
    · rename_i e
      subst e
      simp at h; subst h
      cases h1; cases h2
      exact comes_pure oi (resolve_builtin (s:=Builtin.min_ ts o.type (args.map a.eval)) o ho rfl) ⟨_,by rw [arr hv]; simp [Builtin.min_,Builtin.min2],.val _⟩
    · cases h
  · rename_i k x k' y
    obtain ⟨v,u,hv,h1,h2⟩:=hl.two
    split at h
    · rename_i e
      subst e
      simp at h; subst h
      cases h1; cases h2
      exact comes_pure oi (resolve_builtin (s:=Builtin.max_ ts o.type (args.map a.eval)) o ho rfl) ⟨_,by rw [arr hv]; simp [Builtin.max_,Builtin.max2],.val _⟩
    · cases h
  · rename_i o' lo n
    obtain ⟨v,hv,hR⟩:=hl.one
    split at h
    · rename_i t ht
      have hts:=tarr ht
      split at h
      · rename_i ti cs cs' xs hk hob
        split at h
        · rename_i hcs
          obtain ⟨rfl,h1,h2⟩:=hcs
          simp at h; subst h
          refine comes_new (resolve_builtin (s:=Builtin.clear_ ts o.type (args.map a.eval)) o ho rfl) ?_
          rw [arr hv,hts]
          exact clear_ok tt oi hk hob h1 h2 hR
        · cases h
      · cases h
    · cases h
  · cases h
theorem Does.nop(oi:OI S σ ob w){nb:Nat}{v:AV}{v':Value}(r:R S σ v v') : ∃ w' σ',w'=w∧Does S σ ob w nb v [] v' w' σ':=⟨w,σ,rfl,Does.pure oi nb r⟩
theorem comp_move(tt:TTOK P E.tt)(he:EqsOK P E)(hs:Slots S σ l a)(oi:OI S σ ob w){nb:Nat}(hn:σ nb=none){o:Oper}{v:AV}{u:List (Nat × Option AO)}(h:comp E nb o (getT l) ob=some ⟨true,v,u⟩)(x:Operand)(ho:o.op = .move x) : ∃ v' w' σ',Comes P a o w v' w'∧Does S σ ob w nb v u v' w' σ':=by
  have h0:=h
  unfold comp at h
  simp only [ho] at h
  obtain ⟨h1,_,rfl⟩:=valA_eq h
  exact ⟨_,w,σ,.inl (by unfold execOp; simp only [ho]; rfl),Does.pure oi nb (opd_R hs _ _ _ h1)⟩
theorem comp_assign(tt:TTOK P E.tt)(he:EqsOK P E)(hs:Slots S σ l a)(oi:OI S σ ob w){nb:Nat}(hn:σ nb=none){o:Oper}{v:AV}{u:List (Nat × Option AO)}(h:comp E nb o (getT l) ob=some ⟨true,v,u⟩)(x:Operand)(ho:o.op = .assign x) : ∃ v' w' σ',Comes P a o w v' w'∧Does S σ ob w nb v u v' w' σ':=by
  have h0:=h
  unfold comp at h
  simp only [ho] at h
  obtain ⟨h1,_,rfl⟩:=valA_eq h
  exact ⟨_,w,σ,.inl (by unfold execOp; simp only [ho]; rfl),Does.pure oi nb (opd_R hs _ _ _ h1)⟩
theorem comp_pick(tt:TTOK P E.tt)(he:EqsOK P E)(hs:Slots S σ l a)(oi:OI S σ ob w){nb:Nat}(hn:σ nb=none){o:Oper}{v:AV}{u:List (Nat × Option AO)}(h:comp E nb o (getT l) ob=some ⟨true,v,u⟩)(c x y:Operand)(ho:o.op = .pick c x y) : ∃ v' w' σ',Comes P a o w v' w'∧Does S σ ob w nb v u v' w' σ':=by
  have h0:=h
  unfold comp at h
  simp only [ho] at h
  split at h
  · rename_i hb
    obtain ⟨h1,_,rfl⟩:=valA_eq h
    have hR:=opd_R hs _ _ _ hb
    generalize hz:a.eval c=z at hR
    cases hR
    exact ⟨_,w,σ,.inl (by unfold execOp; simp [ho,hz,asBool]),Does.pure oi nb (opd_R hs _ _ _ h1)⟩
  · rename_i hb
    obtain ⟨h1,_,rfl⟩:=valA_eq h
    have hR:=opd_R hs _ _ _ hb
    generalize hz:a.eval c=z at hR
    cases hR
    exact ⟨_,w,σ,.inl (by unfold execOp; simp [ho,hz,asBool]),Does.pure oi nb (opd_R hs _ _ _ h1)⟩
  · cases h
theorem comp_alloc(tt:TTOK P E.tt)(he:EqsOK P E)(hs:Slots S σ l a)(oi:OI S σ ob w){nb:Nat}(hn:σ nb=none){o:Oper}{v:AV}{u:List (Nat × Option AO)}(h:comp E nb o (getT l) ob=some ⟨true,v,u⟩)(t:TypeId)(ho:o.op = .alloc t) : ∃ v' w' σ',Comes P a o w v' w'∧Does S σ ob w nb v u v' w' σ':=by
  have h0:=h
  unfold comp at h
  simp only [ho] at h
  split at h
  · rename_i ti hti
    have row:=tt.row hti
    obtain ⟨i,hi,_,_,hiz⟩:=row.info
    simp at h
    obtain ⟨rfl,rfl⟩:=h
    refine comes_new (s:=Instr.alloc t true (.tuple #[])) (by unfold execOp; simp only [ho]) ⟨.pointer (some ⟨w.heap.size,0,none⟩),w.alloc (.cells ti.zero.cells t),fun p=>if p=nb then some ⟨w.heap.size,0,0,0,true⟩ else σ p,by simp [Instr.alloc,zeroValue,typeInfo,hi,hiz,newVar,newRow],?_⟩
    exact Does.alloc oi (k:=⟨w.heap.size,0,0,0,true⟩) hn rfl (.ptr nb 0 ⟨w.heap.size,0,0,0,true⟩ (if_pos rfl) rfl) ⟨rfl,_,t,heap_alloc_new w _,by rw [row.c]; exact zav_RL _⟩
  · cases h
theorem comp_box(tt:TTOK P E.tt)(he:EqsOK P E)(hs:Slots S σ l a)(oi:OI S σ ob w){nb:Nat}(hn:σ nb=none){o:Oper}{v:AV}{u:List (Nat × Option AO)}(h:comp E nb o (getT l) ob=some ⟨true,v,u⟩)(t:TypeId)(x:Operand)(ho:o.op = .box t x) : ∃ v' w' σ',Comes P a o w v' w'∧Does S σ ob w nb v u v' w' σ':=by
  have h0:=h
  unfold comp at h
  simp only [ho] at h
  split at h
  · rename_i ti av hti hav
    split at h
    · rename_i us hus
      split at h
      · simp at h
        obtain ⟨rfl,rfl⟩:=h
        have hR:=opd_R hs _ _ _ hav
        obtain ⟨hc,_⟩:=cellsOf_ok hus hR
        refine comes_new (s:=Instr.box t (a.eval x)) (by unfold execOp; simp only [ho]) ⟨.pointer (some ⟨w.heap.size,0,none⟩),w.alloc (.cells (a.eval x).cells t),fun p=>if p=nb then some ⟨w.heap.size,0,0,0,true⟩ else σ p,by simp [Instr.box,newVar,newRow],?_⟩
        exact Does.alloc oi (k:=⟨w.heap.size,0,0,0,true⟩) hn rfl (.ptr nb 0 ⟨w.heap.size,0,0,0,true⟩ (if_pos rfl) rfl) ⟨rfl,_,t,heap_alloc_new w _,hc.mono (ext_put (.inl hn)) fun _ _ h=>h⟩
      · cases h
    · cases h
  · cases h
theorem comp_build(tt:TTOK P E.tt)(he:EqsOK P E)(hs:Slots S σ l a)(oi:OI S σ ob w){nb:Nat}(hn:σ nb=none){o:Oper}{v:AV}{u:List (Nat × Option AO)}(h:comp E nb o (getT l) ob=some ⟨true,v,u⟩)(t:TypeId)(ps:Array (Nat × Operand))(ho:o.op = .build t ps) : ∃ v' w' σ',Comes P a o w v' w'∧Does S σ ob w nb v u v' w' σ':=by
  have h0:=h
  unfold comp at h
  simp only [ho] at h
  obtain ⟨hc,hu,v',hr,hR⟩:=built_ok tt hs oi ho h0
  simp at hu
  subst hu
  exact comes_pure oi (s:=Instr.build t (ps.map fun (i,x)=>(i,a.eval x))) (by unfold execOp; simp only [ho]) ⟨v',hr,hR⟩
theorem comp_buildSlice(tt:TTOK P E.tt)(he:EqsOK P E)(hs:Slots S σ l a)(oi:OI S σ ob w){nb:Nat}(hn:σ nb=none){o:Oper}{v:AV}{u:List (Nat × Option AO)}(h:comp E nb o (getT l) ob=some ⟨true,v,u⟩)(t n:Nat)(ps:Array (Nat × Operand))(ho:o.op = .buildSlice t n ps) : ∃ v' w' σ',Comes P a o w v' w'∧Does S σ ob w nb v u v' w' σ':=by
  have h0:=h
  unfold comp at h
  simp only [ho] at h
  split at h
  · rename_i te cs e _ _ _ _ hk hlt
    split at h
    · rename_i hcs
      split at h
      · rename_i us hus
        split at h
        · rename_i xs hxs
          simp at h
          obtain ⟨rfl,rfl⟩:=h
          obtain ⟨e',hu,_,_,hte,a1,a2,a3,a4,hl'⟩:=kindsOf_ok tt hk
          have:e'=e:=by rw [hlt] at hl'; simp at hl'; exact hl'.1.symm
          subst this
          have hh:=buildSlice_ok tt hs oi hk hu hte hcs.1 hcs.2 hus hxs hn
          refine comes_new ?_ hh
          unfold execOp
          simp only [ho]
        · cases h
      · cases h
    · cases h
  · cases h
theorem comp_load(tt:TTOK P E.tt)(he:EqsOK P E)(hs:Slots S σ l a)(oi:OI S σ ob w){nb:Nat}(hn:σ nb=none){o:Oper}{v:AV}{u:List (Nat × Option AO)}(h:comp E nb o (getT l) ob=some ⟨true,v,u⟩)(t:TypeId)(x:Operand)(ho:o.op = .load t x) : ∃ v' w' σ',Comes P a o w v' w'∧Does S σ ob w nb v u v' w' σ':=by
  have h0:=h
  unfold comp at h
  simp only [ho] at h
  split at h
  · rename_i ti av hti hav
    split at h
    · rename_i us hus
      obtain ⟨h1,_,rfl⟩:=valA_eq h
      exact comes_pure oi (s:=Instr.loadAt t (a.eval x)) (by unfold execOp; simp only [ho]) (load_ok oi (tt.row hti) hus h1 (opd_R hs _ _ _ hav))
    · cases h
  · cases h
theorem comp_store(tt:TTOK P E.tt)(he:EqsOK P E)(hs:Slots S σ l a)(oi:OI S σ ob w){nb:Nat}(hn:σ nb=none){o:Oper}{v:AV}{u:List (Nat × Option AO)}(h:comp E nb o (getT l) ob=some ⟨true,v,u⟩)(t:TypeId)(x y:Operand)(ho:o.op = .store t x y) : ∃ v' w' σ',Comes P a o w v' w'∧Does S σ ob w nb v u v' w' σ':=by
  have h0:=h
  unfold comp at h
  simp only [ho] at h
  split at h
  · rename_i ti av xv hti hav hxv
    split at h
    · rename_i ns hns
      split at h
      · rename_i hsz
        split at h
        · rename_i u' hu'
          simp at h
          obtain ⟨rfl,rfl⟩:=h
          obtain ⟨w',hr,hd⟩:=store_ok oi (tt.row hti) hns hsz hu' (opd_R hs _ _ _ hav) (opd_R hs _ _ _ hxv) nb
          exact ⟨undef,w',σ,.inr ⟨by unfold execOp; simp [ho,hr],rfl⟩,hd⟩
        · cases h
      · cases h
    · cases h
  · cases h
theorem comp_nilCheck(tt:TTOK P E.tt)(he:EqsOK P E)(hs:Slots S σ l a)(oi:OI S σ ob w){nb:Nat}(hn:σ nb=none){o:Oper}{v:AV}{u:List (Nat × Option AO)}(h:comp E nb o (getT l) ob=some ⟨true,v,u⟩)(x:Operand)(ho:o.op = .nilCheck x) : ∃ v' w' σ',Comes P a o w v' w'∧Does S σ ob w nb v u v' w' σ':=by
  have h0:=h
  unfold comp at h
  simp only [ho] at h
  have key : ∀ av,opd E (getT l) 0 x=some av→(some ⟨true,av,[]⟩:Option Out)=some ⟨true,v,u⟩→(∀ y,R S σ av y→(match y with | .pointer none | .nilIface | .nilFunc=>False | .func (.method _) _ _=>False | _=>True)) →
      ∃ v' w' σ',Comes P a o w v' w'∧Does S σ ob w nb v u v' w' σ':=by
    intro av hav h hy
    simp at h
    obtain ⟨rfl,rfl⟩:=h
    have hR:=opd_R hs _ _ _ hav
    have:=hy _ hR
    refine ⟨_,w,σ,.inl ?_,Does.pure oi nb hR⟩
    unfold execOp
    simp only [ho]
    split<;>simp_all
  split at h
  · rename_i hav; exact key _ hav h fun y hy=>by cases hy; trivial
  · rename_i hav; exact key _ hav h fun y hy=>by cases hy; trivial
  · rename_i hav; exact key _ hav h fun y hy=>by cases hy; trivial
  · rename_i hav; exact key _ hav h fun y hy=>by cases hy; trivial
  · rename_i hav; exact key _ hav h fun y hy=>by cases hy; trivial
  · cases h
theorem comp_binOp(tt:TTOK P E.tt)(he:EqsOK P E)(hs:Slots S σ l a)(oi:OI S σ ob w){nb:Nat}(hn:σ nb=none){o:Oper}{v:AV}{u:List (Nat × Option AO)}(h:comp E nb o (getT l) ob=some ⟨true,v,u⟩)(op:BinOp)(t:TypeId)(x y:Operand)(z:TypeId)(ho:o.op = .binOp op t x y z) : ∃ v' w' σ',Comes P a o w v' w'∧Does S σ ob w nb v u v' w' σ':=by
  have h0:=h
  unfold comp at h
  simp only [ho] at h
  split at h
  · rename_i ax ay hx hy
    obtain ⟨h1,rfl⟩:=cvA_eq h
    exact comes_pure oi (s:=do eqGuard op t x y (a.eval x) (a.eval y); binOp op t (a.eval x) (a.eval y)) (by unfold execOp; simp only [ho]) (binOp_ok tt he h1 (opd_R hs _ _ _ hx) (opd_R hs _ _ _ hy))
  · cases h
theorem comp_unOp(tt:TTOK P E.tt)(he:EqsOK P E)(hs:Slots S σ l a)(oi:OI S σ ob w){nb:Nat}(hn:σ nb=none){o:Oper}{v:AV}{u:List (Nat × Option AO)}(h:comp E nb o (getT l) ob=some ⟨true,v,u⟩)(op:UnOp)(t:TypeId)(x:Operand)(ho:o.op = .unOp op t x) : ∃ v' w' σ',Comes P a o w v' w'∧Does S σ ob w nb v u v' w' σ':=by
  have h0:=h
  unfold comp at h
  simp only [ho] at h
  split at h
  · rename_i ax hx
    obtain ⟨h1,rfl⟩:=cvA_eq h
    exact comes_pure oi (s:=Op.unary op (a.eval x)) (by unfold execOp; simp only [ho]) (unOp_ok h1 (opd_R hs _ _ _ hx))
  · cases h
theorem comp_convert(tt:TTOK P E.tt)(he:EqsOK P E)(hs:Slots S σ l a)(oi:OI S σ ob w){nb:Nat}(hn:σ nb=none){o:Oper}{v:AV}{u:List (Nat × Option AO)}(h:comp E nb o (getT l) ob=some ⟨true,v,u⟩)(src dst:TypeId)(x:Operand)(ho:o.op = .convert src dst x) : ∃ v' w' σ',Comes P a o w v' w'∧Does S σ ob w nb v u v' w' σ':=by
  have h0:=h
  unfold comp at h
  simp only [ho] at h
  split at h
  · rename_i ax hx
    obtain ⟨h1,rfl⟩:=cvA_eq h
    exact comes_pure oi (s:=convert src dst (a.eval x)) (by unfold execOp; simp only [ho]) (conv_ok tt oi h1 (opd_R hs _ _ _ hx))
  · cases h
theorem comp_makeInterface(tt:TTOK P E.tt)(he:EqsOK P E)(hs:Slots S σ l a)(oi:OI S σ ob w){nb:Nat}(hn:σ nb=none){o:Oper}{v:AV}{u:List (Nat × Option AO)}(h:comp E nb o (getT l) ob=some ⟨true,v,u⟩)(t:TypeId)(x:Operand)(ho:o.op = .makeInterface t x) : ∃ v' w' σ',Comes P a o w v' w'∧Does S σ ob w nb v u v' w' σ':=by
  have h0:=h
  unfold comp at h
  simp only [ho] at h
  split at h
  · rename_i ti hti
    have row:=tt.row hti
    obtain ⟨d,hd⟩:=row.desc
    split at h
    · cases h
    · rename_i hni
      simp at h
      obtain ⟨rfl,rfl⟩:=h
      refine comes_pure oi (s:=Instr.makeInterface t (a.eval x)) (by unfold execOp; simp only [ho]) ⟨.iface t (a.eval x),?_,.ifc _ _⟩
      have hh:=row.d
      unfold undD at hh
      rw [hd] at hh
      simp only [Instr.makeInterface,Sem.run_bind,run_underlying hd w]
      cases d<;>simp_all
  · cases h
theorem comp_makeFunc(tt:TTOK P E.tt)(he:EqsOK P E)(hs:Slots S σ l a)(oi:OI S σ ob w){nb:Nat}(hn:σ nb=none){o:Oper}{v:AV}{u:List (Nat × Option AO)}(h:comp E nb o (getT l) ob=some ⟨true,v,u⟩)(f:FuncId)(first caps:Array Operand)(ho:o.op = .makeFunc (.func f) first caps) : ∃ v' w' σ',Comes P a o w v' w'∧Does S σ ob w nb v u v' w' σ':=by
  have h0:=h
  unfold comp at h
  simp only [ho] at h
  split at h
  · rename_i hf
    split at h
    · rename_i us hus
      simp at h
      obtain ⟨rfl,rfl⟩:=h
      have hR:=opdL_RL hs _ _ _ hus
      refine comes_pure oi (s:=Instr.makeFunc (.func f) (first.map a.eval) (caps.map a.eval)) (by unfold execOp; simp only [ho]) ⟨_,rfl,?_⟩
      have hf0:first = #[]:=Array.eq_empty_of_size_eq_zero hf
      subst hf0
      have e:caps.map a.eval=(caps.toList.map a.eval).toArray:=by
        apply Array.toList_inj.1
        simp only [Array.toList_map]
      rw [e,show (#[]:Array Operand).map a.eval = #[] from Array.map_empty]
      exact .fn f us _ hR.1 hR.2
    · cases h
  · cases h
theorem comp_makeSlice(tt:TTOK P E.tt)(he:EqsOK P E)(hs:Slots S σ l a)(oi:OI S σ ob w){nb:Nat}(hn:σ nb=none){o:Oper}{v:AV}{u:List (Nat × Option AO)}(h:comp E nb o (getT l) ob=some ⟨true,v,u⟩)(t:TypeId)(x y:Operand)(ho:o.op = .makeSlice t x y) : ∃ v' w' σ',Comes P a o w v' w'∧Does S σ ob w nb v u v' w' σ':=by
  have h0:=h
  unfold comp at h
  simp only [ho] at h
  split at h
  · rename_i te cs n m hk hx hy
    split at h
    · rename_i hcs
      simp at h
      obtain ⟨⟨h1,h2,h3⟩,rfl,rfl⟩:=h
      have r1:=opd_R hs _ _ _ hx
      have r2:=opd_R hs _ _ _ hy
      generalize hz1:a.eval x=z1 at r1
      generalize hz2:a.eval y=z2 at r2
      cases r1; cases r2
      exact comes_new (s:=Instr.makeSlice t (a.eval x) (a.eval y)) (by unfold execOp; simp only [ho]) (by rw [hz1,hz2]; exact makeSlice_ok tt oi hk hcs.1 hcs.2 h1 h2 h3 hn)
    · cases h
  · cases h
theorem comp_slice(tt:TTOK P E.tt)(he:EqsOK P E)(hs:Slots S σ l a)(oi:OI S σ ob w){nb:Nat}(hn:σ nb=none){o:Oper}{v:AV}{u:List (Nat × Option AO)}(h:comp E nb o (getT l) ob=some ⟨true,v,u⟩)(t:TypeId)(x:Operand)(lo hi mx:Option Operand)(ho:o.op = .slice t x lo hi mx) : ∃ v' w' σ',Comes P a o w v' w'∧Does S σ ob w nb v u v' w' σ':=by
  have h0:=h
  unfold comp at h
  simp only [ho] at h
  split at h
  · rename_i ax hx
    obtain ⟨h1,rfl⟩:=cvA_eq h
    exact comes_pure oi (s:=Instr.sliceAt t (a.eval x) (lo.map a.eval) (hi.map a.eval) (mx.map a.eval)) (by unfold execOp; simp only [ho]) (slice_ok tt hs oi h1 (opd_R hs _ _ _ hx))
  · cases h
theorem comp_fieldAddr(tt:TTOK P E.tt)(he:EqsOK P E)(hs:Slots S σ l a)(oi:OI S σ ob w){nb:Nat}(hn:σ nb=none){o:Oper}{v:AV}{u:List (Nat × Option AO)}(h:comp E nb o (getT l) ob=some ⟨true,v,u⟩)(t:TypeId)(x:Operand)(f:Nat)(ho:o.op = .fieldAddr t x f) : ∃ v' w' σ',Comes P a o w v' w'∧Does S σ ob w nb v u v' w' σ':=by
  have h0:=h
  unfold comp at h
  simp only [ho] at h
  split at h
  · rename_i ax off sz ft hx hfo
    split at h
    · rename_i hsz
      obtain ⟨h1,_,rfl⟩:=valA_eq h
      obtain ⟨ad,hv,hR⟩:=addOff_ok h1 (opd_R hs _ _ _ hx)
      refine comes_pure oi (s:=Instr.fieldAt t (a.eval x) f) (by unfold execOp; simp only [ho]) ⟨_,?_,hR⟩
      unfold fieldOf at hfo
      split at hfo
      · rename_i fs _ _ _ _ hl
        obtain ⟨gs,hu,rfl⟩:=(tt.row hl).struct rfl
        rw [List.getElem?_map] at hfo
        cases hg:gs.toList[f]? with
        | none=>simp [hg] at hfo
        | some g =>
          simp [hg] at hfo
          obtain ⟨rfl,hszz,rfl⟩:=hfo
          have hg':gs[f]? = some g:=by simpa using hg
          cases hi:P.info? g.type with
          | none=>simp [hi] at hszz; omega
          | some i =>
            simp [hi] at hszz
            have hne : ¬ i.size=0:=by omega
            rw [hv]
            simp [Instr.fieldAt,run_underlying hu,hg',Instr.sureAddr,fieldPlace,sizeOf,typeInfo,hi,hne]
      · cases hfo
    · cases h
  · cases h
theorem comp_field(tt:TTOK P E.tt)(he:EqsOK P E)(hs:Slots S σ l a)(oi:OI S σ ob w){nb:Nat}(hn:σ nb=none){o:Oper}{v:AV}{u:List (Nat × Option AO)}(h:comp E nb o (getT l) ob=some ⟨true,v,u⟩)(t:TypeId)(x:Operand)(f:Nat)(ho:o.op = .field t x f) : ∃ v' w' σ',Comes P a o w v' w'∧Does S σ ob w nb v u v' w' σ':=by
  have h0:=h
  unfold comp at h
  simp only [ho] at h
  split at h
  · rename_i us off sz ft hx hfo
    split at h
    · rename_i ti hti
      obtain ⟨h1,_,rfl⟩:=valA_eq h
      refine comes_pure oi (s:=Instr.field t (a.eval x) f) (by unfold execOp; simp only [ho]) ?_
      have hR:=opd_R hs _ _ _ hx
      generalize hz:a.eval x=z at hR
      cases hR with
      | agg _ vs hl hr =>
        obtain ⟨y,hrun,hy⟩:=part_ok (P:=P) (w:=w) (tt.row hti) h1 ⟨hl,hr⟩
        refine ⟨y,?_,hy⟩
        unfold fieldOf at hfo
        split at hfo
        · rename_i fs _ _ _ _ hl
          obtain ⟨gs,hu,rfl⟩:=(tt.row hl).struct rfl
          rw [List.getElem?_map] at hfo
          cases hg:gs.toList[f]? with
          | none=>simp [hg] at hfo
          | some g =>
            simp [hg] at hfo
            obtain ⟨rfl,hszz,rfl⟩:=hfo
            have hg':gs[f]? = some g:=by simpa using hg
            simp [Instr.field,run_underlying hu,hg',asAgg,hrun]
        · cases hfo
    · cases h
  · cases h
theorem comp_indexAddr(tt:TTOK P E.tt)(he:EqsOK P E)(hs:Slots S σ l a)(oi:OI S σ ob w){nb:Nat}(hn:σ nb=none){o:Oper}{v:AV}{u:List (Nat × Option AO)}(h:comp E nb o (getT l) ob=some ⟨true,v,u⟩)(t:TypeId)(x i:Operand)(ho:o.op = .indexAddr t x i) : ∃ v' w' σ',Comes P a o w v' w'∧Does S σ ob w nb v u v' w' σ':=by
  have h0:=h
  unfold comp at h
  simp only [ho] at h
  split at h
  · rename_i ax k n hx hi
    obtain ⟨h1,rfl⟩:=cvA_eq h
    have r2:=opd_R hs _ _ _ hi
    generalize hz:a.eval i=z at r2
    cases r2
    exact comes_pure oi (s:=Instr.indexAt t (a.eval x) (a.eval i)) (by unfold execOp; simp only [ho]) (by rw [hz]; exact indexAddr_ok tt oi h1 (opd_R hs _ _ _ hx) k)
  · cases h
theorem comp_index(tt:TTOK P E.tt)(he:EqsOK P E)(hs:Slots S σ l a)(oi:OI S σ ob w){nb:Nat}(hn:σ nb=none){o:Oper}{v:AV}{u:List (Nat × Option AO)}(h:comp E nb o (getT l) ob=some ⟨true,v,u⟩)(t:TypeId)(x i:Operand)(ho:o.op = .index t x i) : ∃ v' w' σ',Comes P a o w v' w'∧Does S σ ob w nb v u v' w' σ':=by
  have h0:=h
  unfold comp at h
  simp only [ho] at h
  split at h
  · rename_i ax k n hx hi
    obtain ⟨h1,rfl⟩:=cvA_eq h
    have r2:=opd_R hs _ _ _ hi
    generalize hz:a.eval i=z at r2
    cases r2
    exact comes_pure oi (s:=Instr.index t (a.eval x) (a.eval i)) (by unfold execOp; simp only [ho]) (by rw [hz]; exact index_ok tt h1 (opd_R hs _ _ _ hx) k)
  · cases h
theorem comp_extract(tt:TTOK P E.tt)(he:EqsOK P E)(hs:Slots S σ l a)(oi:OI S σ ob w){nb:Nat}(hn:σ nb=none){o:Oper}{v:AV}{u:List (Nat × Option AO)}(h:comp E nb o (getT l) ob=some ⟨true,v,u⟩)(x:Operand)(i:Nat)(ho:o.op = .extract x i) : ∃ v' w' σ',Comes P a o w v' w'∧Does S σ ob w nb v u v' w' σ':=by
  have h0:=h
  unfold comp at h
  simp only [ho] at h
  split at h
  · rename_i us hx
    obtain ⟨h1,_,rfl⟩:=valA_eq h
    have hR:=opd_R hs _ _ _ hx
    refine comes_pure oi (s:=Instr.extract (a.eval x) i) (by unfold execOp; simp only [ho]) ?_
    generalize hz:a.eval x=z at hR
    cases hR with
    | tup _ vs hl hr =>
      have hlt:i < vs.length:=by rw [← hl]; exact (List.getElem?_eq_some_iff.1 h1).1
      refine ⟨vs[i],by simp [Instr.extract,hlt],hr i v _ h1 (by simp [hlt])⟩
  · cases h
theorem comp_builtin(tt:TTOK P E.tt)(he:EqsOK P E)(hs:Slots S σ l a)(oi:OI S σ ob w){nb:Nat}(hn:σ nb=none){o:Oper}{v:AV}{u:List (Nat × Option AO)}(h:comp E nb o (getT l) ob=some ⟨true,v,u⟩)(b:Builtin)(args:Array Operand)(ts:Array TypeId)(ho:o.op = .call ⟨.builtin b,args,ts⟩) : ∃ v' w' σ',Comes P a o w v' w'∧Does S σ ob w nb v u v' w' σ':=by
  have h0:=h
  unfold comp at h
  simp only [ho] at h
  split at h
  · rename_i az has
    have:=builtin_ok (P:=P) (w:=w) (a:=a) tt oi hn ho h rfl (by simpa using opdL_RL hs _ _ _ has)
    exact this
  · cases h
theorem comp_ok(tt:TTOK P E.tt)(he:EqsOK P E)(hs:Slots S σ l a)(oi:OI S σ ob w){nb:Nat}(hn:σ nb=none){o:Oper}{v:AV}{u:List (Nat × Option AO)}(h:comp E nb o (getT l) ob=some ⟨true,v,u⟩) : ∃ v' w' σ',Comes P a o w v' w'∧Does S σ ob w nb v u v' w' σ':=by
  cases hop:o.op
  case move=>exact comp_move tt he hs oi hn h _ hop
  case assign=>exact comp_assign tt he hs oi hn h _ hop
  case pick=>exact comp_pick tt he hs oi hn h _ _ _ hop
  case alloc=>exact comp_alloc tt he hs oi hn h _ hop
  case box=>exact comp_box tt he hs oi hn h _ _ hop
  case build=>exact comp_build tt he hs oi hn h _ _ hop
  case buildSlice=>exact comp_buildSlice tt he hs oi hn h _ _ _ hop
  case load=>exact comp_load tt he hs oi hn h _ _ hop
  case store=>exact comp_store tt he hs oi hn h _ _ _ hop
  case nilCheck=>exact comp_nilCheck tt he hs oi hn h _ hop
  case binOp=>exact comp_binOp tt he hs oi hn h _ _ _ _ _ hop
  case unOp=>exact comp_unOp tt he hs oi hn h _ _ _ hop
  case convert=>exact comp_convert tt he hs oi hn h _ _ _ hop
  case makeInterface=>exact comp_makeInterface tt he hs oi hn h _ _ hop
  case makeSlice=>exact comp_makeSlice tt he hs oi hn h _ _ _ hop
  case slice=>exact comp_slice tt he hs oi hn h _ _ _ _ _ hop
  case fieldAddr=>exact comp_fieldAddr tt he hs oi hn h _ _ _ hop
  case field=>exact comp_field tt he hs oi hn h _ _ _ hop
  case indexAddr=>exact comp_indexAddr tt he hs oi hn h _ _ _ hop
  case index=>exact comp_index tt he hs oi hn h _ _ _ hop
  case extract=>exact comp_extract tt he hs oi hn h _ _ hop
  case makeFunc fn first caps =>
    cases fn with
    | func f=>exact comp_makeFunc tt he hs oi hn h _ _ _ hop
    | _=>simp [comp,hop] at h
  case call c =>
    obtain ⟨callee,args,ts⟩:=c
    cases callee with
    | builtin b=>exact comp_builtin tt he hs oi hn h _ _ _ hop
    | _=>simp [comp,hop] at h
  all_goals (simp [comp,hop] at h)
end Go.Proofs.YtkjnijddbiconaaGreatDoor.Ev

namespace Go.Proofs.YtkjnijddbiconaaGreatDoor.Ev
open Go
set_option linter.unusedVariables false
set_option linter.unusedSimpArgs false
variable {P:Program} {E:Env} {S:Sb} {σ:Sg} {l:List AV} {a:Act} {ob:Ob} {w:World}
theorem renL_RL{g:AV→AV}{π:Sg}(h : ∀ a v,R S σ a v→R S π (g a) v) : ∀ {us:List AV} {vs:List Value},RL S σ us vs→RL S π (renL g us) vs
  | [],vs,hl=>by
    have:vs = []:=List.eq_nil_of_length_eq_zero (by have:=hl.1; simpa using this.symm)
    subst this; exact .nil
  | a :: us,vs,hl=>by
    obtain ⟨v,vs',rfl,h1,h2⟩:=hl.uncons
    exact .cons (h a v h1) (renL_RL h h2)
theorem ren_R{π:Sg}{ρ:Nat→Option Nat}(hρ : ∀ o q,ρ o=some q→π q=σ o) : ∀ (d:Nat) (a:AV) (v:Value),R S σ a v→R S π (ren ρ d a) v
  | 0,a,v,_ => .junk v
  | d+1,a,v,h=>by
    cases h with
    | val v=>exact .val v
    | junk v=>exact .junk v
    | cel v h=>exact .cel v h
    | ifc t v=>exact .ifc t v
    | nsl cs=>exact .nsl cs
    | rsl cs xs A c hc h=>exact .rsl cs xs A c hc h
    | rel us ad h=>exact .rel us ad h
    | rpt us vs ad hl h hv=>exact (fun h => .rpt _ vs ad h.1 h.2 hv) (renL_RL (fun a v=>ren_R hρ d a v) ⟨hl,h⟩)
    | ows o k cap hk hr h1 h2 =>
      simp only [ren]
      split
      · rename_i q hq; exact .ows q k cap (by rw [hρ _ _ hq,hk]) hr h1 h2
      · exact .junk _
    | ows0 o k x hk hr hn =>
      simp only [ren]
      split
      · rename_i q hq; exact .ows0 q k x (by rw [hρ _ _ hq,hk]) hr hn
      · exact .junk _
    | osl o lo n k cap hk hr h0 h1 h2 =>
      simp only [ren]
      split
      · rename_i q hq; exact .osl q lo n k cap (by rw [hρ _ _ hq,hk]) hr h0 h1 h2
      · exact .junk _
    | osl0 o lo k x hk h0 =>
      simp only [ren]
      split
      · rename_i q hq; exact .osl0 q lo k x (by rw [hρ _ _ hq,hk]) h0
      · exact .junk _
    | oel o i j k hk hr h =>
      simp only [ren]
      split
      · rename_i q hq; exact .oel q i j k (by rw [hρ _ _ hq,hk]) hr h
      · exact .junk _
    | ptr o j k hk hr =>
      simp only [ren]
      split
      · rename_i q hq; exact .ptr q j k (by rw [hρ _ _ hq,hk]) hr
      · exact .junk _
    | bsl o j cs n k c hk hr hc =>
      simp only [ren]
      split
      · rename_i q hq; exact .bsl q j cs n k c (by rw [hρ _ _ hq,hk]) hr hc
      · exact .junk _
    | agg us vs hl h=>exact (fun h => .agg _ vs h.1 h.2) (renL_RL (fun a v=>ren_R hρ d a v) ⟨hl,h⟩)
    | fn f us vs hl h=>exact (fun h => .fn f _ vs h.1 h.2) (renL_RL (fun a v=>ren_R hρ d a v) ⟨hl,h⟩)
    | tup us vs hl h=>exact (fun h => .tup _ vs h.1 h.2) (renL_RL (fun a v=>ren_R hρ d a v) ⟨hl,h⟩)
theorem renO_ok{π:Sg}{ρ:Nat→Option Nat}(hρ : ∀ o q,ρ o=some q→π q=σ o){k:Bk}{x:AO}(h:objOK S σ w k x):objOK S π w k (renO ρ x):=by
  cases x with
  | row cs xs=>exact h
  | box us =>
    obtain ⟨h1,cur,e,h2,h3⟩:=h
    exact ⟨h1,cur,e,h2,renL_RL (fun a v=>ren_R hρ depth a v) h3⟩
theorem noMem_R{S':Sb} : ∀ (d:Nat) (a:AV) (v:Value),noMem d a=true→R S' σ a v→R S σ a v
  | 0,a,v,h,_=>by simp [noMem] at h
  | d+1,a,v,h,hR=>by
    have many : ∀ (us:List AV) (vs:List Value),noRefL (noMem d) us=true→RL S' σ us vs→RL S σ us vs:=by
      intro us
      induction us with
      | nil =>
        intro vs _ hl
        have:vs = []:=List.eq_nil_of_length_eq_zero (by have:=hl.1; simpa using this.symm)
        subst this; exact .nil
      | cons u us ih =>
        intro vs hn hl
        obtain ⟨v,vs',rfl,h1,h2⟩:=hl.uncons
        simp [noRefL] at hn
        exact .cons (noMem_R d u v hn.1 h1) (ih vs' hn.2 h2)
    cases hR with
    | val v=>exact .val v
    | junk v=>exact .junk v
    | cel v h=>exact .cel v h
    | ifc t v=>exact .ifc t v
    | nsl cs=>exact .nsl cs
    | rsl cs xs A c hc hh=>simp [noMem] at h
    | rel us ad hh=>simp [noMem] at h
    | rpt us vs ad hl hh hv=>simp [noMem] at h
    | ows o k cap hk hr h1 h2=>exact .ows o k cap hk hr h1 h2
    | ows0 o k x hk hr hn=>exact .ows0 o k x hk hr hn
    | osl o lo n k cap hk hr h0 h1 h2=>exact .osl o lo n k cap hk hr h0 h1 h2
    | osl0 o lo k x hk h0=>exact .osl0 o lo k x hk h0
    | oel o i j k hk hr hi=>exact .oel o i j k hk hr hi
    | ptr o j k hk hr=>exact .ptr o j k hk hr
    | bsl o j cs n k c hk hr hc=>exact .bsl o j cs n k c hk hr hc
    | agg us vs hl hh=>exact (fun h => .agg _ vs h.1 h.2) (many us vs (by simpa [noMem] using h) ⟨hl,hh⟩)
    | fn f us vs hl hh=>exact (fun h => .fn f _ vs h.1 h.2) (many us vs (by simpa [noMem] using h) ⟨hl,hh⟩)
    | tup us vs hl hh=>exact (fun h => .tup _ vs h.1 h.2) (many us vs (by simpa [noMem] using h) ⟨hl,hh⟩)
theorem noMemL_RL{S':Sb}(d:Nat) : ∀ (us:List AV) (vs:List Value),noRefL (noMem d) us=true→RL S' σ us vs→RL S σ us vs
  | [],vs,_,hl=>by
    have:vs = []:=List.eq_nil_of_length_eq_zero (by have:=hl.1; simpa using this.symm)
    subst this; exact .nil
  | u :: us,vs,hn,hl=>by
    obtain ⟨v,vs',rfl,h1,h2⟩:=hl.uncons
    simp [noRefL] at hn
    exact .cons (noMem_R d u v hn.1 h1) (noMemL_RL d us vs' hn.2 h2)
theorem noMemO_ok{S':Sb}{k:Bk}{x:AO}(hn:noMemO x=true)(h:objOK S' σ w k x):objOK S σ w k x:=by
  cases x with
  | row cs xs=>exact h
  | box us =>
    obtain ⟨h1,cur,e,h2,h3⟩:=h
    exact ⟨h1,cur,e,h2,noMemL_RL depth us _ (by simpa [noMemO] using hn) h3⟩
theorem cellS_of{w:World}{ad:Addr}{v:Value}(h:w.cell? ad=some v):cellS (SH w) ad=some v:=by
  unfold World.cell? at h
  unfold cellS
  exact h
theorem takeX_self{α:Type} : ∀ (xs:List α),takeX xs.length xs=some xs
  | []=>rfl
  | x :: xs=>by simp [takeX,takeX_self xs]
theorem mapX_RL{π:Sg}{S':Sb}{g:AV→Option AV}(h : ∀ a b v,g a=some b→R S σ a v→R S' π b v) : ∀ {us us':List AV} {vs:List Value},mapX g us=some us'→RL S σ us vs→RL S' π us' vs
  | [],us',vs,hm,hl=>by
    simp [mapX] at hm; subst hm
    have:vs = []:=List.eq_nil_of_length_eq_zero (by have:=hl.1; simpa using this.symm)
    subst this; exact .nil
  | a :: us,us',vs,hm,hl=>by
    obtain ⟨v,vs',rfl,h1,h2⟩:=hl.uncons
    simp only [mapX] at hm
    split at hm
    · rename_i b hb
      split at hm
      · rename_i bs hbs
        simp at hm; subst hm
        exact .cons (h a b v hb h1) (mapX_RL h hbs h2)
      · cases hm
    · cases hm
theorem ro_slice{π:Sg}(oi:OI S σ ob w){cs:List CK}{xs:List (Elem cs)}{a:AV}{v:Value}(h:elems ob cs a=some xs)(hR:R S σ a v):R (SH w) π (.rsl cs xs) v:=by
  obtain ⟨A,c,rfl,hc,hcell⟩:=elems_ok oi h hR
  exact .rsl cs xs A c hc fun j u hu=>by
    obtain ⟨ad,h1,h2⟩:=hcell j u hu
    exact ⟨ad,h1,cellS_of h2⟩
theorem ro_R{π:Sg}(oi:OI S σ ob w) : ∀ (d:Nat) (a b:AV) (v:Value),roOf d ob a=some b→R S σ a v→R (SH w) π b v
  | 0,a,b,v,h,_=>by simp [roOf] at h
  | d+1,a,b,v,h,hR=>by
    simp only [roOf] at h
    split at h
    · rename_i o
      split at h
      · rename_i cs xs ho
        simp at h; subst h
        exact ro_slice oi (by simp [elems,ho,castE]) hR
      · cases h
    · rename_i o lo n
      split at h
      · rename_i cs xs ho
        simp at h; subst h
        exact ro_slice oi (by simp [elems,ho,castE]) hR
      · cases h
    · rename_i cs
      simp at h; subst h
      exact ro_slice oi (by simp [elems]) hR
    · rename_i o j cs n
      split at h
      · rename_i us ho
        split at h
        · rename_i xs hxs
          simp at h; subst h
          exact ro_slice oi (by simp [elems,ho,hxs,castE]) hR
        · cases h
      · cases h
    · rename_i o i j
      split at h
      · rename_i cs xs ho
        obtain rfl:=Option.some.inj h
        obtain ⟨ad,vs,rfl,hl,hRL,hc⟩:=readAt_ok oi (n:=((vals cs (xs.getD i (edflt cs))).drop j).length) (us:=((vals cs (xs.getD i (edflt cs))).drop j).map .val) (by
          simp only [readAt,ho]
          have:=takeX_self (((vals cs (xs.getD i (edflt cs))).drop j).map AV.val)
          rwa [List.length_map] at this) hR
        have hvs:vs=(vals cs (xs.getD i (edflt cs))).drop j:=by
          apply flatAVs_RL (us:=((vals cs (xs.getD i (edflt cs))).drop j).map .val) (S:=S) (σ:=σ) _ hRL
          generalize (vals cs (xs.getD i (edflt cs))).drop j=zs
          induction zs with
          | nil=>rfl
          | cons z zs ih=>simp [flatAVs,flatAV,ih]
        rw [← hvs]
        exact .rel vs ad fun q u hu=>cellS_of (hc q u hu)
      · cases h
    · rename_i o j
      split at h
      · rename_i us ho
        split at h
        · rename_i vs hvs
          simp at h; subst h
          obtain ⟨ad,zs,rfl,hl,hRL,hc⟩:=readAt_ok oi (n:=(us.drop j).length) (us:=us.drop j) (by simp only [readAt,ho]; exact takeX_self _) hR
          have:=mapX_RL (π:=π) (S':=SH w) (fun a b v=>ro_R oi d a b v) hvs hRL
          exact .rpt vs zs ad this.1 this.2 fun q u hu=>cellS_of (hc q u hu)
        · cases h
      · cases h
    · rename_i us
      split at h
      · rename_i vs hvs
        simp at h; subst h
        cases hR with
        | agg _ zs hl hh =>
          have:=mapX_RL (π:=π) (S':=SH w) (fun a b v=>ro_R oi d a b v) hvs ⟨hl,hh⟩
          exact .agg vs zs this.1 this.2
      · cases h
    · rename_i f us
      split at h
      · rename_i vs hvs
        simp at h; subst h
        cases hR with
        | fn _ _ zs hl hh =>
          have:=mapX_RL (π:=π) (S':=SH w) (fun a b v=>ro_R oi d a b v) hvs ⟨hl,hh⟩
          exact .fn f vs zs this.1 this.2
      · cases h
    · cases h
    · rename_i us
      split at h
      · rename_i vs hvs
        simp at h; subst h
        cases hR with
        | rpt _ zs ad hl hh hv =>
          have:=mapX_RL (π:=π) (S':=SH w) (fun a b v=>ro_R oi d a b v) hvs ⟨hl,hh⟩
          exact .rpt vs zs ad this.1 this.2 fun q u hu=>cellS_mono (fun b x h=>oi.st b x (S.sub b x h)) (hv q u hu)
      · cases h
    · simp at h; subst h
      cases hR with
      | val v=>exact .val v
      | junk v=>exact .junk v
      | cel v h=>exact .cel v h
      | ifc t v=>exact .ifc t v
      | rsl cs xs A c hc hh=>exact .rsl cs xs A c hc fun j u hu=>let ⟨a,e,h⟩:=hh j u hu; ⟨a,e,cellS_mono (fun b x h=>oi.st b x (S.sub b x h)) h⟩
      | rel us ad hh=>exact .rel us ad fun j u hu=>cellS_mono (fun b x h=>oi.st b x (S.sub b x h)) (hh j u hu)
      | bsl o j cs n k c hk hr hc=>exact (‹∀ (o' j':Nat) (cs':List CK) (n':Nat),AV.bsl o j cs n=AV.bsl o' j' cs' n'→False› _ _ _ _ rfl).elim
      | _=>simp_all
end Go.Proofs.YtkjnijddbiconaaGreatDoor.Ev

namespace Go.Proofs.YtkjnijddbiconaaGreatDoor.Ev
open Go
set_option linter.unusedVariables false
set_option linter.unusedSimpArgs false
variable {P:Program} {E:Env} {S:Sb} {σ:Sg} {l:List AV} {a:Act} {ob:Ob} {w:World}
def Goes(P:Program)(f:FuncId)(vs:Array Value)(w:World)(R:Value→World→Prop):Prop :=
  ∀ (o:Oper) (a:Act) (K:Act→World→Prop) (Q:Exit→Act→World→Prop),(∀ v w',R v w'→K (a.put o.dst v) w')→o.upon P a K Q ((callFunc f vs).run P w)
def Ctr(P:Program)(f:FuncId)(args:List AV)(obs:List AO)(r:Res):Prop :=
  ∀ (S:Sb) (π:Sg) (w:World) (vs:List Value),RL S π args vs→OI S π (lookN (number 0 obs)) w→(∀ q,π q≠none→q < obs.length) →
    Goes P f vs.toArray w fun v w' => ∃ σ',R S σ' r.av v∧OI S σ' (lookN (number 0 r.obs)) w'∧Tail w w'∧(∀ q,σ' q≠none→q < r.obs.length) ∧ ∀ (i q:Nat),r.outs[i]? = some (some q)→σ' q=π i
theorem lookN_number : ∀ (xs:List AO) (n q:Nat),lookN (number n xs) q=if n≤q then xs[q - n]? else none
  | [],n,q=>by simp [number,lookN]
  | x :: xs,n,q=>by
    simp only [number,lookN,lookN_number xs (n+1) q]
    by_cases h:n=q
    · subst h; simp
    · by_cases h2:n+1≤q
      · have:q - n=(q - (n+1))+1:=by omega
        simp [h,h2,show n≤q by omega,this]
      · simp [h,h2,show ¬ n≤q by omega]
theorem lookN_num(xs:List AO)(q:Nat):lookN (number 0 xs) q=xs[q]? := by simp [lookN_number]
theorem ixFrom_ok : ∀ (acc:List Nat) (n o q:Nat),ixFrom n acc o=some q→n≤q∧acc[q - n]? = some o
  | [],n,o,q,h=>by simp [ixFrom] at h
  | a :: acc,n,o,q,h=>by
    simp only [ixFrom] at h
    split at h
    · rename_i he
      simp at h he; subst h; subst he; simp
    · obtain ⟨h1,h2⟩:=ixFrom_ok acc (n+1) o q h
      have:q - n=(q - (n+1))+1:=by omega
      exact ⟨by omega,by rw [this]; simpa using h2⟩
theorem nodupB_ok : ∀ (acc:List Nat),nodupB acc=true → ∀ (i j o:Nat),acc[i]? = some o→acc[j]? = some o→i=j
  | [],_,i,j,o,h,_=>by simp at h
  | a :: acc,hn,i,j,o,hi,hj=>by
    simp [nodupB] at hn
    have mem : ∀ (k:Nat),acc[k]? = some a→False:=fun k hk=>hn.1 (List.mem_of_getElem? hk)
    cases i with
    | zero=>cases j with
      | zero=>rfl
      | succ j=>simp at hi hj; subst hi; exact (mem j hj).elim
    | succ i=>cases j with
      | zero=>simp at hi hj; subst hj; exact (mem i hi).elim
      | succ j=>simp at hi hj; rw [nodupB_ok acc hn.2 i j o hi hj]
theorem getOb_ok : ∀ (acc:List Nat) (os:List AO),getOb ob acc=some os→os.length=acc.length ∧ ∀ (q o:Nat),acc[q]? = some o → ∃ x,os[q]? = some x∧ob o=some x
  | [],os,h=>by simp [getOb] at h; subst h; exact ⟨rfl,fun q o h=>by simp at h⟩
  | a :: acc,os,h=>by
    simp only [getOb] at h
    split at h
    · rename_i x hx
      split at h
      · rename_i xs hxs
        simp at h; subst h
        obtain ⟨h1,h2⟩:=getOb_ok acc xs hxs
        refine ⟨by simp [h1],fun q o hq => ?_⟩
        cases q with
        | zero=>simp at hq; subst hq; exact ⟨x,rfl,hx⟩
        | succ q=>simpa using h2 q o (by simpa using hq)
      · cases h
    · cases h
def only(acc:List Nat)(ob:Ob):Ob:=fun o=>if o∈acc then ob o else none
open Classical in
noncomputable def rest(σ:Sg)(ob:Ob)(w:World):Nat→Option Obj:=fun b=>if own σ ob b then none else w.heap[b]?
theorem rest_ext(oi:OI S σ ob w)(acc:List Nat){b:Nat}{x:Obj}(h:S b=some x):rest σ (only acc ob) w b=some x:=by
  have hno : ¬ own σ (only acc ob) b:=by
    rintro ⟨o,y,k,ho,hk,hr,rfl⟩
    simp only [only] at ho
    split at ho
    · rw [oi.sep o y k ho hk hr] at h; cases h
    · cases ho
  simp only [rest,if_neg hno]
  exact oi.st b x h
theorem Sb.eq{S T:Sb}(h1:S.f=T.f)(h2:S.g=T.g):S=T:=by cases S; cases T; cases h1; cases h2; rfl
noncomputable def restS(oi:OI S σ ob w)(acc:List Nat)(io:Bool):Sb:=⟨rest σ (only acc ob) w,match io with | true=>S.g | false=>rest σ (only acc ob) w,by
  cases io
  · exact fun _ _ h=>h
  · exact fun b x h=>rest_ext oi acc (S.sub b x h)⟩
theorem rest_extg(oi:OI S σ ob w)(acc:List Nat)(io:Bool)(b:Nat)(x:Obj)(h:S.g b=some x):(restS oi acc io).g b=some x:=by
  cases io
  · exact rest_ext oi acc (S.sub b x h)
  · exact h
def names(σ:Sg)(acc:List Nat):Sg:=fun q=>match acc[q]? with
  | some o=>σ o
  | none=>none
theorem pre_ok(oi:OI S σ ob w){f:Nat}{az:List AV}{q:Pre}(h:preOf E f az ob=some q){vs:List Value}(hR:RL S σ az vs) :
    q.f=f∧RL (restS oi q.acc (E.io.contains f)) (names σ q.acc) q.args vs∧OI (restS oi q.acc (E.io.contains f)) (names σ q.acc) (lookN (number 0 q.obs)) w∧q.obs.length=q.acc.length∧nodupB q.acc=true ∧
      (∀ (i o:Nat),q.acc[i]? = some o → ∃ x,ob o=some x):=by
  unfold preOf at h
  split at h
  · simp only at h
    split at h
    · rename_i os hnd hos
      simp at h; subst h
      generalize visitL (visit depth ob) [] az=acc at hnd hos
      obtain ⟨hlen,hget⟩:=getOb_ok acc os hos
      have hρ : ∀ o q,ixFrom 0 acc o=some q→names σ acc q=σ o:=by
        intro o q hq
        obtain ⟨_,h2⟩:=ixFrom_ok acc 0 o q hq
        simp only [Nat.sub_zero] at h2
        simp [names,h2]
      have at_ : ∀ (q:Nat) (x:AO),(os.map (renO (ixFrom 0 acc)))[q]? = some x → ∃ (o:Nat) (y:AO),acc[q]? = some o∧ob o=some y∧x=renO (ixFrom 0 acc) y:=by
        intro q x hx
        rw [List.getElem?_map] at hx
        cases hy:os[q]? with
        | none=>simp [hy] at hx
        | some y =>
          simp [hy] at hx
          have hlt:=(List.getElem?_eq_some_iff.1 hy).1
          obtain ⟨o,ho⟩ : ∃ o,acc[q]? = some o:=⟨acc[q],by simp [show q < acc.length by omega]⟩
          obtain ⟨x',h1,h2⟩:=hget q o ho
          rw [hy] at h1
          obtain rfl:=Option.some.inj h1
          exact ⟨o,y,ho,h2,hx.symm⟩
      refine ⟨rfl,?_,?_,by simp [hlen],hnd,fun i o hi=>let ⟨x,_,h⟩:=hget i o hi; ⟨x,h⟩⟩
      · exact (renL_RL (fun a v=>ren_R hρ depth a v) hR).mono (fun _ _ h=>h) (rest_extg oi acc _)
      · refine ⟨?_,?_,?_,?_,oi.tab.mono fun b x hb=>rest_ext oi acc hb⟩
        · intro q x hx
          rw [lookN_num] at hx
          obtain ⟨o,y,h1,h2,rfl⟩:=at_ q x hx
          obtain ⟨k,hk,ok⟩:=oi.ok o y h2
          refine ⟨k,by simp [names,h1,hk],?_⟩
          have:=renO_ok hρ ok
          cases y with
          | row cs xs=>exact this
          | box us =>
            obtain ⟨g1,cur,e,g2,g3⟩:=this
            exact ⟨g1,cur,e,g2,g3.mono (fun _ _ h=>h) (rest_extg oi acc _)⟩
        · intro p p' x x' k k' h1 h2 h3 h4 r1 r2 hb
          rw [lookN_num] at h1 h2
          obtain ⟨o,y,g1,g2,rfl⟩:=at_ p x h1
          obtain ⟨o',y',g1',g2',rfl⟩:=at_ p' x' h2
          simp only [names,g1] at h3
          simp only [names,g1'] at h4
          have:=oi.inj o o' y y' k k' g2 g2' h3 h4 r1 r2 hb
          subst this
          exact nodupB_ok acc hnd p p' o g1 g1'
        · intro b x hb
          have hb:rest σ (only acc ob) w b=some x:=hb
          simp only [rest] at hb
          split at hb
          · cases hb
          · exact hb
        · intro p x k hp hk hr
          rw [lookN_num] at hp
          obtain ⟨o,y,g1,g2,rfl⟩:=at_ p x hp
          simp only [names,g1] at hk
          have hm:o∈acc:=List.mem_of_getElem? g1
          have:own σ (only acc ob) k.b:=⟨o,y,k,by simp [only,hm,g2],hk,hr,rfl⟩
          show rest σ (only acc ob) w k.b=none
          simp [rest,this]
    · cases h
  · rename_i hio
    have hio:E.io.contains f=false:=by simpa using hio
    rw [hio]
    split at h
    · rename_i as' has
      simp at h; subst h
      have hno : ∀ b,¬ own σ (only [] ob) b:=by
        rintro b ⟨o,y,k,ho,_⟩
        simp [only] at ho
      have hrest:rest σ (only [] ob) w=fun b=>w.heap[b]? := by
        funext b
        simp [rest,hno b]
      have hS:restS oi [] false=SH w:=Sb.eq hrest hrest
      refine ⟨rfl,?_,⟨?_,?_,?_,?_,oi.tab.mono fun b x hb=>rest_ext oi [] hb⟩,rfl,rfl,fun i o h=>by simp at h⟩
      · show RL (restS oi [] false) _ _ _
        rw [hS]
        exact mapX_RL (fun a b v=>ro_R oi depth a b v) has hR
      · intro o x h; simp [number,lookN] at h
      · intro o o' x x' k k' h; simp [number,lookN] at h
      · intro b x h; have h:rest σ (only [] ob) w b=some x:=h; rw [hrest] at h; exact h
      · intro o x k h; simp [number,lookN] at h
    · cases h
theorem outAt_ok : ∀ (outs:List (Option Nat)) (acc:List Nat) (q o:Nat),outAt outs acc q=some o → ∃ i:Nat,outs[i]? = some (some q)∧acc[i]? = some o
  | [],_,q,o,h=>by simp [outAt] at h
  | some p :: outs,[],q,o,h=>by simp [outAt] at h
  | none :: outs,[],q,o,h=>by simp [outAt] at h
  | some p :: outs,b :: acc,q,o,h=>by
    simp only [outAt] at h
    split at h
    · rename_i e
      simp at e h; subst e; subst h
      exact ⟨0,rfl,rfl⟩
    · obtain ⟨i,h1,h2⟩:=outAt_ok outs acc q o h
      exact ⟨i+1,by simpa using h1,by simpa using h2⟩
  | none :: outs,b :: acc,q,o,h=>by
    simp only [outAt] at h
    obtain ⟨i,h1,h2⟩:=outAt_ok outs acc q o h
    exact ⟨i+1,by simpa using h1,by simpa using h2⟩
theorem outAt_in : ∀ (outs:List (Option Nat)) (acc:List Nat) (i q o:Nat),outs[i]? = some (some q)→acc[i]? = some o → ∃ o',outAt outs acc q=some o'
  | [],_,i,q,o,h,_=>by simp at h
  | _ :: outs,[],i,q,o,_,h=>by simp at h
  | some p :: outs,b :: acc,i,q,o,h1,h2=>by
    simp only [outAt]
    split
    · exact ⟨b,rfl⟩
    · rename_i e
      cases i with
      | zero=>simp at h1; subst h1; simp at e
      | succ i=>exact outAt_in outs acc i q o (by simpa using h1) (by simpa using h2)
  | none :: outs,b :: acc,i,q,o,h1,h2=>by
    simp only [outAt]
    cases i with
    | zero=>simp at h1
    | succ i=>exact outAt_in outs acc i q o (by simpa using h1) (by simpa using h2)
theorem outs_inj : ∀ (outs:List (Option Nat)),nodupB (outs.filterMap id)=true → ∀ (i j q:Nat),outs[i]? = some (some q)→outs[j]? = some (some q)→i=j
  | [],_,i,j,q,h,_=>by simp at h
  | none :: outs,hn,i,j,q,hi,hj=>by
    cases i with
    | zero=>simp at hi
    | succ i=>cases j with
      | zero=>simp at hj
      | succ j=>rw [outs_inj outs (by simpa using hn) i j q (by simpa using hi) (by simpa using hj)]
  | some p :: outs,hn,i,j,q,hi,hj=>by
    simp [nodupB] at hn
    have mem : ∀ (k:Nat),outs[k]? = some (some p)→False:=fun k hk=>hn.1 (List.mem_of_getElem? hk)
    cases i with
    | zero=>cases j with
      | zero=>rfl
      | succ j=>simp at hi hj; subst hi; exact (mem j hj).elim
    | succ i=>cases j with
      | zero=>simp at hi hj; subst hj; exact (mem i hi).elim
      | succ j=>simp at hi hj; rw [outs_inj outs (by simpa using hn.2) i j q hi hj]
theorem updF_backs(ρ:Nat→Option Nat)(nm:Nat→Nat) : ∀ (xs:List AO) (n:Nat) (ob:Ob) (o:Nat),(o ∉ (backs ρ nm n xs).map (·.1)∧updF ob (backs ρ nm n xs) o=ob o) ∨
    ∃ (q:Nat) (x:AO),xs[q]? = some x∧o=nm (n+q)∧updF ob (backs ρ nm n xs) o=some (renO ρ x)
  | [],n,ob,o => .inl ⟨by simp [backs],rfl⟩
  | x :: xs,n,ob,o=>by
    simp only [backs,updF]
    rcases updF_backs ρ nm xs (n+1) (fun p=>if p=nm n then some (renO ρ x) else ob p) o with ⟨hn,h⟩ | ⟨q,y,h1,h2,h3⟩
    · by_cases e:o=nm n
      · right
        refine ⟨0,x,rfl,e,?_⟩
        rw [h,if_pos e]
      · left
        refine ⟨?_,by rw [h,if_neg e]⟩
        simp only [List.map_cons,List.mem_cons,not_or]
        exact ⟨e,hn⟩
    · right
      exact ⟨q+1,y,by simpa using h1,by rw [h2]; congr 1; omega,h3⟩
theorem backs_in(ρ:Nat→Option Nat)(nm:Nat→Nat) : ∀ (xs:List AO) (n q:Nat),q < xs.length→nm (n+q)∈(backs ρ nm n xs).map (·.1)
  | [],n,q,h=>by simp at h
  | x :: xs,n,0,_=>by simp [backs]
  | x :: xs,n,q+1,h=>by
    have:=backs_in ρ nm xs (n+1) q (by simpa using h)
    simp only [backs,List.map_cons,List.mem_cons]
    right
    have e:n+(q+1)=n+1+q:=by omega
    rwa [e]
theorem updF_deadL(outs:List (Option Nat)) : ∀ (acc:List Nat) (ob:Ob) (o:Nat) (x:AO),updF ob (dead outs acc) o=some x→ob o=some x ∧ ∀ (i:Nat),outs[i]? = some none→acc[i]? ≠ some o:=by
  induction outs with
  | nil=>intro acc ob o x h; exact ⟨by simpa [dead,updF] using h,fun i h=>by simp at h⟩
  | cons y outs ih =>
    intro acc ob o x h
    cases acc with
    | nil=>cases y<;>exact ⟨by simpa [dead,updF] using h,fun i _ h=>by simp at h⟩
    | cons b acc =>
      cases y with
      | none =>
        simp only [dead,updF] at h
        obtain ⟨h1,h2⟩:=ih acc _ o x h
        split at h1
        · cases h1
        · rename_i hne
          refine ⟨h1,fun i g1 g2 => ?_⟩
          cases i with
          | zero=>simp at g2; exact hne g2.symm
          | succ i=>exact h2 i (by simpa using g1) (by simpa using g2)
      | some q =>
        simp only [dead] at h
        obtain ⟨h1,h2⟩:=ih acc _ o x h
        refine ⟨h1,fun i g1 g2 => ?_⟩
        cases i with
        | zero=>simp at g1
        | succ i=>exact h2 i (by simpa using g1) (by simpa using g2)
theorem updF_app(u u':List (Nat × Option AO))(ob:Ob):updF ob (u++u')=updF (updF ob u) u':=updF_append u u' ob
theorem post_ok(oi:OI S σ ob w){q:Pre}(hlen:q.obs.length=q.acc.length)(hnd:nodupB q.acc=true)(hob : ∀ (i o:Nat),q.acc[i]? = some o → ∃ x,ob o=some x){nb:Nat}(hfr : ∀ o,nb≤o→o < nb+1000→σ o=none)
    {io:Bool} {r:Res} {v:AV} {u:List (Nat × Option AO)} (h:postOf io nb q r=some (v,u)) {v':Value} {w':World} {σ1:Sg} (h1:R (restS oi q.acc io) σ1 r.av v') (h2:OI (restS oi q.acc io) σ1 (lookN (number 0 r.obs)) w') (h3:Tail w w')
    (h4 : ∀ q,σ1 q≠none→q < r.obs.length) (h5 : ∀ (i p:Nat),r.outs[i]? = some (some p)→σ1 p=names σ q.acc i) : ∃ σ',Does S σ ob w nb v u v' w' σ':=by
  unfold postOf at h
  split at h
  · rename_i hc
    simp at h
    obtain ⟨rfl,rfl⟩:=h
    simp only [Bool.and_eq_true,Nat.blt_eq,Nat.beq_eq,List.all_eq_true] at hc
    obtain ⟨⟨⟨hc12,hc3⟩,hc4⟩,hc5⟩:=hc
    have hR1:R S σ1 r.av v':=by
      cases io with
      | true=>exact h1.mono (fun _ _ h=>h) fun b x h=>h
      | false =>
        simp only [Bool.false_or,Bool.and_eq_true,List.all_eq_true] at hc12
        exact noMem_R (S:=S) depth _ _ hc12.1 h1
    have hO1 : ∀ (y:AO) (k:Bk),y∈r.obs→objOK (restS oi q.acc io) σ1 w' k y→objOK S σ1 w' k y:=by
      intro y k hy ok
      cases io with
      | true =>
        cases y with
        | row cs xs=>exact ok
        | box us =>
          obtain ⟨g1,cur,e,g2,g3⟩:=ok
          exact ⟨g1,cur,e,g2,g3.mono (fun _ _ h=>h) fun b x h=>h⟩
      | false =>
        simp only [Bool.false_or,Bool.and_eq_true,List.all_eq_true] at hc12
        exact noMemO_ok (hc12.2 y hy) ok
    generalize hnm:(fun p=>(outAt r.outs q.acc p).getD (nb+p))=nm
    have hnm' : ∀ p,(outAt r.outs q.acc p).getD (nb+p)=nm p:=fun p=>by rw [← hnm]
    generalize hρ:(fun p=>if p < r.obs.length then some (nm p) else none)=ρ
    let σ':Sg:=fun o=>match σ o with
      | some k=>some k
      | none=>if nb≤o then σ1 (o - nb) else none
    -- each name
    have key : ∀ p,p < r.obs.length→σ' (nm p)=σ1 p:=by
      intro p hp
      rw [← hnm' p]
      cases ho:outAt r.outs q.acc p with
      | some o =>
        obtain ⟨i,g1,g2⟩:=outAt_ok _ _ _ _ ho
        obtain ⟨x,hx⟩:=hob i o g2
        obtain ⟨k,hk,_⟩:=oi.ok o x hx
        simp only [Option.getD_some,σ',hk]
        rw [h5 i p g1]
        simp [names,g2,hk]
      | none =>
        have:=hfr (nb+p) (by omega) (by omega)
        simp [σ',this]
    have hext : ∀ o k,σ o=some k→σ' o=some k:=fun o k h=>by simp [σ',h]
    have hρ' : ∀ p o,ρ p=some o→σ' o=σ1 p:=by
      intro p o hpo
      rw [← hρ] at hpo
      simp only at hpo
      split at hpo
      · rename_i hp
        obtain rfl:=Option.some.inj hpo
        exact key p hp
      · cases hpo
    have hsub : ∀ b x,S b=some x→rest σ (only q.acc ob) w b=some x:=fun b x h=>rest_ext oi q.acc h
    -- what is there then
    have at_ : ∀ o x,updF ob (dead r.outs q.acc++backs ρ nm 0 r.obs) o=some x→(∃ p y,r.obs[p]? = some y∧o=nm p∧x=renO ρ y)∨(ob o=some x∧o ∉ q.acc):=by
      intro o x hx
      rw [updF_app] at hx
      rcases updF_backs ρ nm r.obs 0 (updF ob (dead r.outs q.acc)) o with ⟨hnot,e⟩ | ⟨p,y,g1,g2,g3⟩
      · right
        rw [e] at hx
        obtain ⟨hx,hno⟩:=updF_deadL _ _ _ _ _ hx
        refine ⟨hx,fun hm => ?_⟩
        obtain ⟨i,hi,hie⟩:=List.getElem_of_mem hm
        have g2:q.acc[i]? = some o:=by simp [hi,hie]
        have hio:i < r.outs.length:=by omega
        cases hoi:r.outs[i] with
        | none=>exact hno i (by simp [hio,hoi]) g2
        | some p =>
          have g1:r.outs[i]? = some (some p):=by simp [hio,hoi]
          have hσ:=h5 i p g1
          obtain ⟨y,hy⟩:=hob i o g2
          obtain ⟨k,hk,_⟩:=oi.ok o y hy
          simp only [names,g2,hk] at hσ
          have hp:=h4 p (by rw [hσ]; simp)
          obtain ⟨o',ho'⟩:=outAt_in _ _ _ _ _ g1 g2
          obtain ⟨i',f1,f2⟩:=outAt_ok _ _ _ _ ho'
          have:=outs_inj r.outs hc5 i' i p f1 g1
          subst this
          rw [g2] at f2
          obtain rfl:=Option.some.inj f2
          have hnmp:nm p=o:=by rw [← hnm' p,ho']; rfl
          have hin:=backs_in ρ nm r.obs 0 p hp
          rw [Nat.zero_add,hnmp] at hin
          exact hnot hin
      · left
        rw [g3] at hx
        exact ⟨p,y,g1,by simpa using g2,(Option.some.inj hx).symm⟩
    have hno : ∀ o x k,ob o=some x→o ∉ q.acc→σ o=some k→k.real=true→rest σ (only q.acc ob) w k.b=w.heap[k.b]? ∧ k.b < w.heap.size:=by
      intro o x k ho hm hk hr
      obtain ⟨k',hk',ok⟩:=oi.ok o x ho
      rw [hk] at hk'
      obtain rfl:=Option.some.inj hk'
      refine ⟨?_,ok.lt hr⟩
      have : ¬ own σ (only q.acc ob) k.b:=by
        rintro ⟨o2,y,k2,g1,g2,g3,g4⟩
        simp only [only] at g1
        split at g1
        · rename_i hm2
          exact hm (oi.inj o2 o y x k2 k g1 ho g2 hk g3 hr g4 ▸ hm2)
        · cases g1
      simp [rest,this]
    have keep : ∀ b,¬ own σ (only q.acc ob) b→b < w.heap.size→w'.heap[b]? = w.heap[b]? := by
      intro b hb hlt
      have:rest σ (only q.acc ob) w b=some (w.heap[b]):=by simp [rest,hb,hlt]
      rw [h2.st b _ this]
      simp [hlt]
    have honly : ∀ b,own σ (only q.acc ob) b→own σ ob b:=by
      intro b hb
      refine own_sub (fun o x ho => ?_) hb
      simp only [only] at ho
      split at ho
      · exact ho
      · cases ho
    have obsn : ∀ (p:Nat) (y:AO),r.obs[p]? = some y→p < r.obs.length∧lookN (number 0 r.obs) p=some y:=by
      intro p y hy
      exact ⟨(List.getElem?_eq_some_iff.1 hy).1,by rw [lookN_num]; exact hy⟩
    have at2 : ∀ o x,updF ob (dead r.outs q.acc++backs (fun q_1=>if q_1 < r.obs.length then some ((outAt r.outs q.acc q_1).getD (nb+q_1)) else none) nm 0 r.obs) o=some x →
        (∃ p y,r.obs[p]? = some y∧o=nm p∧x=renO ρ y)∨(ob o=some x∧o ∉ q.acc):=by
      intro o x hx
      refine at_ o x ?_
      subst hρ
      subst hnm
      exact hx
    refine ⟨σ',?_,⟨?_,?_,?_,?_,oi.tab⟩,hext,?_,h3,fun b hb hno'=>keep b (fun h=>hno' (honly b h)) hb,?_⟩
    · have:=ren_R hρ' depth _ _ hR1
      subst hρ
      subst hnm
      exact this
    · intro o x hx
      rcases at2 o x hx with ⟨p,y,g1,rfl,rfl⟩ | ⟨g1,g2⟩
      · obtain ⟨hp,hl⟩:=obsn p y g1
        obtain ⟨k,hk,ok⟩:=h2.ok p y hl
        exact ⟨k,by rw [key p hp]; exact hk,renO_ok hρ' (hO1 y k (List.mem_of_getElem? g1) ok)⟩
      · obtain ⟨k,hk,ok⟩:=oi.ok o x g1
        refine ⟨k,hext o k hk,ok.at hext fun hr => ?_⟩
        obtain ⟨e1,e2⟩:=hno o x k g1 g2 hk hr
        refine keep k.b (fun hown => ?_) e2
        have:rest σ (only q.acc ob) w k.b=none:=by simp [rest,hown]
        rw [this] at e1
        simp [e2] at e1
    · intro o o' x x' k k' hx hx' hk hk' r1 r2 hb
      rcases at2 o x hx with ⟨p,y,g1,rfl,rfl⟩ | ⟨g1,g2⟩<;>rcases at2 o' x' hx' with ⟨p',y',g1',rfl,rfl⟩ | ⟨g1',g2'⟩
      · obtain ⟨hp,hl⟩:=obsn p y g1
        obtain ⟨hp',hl'⟩:=obsn p' y' g1'
        rw [key p hp] at hk
        rw [key p' hp'] at hk'
        rw [h2.inj p p' y y' k k' hl hl' hk hk' r1 r2 hb]
      · obtain ⟨hp,hl⟩:=obsn p y g1
        rw [key p hp] at hk
        obtain ⟨k2,hk2,_⟩:=oi.ok o' x' g1'
        have:k2=k':=by have:=hext o' k2 hk2; rw [hk'] at this; exact (Option.some.inj this).symm
        subst this
        obtain ⟨e1,e2⟩:=hno o' x' k2 g1' g2' hk2 r2
        have this:rest σ (only q.acc ob) w k.b=none:=h2.sep p y k hl hk r1
        rw [hb,e1] at this
        simp [e2] at this
      · obtain ⟨hp,hl⟩:=obsn p' y' g1'
        rw [key p' hp] at hk'
        obtain ⟨k2,hk2,_⟩:=oi.ok o x g1
        have:k2=k:=by have:=hext o k2 hk2; rw [hk] at this; exact (Option.some.inj this).symm
        subst this
        obtain ⟨e1,e2⟩:=hno o x k2 g1 g2 hk2 r1
        have this:rest σ (only q.acc ob) w k'.b=none:=h2.sep p' y' k' hl hk' r2
        rw [← hb,e1] at this
        simp [e2] at this
      · obtain ⟨k2,hk2,_⟩:=oi.ok o x g1
        obtain ⟨k3,hk3,_⟩:=oi.ok o' x' g1'
        have e2:k2=k:=by have:=hext o k2 hk2; rw [hk] at this; exact (Option.some.inj this).symm
        have e3:k3=k':=by have:=hext o' k3 hk3; rw [hk'] at this; exact (Option.some.inj this).symm
        subst e2
        subst e3
        exact oi.inj o o' x x' k2 k3 g1 g1' hk2 hk3 r1 r2 hb
    · intro b x hb
      exact h2.st b x (hsub b x hb)
    · intro o x k hx hk hr
      rcases at2 o x hx with ⟨p,y,g1,rfl,rfl⟩ | ⟨g1,g2⟩
      · obtain ⟨hp,hl⟩:=obsn p y g1
        rw [key p hp] at hk
        have this:rest σ (only q.acc ob) w k.b=none:=h2.sep p y k hl hk hr
        cases hS:S k.b with
        | none=>rfl
        | some z=>rw [hsub _ _ hS] at this; cases this
      · obtain ⟨k2,hk2,_⟩:=oi.ok o x g1
        have e2:k2=k:=by have:=hext o k2 hk2; rw [hk] at this; exact (Option.some.inj this).symm
        subst e2
        exact oi.sep o x k2 g1 hk2 hr
    · intro o ho
      by_cases hσ:σ o=none
      · right
        simp only [σ',hσ] at ho
        split at ho
        · rename_i hle
          have:=h4 _ ho
          exact ⟨hle,by omega⟩
        · exact absurd rfl ho
      · exact .inl hσ
    · rintro b ⟨o,x,k,hx,hk,hr,rfl⟩
      rcases at2 o x hx with ⟨p,y,g1,rfl,rfl⟩ | ⟨g1,g2⟩
      · obtain ⟨hp,hl⟩:=obsn p y g1
        rw [key p hp] at hk
        have this:rest σ (only q.acc ob) w k.b=none:=h2.sep p y k hl hk hr
        by_cases hown:own σ (only q.acc ob) k.b
        · exact .inl (honly _ hown)
        · simp only [rest,if_neg hown] at this
          right
          exact Nat.le_of_not_lt fun h=>by simp [h] at this
      · obtain ⟨k2,hk2,_⟩:=oi.ok o x g1
        have e2:k2=k:=by have:=hext o k2 hk2; rw [hk] at this; exact (Option.some.inj this).symm
        subst e2
        exact .inl ⟨o,x,k2,g1,hk2,hr,rfl⟩
  · cases h
end Go.Proofs.YtkjnijddbiconaaGreatDoor.Ev

namespace Go.Proofs.YtkjnijddbiconaaGreatDoor.Ev
open Go
set_option linter.unusedVariables false
set_option linter.unusedSimpArgs false
variable {P:Program} {E:Env} {S:Sb} {σ:Sg} {l:List AV} {a:Act} {ob:Ob} {w:World}
theorem restr_sub{D:List Nat} : ∀ o x,restr D ob o=some x→ob o=some x:=by
  intro o x h
  unfold restr at h
  split at h
  · exact h
  · cases h
theorem Does.old{nb:Nat}{v:AV}{u:List (Nat × Option AO)}{v':Value}{w':World}{σ':Sg}(oi:OI S σ ob w)(d:Does S σ ob w nb v u v' w' σ'){o:Nat}{x:AO}(ho:ob o=some x){k:Bk}(hk:σ' o=some k):σ o=some k:=by
  obtain ⟨k2,hk2,_⟩:=oi.ok o x ho
  have:=d.ext o k2 hk2
  rw [hk] at this
  rw [hk2,Option.some.inj this]
theorem Does.widen(oi:OI S σ ob w){D:List Nat}{nb:Nat}{v:AV}{u:List (Nat × Option AO)}{v':Value}{w':World}{σ':Sg}(d:Does S σ (restr D ob) w nb v u v' w' σ'):Does S σ ob w nb v u v' w' σ':=by
  have at_ : ∀ o x,updF ob u o=some x→updF (restr D ob) u o=some x∨(ob o=some x∧restr D ob o=none):=by
    intro o x h
    by_cases hu:o∈u.map (·.1)
    · left; rw [updF_in u (restr D ob) ob o hu]; exact h
    · rw [updF_not u ob o hu] at h
      rw [updF_not u _ o hu]
      cases hr:restr D ob o with
      | none=>exact .inr ⟨h,rfl⟩
      | some y=>left; rw [restr_sub o y hr] at h; exact h
  have own_ : ∀ b,own σ (restr D ob) b→own σ ob b:=fun b h=>own_sub restr_sub h
  have ext2 : ∀ o x k,ob o=some x→σ' o=some k→σ o=some k:=by
    intro o x k ho hk
    obtain ⟨k2,hk2,_⟩:=oi.ok o x ho
    have:=d.ext o k2 hk2
    rw [hk] at this
    rw [hk2,Option.some.inj this]
  have away : ∀ o x k,ob o=some x→restr D ob o=none→σ o=some k→k.real=true → ¬ own σ (restr D ob) k.b∧k.b < w.heap.size:=by
    intro o x k ho hn hk hr
    obtain ⟨k2,hk2,ok⟩:=oi.ok o x ho
    rw [hk] at hk2
    obtain rfl:=Option.some.inj hk2
    refine ⟨?_,ok.lt hr⟩
    rintro ⟨o2,y,k2,g1,g2,g3,g4⟩
    have:=oi.inj o2 o y x k2 k (restr_sub o2 y g1) ho g2 hk g3 hr g4
    subst this
    rw [hn] at g1; cases g1
  have apart : ∀ o x k o' x' k',updF (restr D ob) u o=some x→ob o'=some x'→restr D ob o'=none→σ' o=some k→σ' o'=some k'→k.real=true→k'.real=true→k.b≠k'.b:=by
    intro o x k o' x' k' h1 h2 h3 h4 h5 r1 r2 hb
    have h5':=ext2 o' x' k' h2 h5
    obtain ⟨e1,e2⟩:=away o' x' k' h2 h3 h5' r2
    rcases d.src k.b ⟨o,x,k,h1,h4,r1,rfl⟩ with h | h
    · rw [hb] at h; exact e1 h
    · omega
  refine ⟨d.r,⟨?_,?_,d.oi.st,?_,oi.tab⟩,d.ext,d.new,d.tl,fun b hb hno=>d.fr b hb fun h=>hno (own_ b h),?_⟩
  · intro o x h
    rcases at_ o x h with h | ⟨h,hn⟩
    · exact d.oi.ok o x h
    · obtain ⟨k,hk,ok⟩:=oi.ok o x h
      refine ⟨k,d.ext o k hk,ok.at d.ext fun hr => ?_⟩
      obtain ⟨e1,e2⟩:=away o x k h hn hk hr
      exact d.fr k.b e2 e1
  · intro o o' x x' k k' h h' hk hk' r1 r2 hb
    rcases at_ o x h with g | ⟨g,gn⟩<;>rcases at_ o' x' h' with g' | ⟨g',gn'⟩
    · exact d.oi.inj o o' x x' k k' g g' hk hk' r1 r2 hb
    · exact absurd hb (apart o x k o' x' k' g g' gn' hk hk' r1 r2)
    · exact absurd hb.symm (apart o' x' k' o x k g' g gn hk' hk r2 r1)
    · exact oi.inj o o' x x' k k' g g' (ext2 o x k g hk) (ext2 o' x' k' g' hk') r1 r2 hb
  · intro o x k h hk hr
    rcases at_ o x h with g | ⟨g,gn⟩
    · exact d.oi.sep o x k g hk hr
    · exact oi.sep o x k g (ext2 o x k g hk) hr
  · rintro b ⟨o,x,k,h,hk,hr,hb⟩
    rcases at_ o x h with g | ⟨g,gn⟩
    · exact (d.src b ⟨o,x,k,g,hk,hr,hb⟩).imp (own_ b) id
    · exact .inl ⟨o,x,k,g,ext2 o x k g hk,hr,hb⟩
theorem opd_congr{tm tm':Tm}{t:Nat}{x:Operand}(h : ∀ s,x = .tmp s→tm s=tm' s):opd E tm t x=opd E tm' t x:=by
  cases x<;>simp [opd]
  rename_i s
  exact h s rfl
theorem opdL_congr{tm tm':Tm} : ∀ (ts:List Nat) (xs:List Operand),(∀ x∈xs,∀ t,opd E tm t x=opd E tm' t x)→opdL E tm ts xs=opdL E tm' ts xs
  | _,[],_=>by simp [opdL]
  | [],x :: xs,h=>by simp only [opdL]; rw [h x (by simp) 0,opdL_congr [] xs fun y hy=>h y (by simp [hy])]
  | t :: ts,x :: xs,h=>by simp only [opdL]; rw [h x (by simp) t,opdL_congr ts xs fun y hy=>h y (by simp [hy])]
theorem boundA_congr{tm tm':Tm}(d:Int)(x:Option Operand)(h : ∀ y,x=some y → ∀ t,opd E tm t y=opd E tm' t y):boundA E tm d x=boundA E tm' d x:=by
  cases x with
  | none=>rfl
  | some y=>simp only [boundA]; rw [h y rfl 0]
theorem partsAV_congr{tm tm':Tm}(pl:Nat→Option (Nat × Nat)) : ∀ (ps:List (Nat × Operand)) (us:List AV),(∀ x∈ps.map (·.2),∀ t,opd E tm t x=opd E tm' t x)→partsAV E tm pl ps us=partsAV E tm' pl ps us
  | [],us,_=>rfl
  | (i,x) :: ps,us,h=>by
    have ih:=fun us=>partsAV_congr pl ps us fun y hy=>h y (by simp at hy ⊢; exact .inr hy)
    simp only [partsAV]
    simp only [h x (by simp),ih]
theorem sliceA_congr{tm tm':Tm}{t:Nat}{x:AV}{lo hi mx:Option Operand}(h1 : ∀ y,lo=some y → ∀ t,opd E tm t y=opd E tm' t y)(h2 : ∀ y,hi=some y → ∀ t,opd E tm t y=opd E tm' t y)
    (h3 : ∀ y,mx=some y → ∀ t,opd E tm t y=opd E tm' t y):sliceA E tm ob t x lo hi mx=sliceA E tm' ob t x lo hi mx:=by
  unfold sliceA
  simp only [boundA_congr _ lo h1,boundA_congr _ hi h2,boundA_congr _ mx h3]
theorem comp_congr{tm tm':Tm}{o:Oper}{nb:Nat}(h : ∀ s,.tmp s∈o.op.operands→tm s=tm' s):comp E nb o tm ob=comp E nb o tm' ob:=by
  have key : ∀ x∈o.op.operands,∀ t,opd E tm t x=opd E tm' t x:=fun x hx t=>opd_congr fun s e=>h s (e ▸ hx)
  clear h
  obtain ⟨dst,op,type,pos,after,guard⟩:=o
  cases op<;>simp only [Op.operands] at key<;>simp only [comp]
  case build t ps =>
    have:=fun pl us=>partsAV_congr (E:=E) (tm:=tm) (tm':=tm') pl ps.toList us fun x hx=>key x (by simpa using hx)
    simp only [this]
  case buildSlice t n ps =>
    have:=fun pl us=>partsAV_congr (E:=E) (tm:=tm) (tm':=tm') pl ps.toList us fun x hx=>key x (by simpa using hx)
    simp only [this]
  case makeFunc fn first caps =>
    cases fn<;>simp only
    rw [opdL_congr [] caps.toList fun x hx=>key x (by simp at hx ⊢; exact .inr hx)]
  case slice t x lo hi mx =>
    rw [key x (by simp) t]
    split
    · rw [sliceA_congr (fun y hy=>key y (by simp [hy])) (fun y hy=>key y (by simp [hy])) (fun y hy=>key y (by simp [hy]))]
    · rfl
  case call c =>
    obtain ⟨callee,args,ts⟩:=c
    cases callee<;>simp only
    rw [opdL_congr ts.toList args.toList fun x hx=>key x (by simp [Call.operands] at hx ⊢; exact hx)]
  all_goals first
    | rfl
    | (simp only [key _ (List.mem_toArray.2 (List.mem_singleton.2 rfl))]; done)
    | (simp at key; simp only [key]; done)
    | (simp at key; obtain ⟨k1,k2⟩:=key; simp only [k1,k2]; done)
    | (simp at key; obtain ⟨k1,k2,k3⟩:=key; simp only [k1,k2,k3]; done)
def Step1(P:Program)(E:Env)(nb:Nat)(o:Oper)(tm:Tm)(ob:Ob)(v:AV)(u:List (Nat × Option AO)):Prop :=
  (∃ f az q r,calleeOf E o tm=some (f,az)∧preOf E f az ob=some q∧Ctr P f q.args q.obs r∧postOf (E.io.contains f) nb q r=some (v,u))∨comp E nb o tm ob=some ⟨true,v,u⟩
theorem calleeOf_congr{tm tm':Tm}{o:Oper}(h : ∀ s,.tmp s∈o.op.operands→tm s=tm' s):calleeOf E o tm=calleeOf E o tm':=by
  have key : ∀ x∈o.op.operands,∀ t,opd E tm t x=opd E tm' t x:=fun x hx t=>opd_congr fun s e=>h s (e ▸ hx)
  clear h
  obtain ⟨dst,op,type,pos,after,guard⟩:=o
  cases op<;>simp only [Op.operands] at key<;>simp only [calleeOf]
  case call c =>
    obtain ⟨callee,args,ts⟩:=c
    cases callee<;>simp only
    rename_i f
    rw [key f (by simp [Call.operands]) 0,opdL_congr ts.toList args.toList fun x hx=>key x (by simp [Call.operands] at hx ⊢; exact .inr hx)]
theorem Step1.congr{nb:Nat}{o:Oper}{tm tm':Tm}{v:AV}{u:List (Nat × Option AO)}(h : ∀ s,.tmp s∈o.op.operands→tm s=tm' s)(hs:Step1 P E nb o tm ob v u):Step1 P E nb o tm' ob v u:=by
  unfold Step1 at *
  rwa [← calleeOf_congr h,← comp_congr h]
theorem step1_ok(tt:TTOK P E.tt)(he:EqsOK P E)(hs:Slots S σ l a)(oi:OI S σ ob w){nb:Nat}(hfr : ∀ o,nb≤o→o < nb+1000→σ o=none){o:Oper}{v:AV}{u:List (Nat × Option AO)}{D:List Nat}
    (h:Step1 P E nb o (getT l) (restr D ob) v u) {K:Act→World→Prop} {Q:Exit→Act→World→Prop} (hk : ∀ v' w' σ',Does S σ ob w nb v u v' w' σ'→K (a.put o.dst v') w'):o.wp P a w K Q:=by
  have oi':OI S σ (restr D ob) w:=oi.sub restr_sub
  rcases h with ⟨f,az,q,r,h1,h2,h3,h4⟩ | h
  · unfold calleeOf at h1
    split at h1
    · rename_i fv args ts hop
      split at h1
      · rename_i f' caps as0 hfv has
        simp at h1
        obtain ⟨rfl,rfl⟩:=h1
        have hR:=opd_R hs _ _ _ hfv
        have hL:=opdL_RL hs _ _ _ has
        generalize hz:a.eval fv=z at hR
        cases hR with
        | fn _ _ vs hl hh =>
          have hall:RL S σ (as0++caps) (args.toList.map a.eval++vs):=hL.append ⟨hl,hh⟩
          obtain ⟨rfl,p1,p2,p3,p4,p5⟩:=pre_ok oi' h2 hall
          have hgo:=h3 _ _ w _ p1 p2 (by
            intro p hp
            rw [p3]
            refine Nat.lt_of_not_le fun h=>hp ?_
            simp [names,List.getElem?_eq_none h])
          have hex:execOp a.eval o=callFunc q.f (args.toList.map a.eval++vs).toArray:=by
            unfold execOp
            simp only [hop,resolve,hz,Deferred.ofValue,pure_bind,invoke]
            congr 1
            apply Array.toList_inj.1
            simp
          unfold Oper.wp
          rw [hex]
          refine hgo o a K Q fun v' w' ⟨σ1,g1,g2,g3,g4,g5⟩ => ?_
          obtain ⟨σ',hd⟩:=post_ok oi' p3 p4 p5 hfr h4 g1 g2 g3 g4 g5
          exact hk v' w' σ' (hd.widen oi)
      · cases h1
    · cases h1
  · obtain ⟨v',w',σ',hc,hd⟩:=comp_ok tt he hs oi' (hfr nb (Nat.le_refl _) (by omega)) h
    exact hc.wp (hk v' w' σ' (hd.widen oi))
end Go.Proofs.YtkjnijddbiconaaGreatDoor.Ev

namespace Go.Proofs.YtkjnijddbiconaaGreatDoor.Ev
open Go
set_option linter.unusedVariables false
set_option linter.unusedSimpArgs false
variable {P:Program} {E:Env} {S:Sb} {σ:Sg} {a:Act} {w:World}
structure Rec where
  p:POp
  D:List Nat
  out:Option (AV × List (Nat × Option AO))
abbrev Ms:=List AV × Ob
def Rec.v(r:Rec):AV:=match r.out with
  | some x=>x.1
  | none => .val undef
def Rec.u(r:Rec):List (Nat × Option AO):=match r.out with
  | some x=>x.2
  | none => []
def eff(r:Rec)(s:Ms):Ms:=(putT s.1 r.p.o.dst r.v,updF s.2 r.u)
def GuardOK(all:List Oper)(o:Oper)(tm:Tm)(run:Bool):Prop :=
  match o.guard with
  | none=>run=true
  | some (g,want) => ∃ s,dstOf all g=some s∧((∃ b,tm s = .val (.bool b)∧run=(b==want))∨(∃ c,tm s = .val (.tuple c)∧run=false))
def StepR(P:Program)(E:Env)(nx:Nat)(all:List Oper)(s:Ms)(r:Rec):Prop :=
  GuardOK all r.p.o (getT s.1) r.out.isSome∧(∀ x,r.out=some x→Step1 P E (nx+r.p.i * 1000) r.p.o (getT s.1) (restr r.D s.2) x.1 x.2)
inductive Tr (P:Program) (E:Env) (nx:Nat) (all:List Oper):List POp→Ms→List Rec→Ms→Prop
  | nil (s:Ms):Tr P E nx all [] s [] s
  | cons (s:Ms) (r:Rec) (ps:List POp) (rs:List Rec) (s':Ms) (h:StepR P E nx all s r) (t:Tr P E nx all ps (eff r s) rs s'):Tr P E nx all (r.p :: ps) s (r :: rs) s'
def LogOK:List Foot→List Rec→Prop
  | _,[]=>True
  | log,r :: rs=>match r.out with
    | some x=>okLog r.p.anc r.D (x.2.map (·.1)) log=true∧LogOK (⟨r.p.i,r.D,x.2.map (·.1)⟩ :: log) rs
    | none=>LogOK log rs
def ms(st:St):Ms:=(st.tm,lookN st.ob)
def HG(P:Program)(G:Gk):Prop := ∀ f args obs k,G f args obs k → ∃ r,Ctr P f args obs r∧k r
theorem afterP_eq{draw:Bool}{p:POp}{D:List Nat}{log:List Foot}{st:St}{v:AV}{u:List (Nat × Option AO)}{k:Kl}(h:afterP draw p D log st v u k) :
    ∃ log',k log' ⟨putT st.tm p.o.dst v,updO st.ob u,st.nx,st.ps⟩∧(draw=true→okLog p.anc D (u.map (·.1)) log=true∧log'=⟨p.i,D,u.map (·.1)⟩ :: log):=by
  unfold afterP at h
  split at h
  · split at h
    · rename_i hl; exact ⟨_,h,fun _=>⟨hl,rfl⟩⟩
    · exact h.elim
  · exact ⟨log,h,fun h=>by cases h⟩
theorem br_true{b:Bool}{t e:Prop}(h:br b t e)(he : ¬ e):b=true∧t:=by
  unfold br at h
  split at h
  · exact ⟨rfl,h⟩
  · exact (he h).elim
theorem stepP_eq{G:Gk}(hG:HG P G){nx:Nat}{draw:Bool}{p:POp}{log:List Foot}{st:St}{k:Kl}(h:stepP E G nx draw p log st k) :
    ∃ D v u log',Step1 P E (nx+p.i * 1000) p.o (getT st.tm) (restr D (lookN st.ob)) v u∧k log' ⟨putT st.tm p.o.dst v,updO st.ob u,st.nx,st.ps⟩ ∧
      (draw=true→okLog p.anc D (u.map (·.1)) log=true∧log'=⟨p.i,D,u.map (·.1)⟩ :: log):=by
  unfold stepP at h
  simp only at h
  split at h
  · split at h
    · rename_i f az hc
      split at h
      · rename_i q hq
        obtain ⟨r,hctr,h⟩:=hG _ _ _ _ h
        split at h
        · rename_i v u hpost
          obtain ⟨log',h1,h2⟩:=afterP_eq h
          have hqf:q.f=f:=by
            unfold preOf at hq
            split at hq
            · simp only at hq
              split at hq
              · simp at hq; subst hq; rfl
              · cases hq
            · split at hq
              · simp at hq; subst hq; rfl
              · cases hq
          exact ⟨_,v,u,log',.inl ⟨f,az,q,r,hc,hq,hctr,hpost⟩,h1,h2⟩
        · exact h.elim
      · exact h.elim
    · exact h.elim
  · split at h
    · rename_i c v u hcomp
      obtain ⟨rfl,h⟩:=br_true h (fun h=>h)
      obtain ⟨log',h1,h2⟩:=afterP_eq h
      exact ⟨_,v,u,log',.inr hcomp,h1,h2⟩
    · exact h.elim
theorem caseFrom_eq{i:Int}{k:Nat→Prop} : ∀ (n a:Nat),caseFrom i a n k → ∃ m:Nat,i=(m:Int)∧k m
  | 0,a,h=>h.elim
  | n+1,a,h=>by
    simp only [caseFrom,br] at h
    split at h
    · rename_i hb; exact ⟨a,by simpa using hb,h⟩
    · exact caseFrom_eq n (a+1) h
theorem runP_eq{G:Gk}(hG:HG P G){nx:Nat}{draw:Bool}{p:POp}{log:List Foot}{st:St}{k:Kl}(h:runP E G nx draw p log st k) :
    ∃ D v u log',Step1 P E (nx+p.i * 1000) p.o (getT st.tm) (restr D (lookN st.ob)) v u∧k log' ⟨putT st.tm p.o.dst v,updO st.ob u,st.nx,st.ps⟩ ∧
      (draw=true→okLog p.anc D (u.map (·.1)) log=true∧log'=⟨p.i,D,u.map (·.1)⟩ :: log):=by
  unfold runP at h
  split at h
  · rename_i s n _
    split at h
    · rename_i kd i hi
      obtain ⟨m,hm,h2⟩:=caseFrom_eq _ _ h
      have h3:stepP E G nx draw p log ⟨setT st.tm s (.val (.int kd (m:Int))),st.ob,st.nx,st.ps⟩ k:=h2
      rw [← hm,← hi,setT_getT] at h3
      exact stepP_eq hG h3
    · exact h.elim
  · exact stepP_eq hG h
theorem opsP_tr{G:Gk}(hG:HG P G){nx:Nat}{draw:Bool}{all:List Oper} : ∀ (ps:List POp) (log:List Foot) (st:St) (k:St→Prop),opsP E G nx draw all ps log st k →
    ∃ rs st',Tr P E nx all ps (ms st) rs (ms st')∧k st'∧(draw=true→LogOK log rs)∧st'.ps=st.ps
  | [],log,st,k,h=>⟨[],st,.nil _,h,fun _=>trivial,rfl⟩
  | p :: ps,log,st,k,h=>by
    have run:GuardOK all p.o (getT st.tm) true→runP E G nx draw p log st (fun log st=>opsP E G nx draw all ps log st k) →
        ∃ rs st',Tr P E nx all (p :: ps) (ms st) rs (ms st')∧k st'∧(draw=true→LogOK log rs)∧st'.ps=st.ps:=by
      intro hg h
      obtain ⟨D,v,u,log',h1,h2,h3⟩:=runP_eq hG h
      obtain ⟨rs,st',t,hk,hl,hps⟩:=opsP_tr hG ps log' _ k h2
      have e:ms ⟨putT st.tm p.o.dst v,updO st.ob u,st.nx,st.ps⟩=eff ⟨p,D,some (v,u)⟩ (ms st):=by
        simp [ms,eff,Rec.v,Rec.u,lookN_updO]
      rw [e] at t
      refine ⟨⟨p,D,some (v,u)⟩ :: rs,st',.cons _ ⟨p,D,some (v,u)⟩ ps rs _ ⟨hg,fun x hx => ?_⟩ t,hk,fun hd => ?_,hps⟩
      · obtain rfl:=Option.some.inj hx
        exact h1
      · obtain ⟨g1,rfl⟩:=h3 hd
        exact ⟨g1,hl hd⟩
    have skip:GuardOK all p.o (getT st.tm) false→skipP p log st (fun log st=>opsP E G nx draw all ps log st k) →
        ∃ rs st',Tr P E nx all (p :: ps) (ms st) rs (ms st')∧k st'∧(draw=true→LogOK log rs)∧st'.ps=st.ps:=by
      intro hg h
      unfold skipP at h
      obtain ⟨rs,st',t,hk,hl,hps⟩:=opsP_tr hG ps log _ k h
      have e:ms ⟨putT st.tm p.o.dst (.val undef),st.ob,st.nx,st.ps⟩=eff ⟨p,[],none⟩ (ms st):=by
        simp [ms,eff,Rec.v,Rec.u,updF]
      rw [e] at t
      exact ⟨⟨p,[],none⟩ :: rs,st',.cons _ ⟨p,[],none⟩ ps rs _ ⟨hg,fun x hx=>by cases hx⟩ t,hk,hl,hps⟩
    simp only [opsP] at h
    split at h
    · rename_i hg
      exact run (by simp [GuardOK,hg]) h
    · rename_i g want hg
      split at h
      · rename_i s hs
        split at h
        · rename_i b hb
          have hset : ∀ b',b=b'→setT st.tm s (.val (.bool b'))=st.tm:=by
            intro b' e; subst e; rw [← hb,setT_getT]
          have good : ∀ r,r=(b==want)→GuardOK all p.o (getT st.tm) r:=by
            intro r hr
            simp only [GuardOK,hg]
            exact ⟨s,hs,.inl ⟨b,hb,hr⟩⟩
          unfold br at h
          split at h
          · split at h
            · rw [hset true rfl] at h
              exact run (good _ rfl) h
            · rw [hset true rfl] at h
              exact skip (good _ rfl) h
          · split at h
            · rw [hset false rfl] at h
              exact skip (good _ rfl) h
            · rw [hset false rfl] at h
              exact run (good _ rfl) h
        · rename_i c hc
          refine skip ?_ h
          simp only [GuardOK,hg]
          exact ⟨s,hs,.inr ⟨c,hc,by first | rfl | trivial⟩⟩
        · exact h.elim
      · exact h.elim
structure RI (S:Sb) (σ0:Sg) (nx:Nat) (w0:World) (X:Nat→Prop) (s:Ms) (σ:Sg) (a:Act) (w:World):Prop where
  sl:Slots S σ s.1 a
  oi:OI S σ s.2 w
  df:a.defers = []
  tl:Tail w0 w
  ext : ∀ o k,σ0 o=some k→σ o=some k
  fr : ∀ o,σ o≠none→o < nx ∨ ∃ i,X i∧nx+i * 1000≤o∧o < nx+i * 1000+1000
theorem getT_putT(l:List AV)(d:Option Tmp)(x:AV)(s:Nat):getT (putT l d x) s=if d=some s∧s < l.length then x else getT l s:=by
  cases d with
  | none=>simp [putT]
  | some t =>
    simp only [putT,getT_setT]
    by_cases e:s=t
    · subst e; simp
    · have : ¬ t=s:=fun h=>e h.symm
      simp [e,this]
theorem putT_len(l:List AV)(d:Option Tmp)(x:AV):(putT l d x).length=l.length:=by
  cases d with
  | none=>rfl
  | some t=>exact setT_len l t x
theorem Slots.put{l:List AV}(h:Slots S σ l a){d:Option Tmp}{v:AV}{v':Value}(hv:R S σ v v'):Slots S σ (putT l d v) (a.put d v'):=by
  cases d with
  | none=>exact h
  | some t =>
    refine ⟨by simp [Act.put,putT,setT_len,h.len],fun s u hu => ?_⟩
    rw [getT_putT]
    simp only [Act.put,Array.getElem?_setIfInBounds] at hu
    by_cases e:t=s
    · subst e
      rw [if_pos rfl] at hu
      split at hu
      · rename_i hlt
        obtain rfl:=Option.some.inj hu
        rw [if_pos ⟨rfl,by rw [← h.len]; exact hlt⟩]
        exact hv
      · cases hu
    · rw [if_neg e] at hu
      rw [if_neg (fun h=>e (Option.some.inj h.1))]
      exact h.tm s u hu
theorem Slots.mono{l:List AV}{σ':Sg}(h:Slots S σ l a)(hσ : ∀ o k,σ o=some k→σ' o=some k):Slots S σ' l a:=⟨h.len,fun s v hv=>(h.tm s v hv).mono hσ fun _ _ h=>h⟩
theorem guard_wanted{ops:Array Oper}{o:Oper}{s:Ms}{run:Bool}(hs:Slots S σ s.1 a)(h:GuardOK ops.toList o (getT s.1) run):Region.wanted o (yielded ops a.tmps)=run:=by
  unfold GuardOK at h
  unfold Region.wanted
  split at h
  · rename_i hg; simp [hg,h]
  · rename_i g want hg
    obtain ⟨t,ht,h⟩:=h
    have hd:(ops[g]?).bind (·.dst)=some t:=by
      unfold dstOf at ht
      split at ht
      · rename_i o' ho'
        have:ops[g]? = some o':=by simpa using ho'
        simp [this,ht]
      · cases ht
    simp only [hg,yielded,hd,Option.bind_some]
    have hsz : ∀ x,getT s.1 t = .val x→a.tmps[t]? = some x:=by
      intro x hx
      cases hv:a.tmps[t]? with
      | none =>
        have:s.1.length≤t:=by rw [← hs.len]; simpa using hv
        rw [getT_none _ _ this] at hx
        cases hx
      | some y =>
        have:=hs.tm t y hv
        rw [hx] at this
        cases this
        rfl
    rcases h with ⟨b,hb,rfl⟩ | ⟨c,hc,rfl⟩
    · simp only [hsz _ hb]
      cases b<;>cases want<;>rfl
    · simp only [hsz _ hc]
      cases want<;>rfl
theorem op_ok(tt:TTOK P E.tt)(he:EqsOK P E){σ0:Sg}{nx:Nat}{w0:World}{X:Nat→Prop}{s:Ms}{ops:Array Oper}{r:Rec}(hi:RI S σ0 nx w0 X s σ a w)(hop:ops[r.p.i]? = some r.p.o)(hX : ¬ X r.p.i)
    (h:StepR P E nx ops.toList s r) {K:Act→World→Prop} {Q:Exit→Act→World→Prop} (hk : ∀ σ' a' w',RI S σ0 nx w0 (fun j=>j=r.p.i∨X j) (eff r s) σ' a' w'→K a' w'):wpOp P ops Q r.p.i K a w:=by
  unfold wpOp
  simp only [hop]
  have hw:=guard_wanted hi.sl h.1
  rw [hw]
  have hput : ∀ (v:Value),(a.put r.p.o.dst v).defers = []:=by
    intro v
    cases r.p.o.dst<;>simp [Act.put,hi.df]
  cases ho:r.out with
  | none =>
    simp only [Option.isSome_none,Bool.false_eq_true,if_false]
    refine hk σ _ _ ⟨?_,?_,hput _,hi.tl,hi.ext,fun o h=>(hi.fr o h).imp id fun ⟨i,h1,h2⟩=>⟨i,.inr h1,h2⟩⟩
    · have:=hi.sl.put (d:=r.p.o.dst) (v := .val undef) (v':=undef) (.val _)
      simpa [eff,Rec.v,ho] using this
    · simpa [eff,Rec.u,ho,updF] using hi.oi
  | some x =>
    simp only [Option.isSome_some,if_true]
    refine .inl (step1_ok tt he hi.sl hi.oi (fun o h1 h2 => ?_) (h.2 x ho) fun v' w' σ' hd => ?_)
    · cases hσ:σ o with
      | none=>rfl
      | some k =>
        rcases hi.fr o (by simp [hσ]) with h | ⟨i,g1,g2,g3⟩
        · omega
        · have:i=r.p.i:=by omega
          subst this
          exact absurd g1 hX
    · refine hk σ' _ _ ⟨?_,?_,hput _,hi.tl.trans hd.tl,fun o k h=>hd.ext o k (hi.ext o k h),fun o h => ?_⟩
      · have:=(hi.sl.mono hd.ext).put (d:=r.p.o.dst) hd.r
        simpa [eff,Rec.v,ho] using this
      · simpa [eff,Rec.u,ho] using hd.oi
      · rcases hd.new o h with h | ⟨h1,h2⟩
        · exact (hi.fr o h).imp id fun ⟨i,h1,h2⟩=>⟨i,.inr h1,h2⟩
        · exact .inr ⟨r.p.i,.inl rfl,h1,h2⟩
end Go.Proofs.YtkjnijddbiconaaGreatDoor.Ev

namespace Go.Proofs.YtkjnijddbiconaaGreatDoor.Ev
open Go
set_option linter.unusedVariables false
set_option linter.unusedSimpArgs false
variable {P:Program} {E:Env} {S:Sb} {σ:Sg} {a:Act} {w:World}
theorem RI.weaken{σ0:Sg}{nx:Nat}{w0:World}{X Y:Nat→Prop}{s:Ms}(h:RI S σ0 nx w0 X s σ a w)(hXY : ∀ i,X i→Y i):RI S σ0 nx w0 Y s σ a w :=
  ⟨h.sl,h.oi,h.df,h.tl,h.ext,fun o ho=>(h.fr o ho).imp id fun ⟨i,h1,h2⟩=>⟨i,hXY i h1,h2⟩⟩
theorem text_ok(tt:TTOK P E.tt)(he:EqsOK P E){σ0:Sg}{nx:Nat}{w0:World}{ops:Array Oper}{Q:Exit→Act→World→Prop}{s1:Ms}
    (hq : ∀ (X:Nat→Prop) σ' a' w',(∀ i,X i→i < ops.size)→RI S σ0 nx w0 X s1 σ' a' w'→Q .normal a' w') : ∀ (os:List Oper) (i:Nat) (ms:List Nat) (s:Ms) (rs:List Rec) (σ:Sg) (a:Act) (w:World),i≤ops.size→ops.toList.drop i=os→Tr P E nx ops.toList (prepFrom i ms os) s rs s1 →
      RI S σ0 nx w0 (fun j=>j < i) s σ a w→wpOps P ops Q (List.range' i os.length) a w
  | [],i,ms,s,rs,σ,a,w,hle,_,t,hi=>by
    cases t with
    | nil=>exact hq _ _ _ _ (fun j hj=>Nat.lt_of_lt_of_le hj hle) hi
  | o :: os,i,ms,s,rs,σ,a,w,hle,hd,t,hi=>by
    simp only [prepFrom] at t
    generalize hp:(⟨i,o,ancOf ms o.after.toList⟩:POp)=p at t
    cases t with
    | cons _ r _ rs _ h t =>
      have hpi:r.p.i=i:=by rw [← hp]
      have hpo:r.p.o=o:=by rw [← hp]
      have hop:ops[i]? = some o:=by
        have:=congrArg (fun l=>l[0]?) hd
        simpa using this
      rw [List.length_cons,List.range'_succ,wpOps_cons,← hpi]
      refine op_ok tt he hi (by rw [hpi,hpo]; exact hop) (by rw [hpi]; omega) h fun σ' a' w' hi' => ?_
      rw [hpi]
      refine text_ok tt he hq os (i+1) _ _ rs σ' a' w' (Array.getElem?_eq_some_iff.1 hop).1 ?_ t (hi'.weaken fun j hj => ?_)
      · rw [← List.drop_drop,hd]; rfl
      · rw [hpi] at hj; omega
def apt(u v:List Nat):Prop := ∀ o,o∈u→o ∉ v
theorem apartL_ok : ∀ (u v:List Nat),apartL u v=true→apt u v
  | [],v,_,o,h=>by simp at h
  | x :: u,v,h,o,ho=>by
    simp [apartL] at h
    rcases List.mem_cons.1 ho with rfl | ho
    · simpa using h.1
    · exact apartL_ok u v h.2 o ho
def Free(all:List Oper)(q r:Rec):Prop :=
  (r.p.anc.testBit q.p.i=true∨((∀ d,q.p.o.dst=some d→d ∉ slotsOf all r.p.o∧r.p.o.dst≠some d)∧(∀ d,r.p.o.dst=some d→d ∉ slotsOf all q.p.o))) ∧
  (r.p.anc.testBit q.p.i=true∨(apt (q.u.map (·.1)) r.D∧apt (q.u.map (·.1)) (r.u.map (·.1))∧apt (r.u.map (·.1)) q.D)∨r.out=none∨q.out=none)
theorem pairOk_ok{all:List Oper}{q r:Rec}(h:pairOk all q.p r.p=true) :
    r.p.anc.testBit q.p.i=true∨((∀ d,q.p.o.dst=some d→d ∉ slotsOf all r.p.o∧r.p.o.dst≠some d)∧(∀ d,r.p.o.dst=some d→d ∉ slotsOf all q.p.o)):=by
  simp only [pairOk,Bool.or_eq_true,Bool.and_eq_true] at h
  rcases h with h | ⟨h1,h2⟩
  · exact .inl h
  · refine .inr ⟨fun d hd => ?_,fun d hd => ?_⟩
    · rw [hd] at h1
      simp at h1
      exact h1
    · rw [hd] at h2
      simpa using h2
theorem log_free : ∀ (rs:List Rec) (log:List Foot),LogOK log rs → ∀ f∈log,∀ r∈rs,r.p.anc.testBit f.i=true∨(apt f.w r.D∧apt f.w (r.u.map (·.1))∧apt (r.u.map (·.1)) f.d)∨r.out=none
  | [],log,_,f,_,r,hr=>by simp at hr
  | r0 :: rs,log,h,f,hf,r,hr=>by
    simp only [LogOK] at h
    have okL : ∀ (anc:Nat) (d u:List Nat) (log:List Foot),okLog anc d u log=true→f∈log→anc.testBit f.i=true∨(apt f.w d∧apt f.w u∧apt u f.d):=by
      intro anc d u log
      induction log with
      | nil=>intro _ h; simp at h
      | cons g log ih =>
        intro h hm
        simp only [okLog,Bool.and_eq_true,Bool.or_eq_true] at h
        rcases List.mem_cons.1 hm with rfl | hm
        · rcases h.1 with h | ⟨⟨h1,h2⟩,h3⟩
          · exact .inl h
          · exact .inr ⟨apartL_ok _ _ h1,apartL_ok _ _ h2,apartL_ok _ _ h3⟩
        · exact ih h.2 hm
    cases ho:r0.out with
    | none =>
      rw [ho] at h
      rcases List.mem_cons.1 hr with rfl | hr
      · exact .inr (.inr ho)
      · exact log_free rs log h f hf r hr
    | some x =>
      rw [ho] at h
      rcases List.mem_cons.1 hr with rfl | hr
      · have:=okL _ _ _ _ h.1 hf
        rcases this with h | h
        · exact .inl h
        · exact .inr (.inl (by simpa [Rec.u,ho] using h))
      · exact log_free rs _ h.2 f (List.mem_cons_of_mem _ hf) r hr
theorem log_pairs : ∀ (rs:List Rec) (log:List Foot),LogOK log rs→rs.Pairwise fun q r=>r.p.anc.testBit q.p.i=true∨(apt (q.u.map (·.1)) r.D∧apt (q.u.map (·.1)) (r.u.map (·.1))∧apt (r.u.map (·.1)) q.D)∨r.out=none∨q.out=none
  | [],log,_ => .nil
  | r0 :: rs,log,h=>by
    simp only [LogOK] at h
    cases ho:r0.out with
    | none =>
      rw [ho] at h
      exact .cons (fun r _ => .inr (.inr (.inr ho))) (log_pairs rs log h)
    | some x =>
      rw [ho] at h
      refine .cons (fun r hr => ?_) (log_pairs rs _ h.2)
      rcases log_free rs _ h.2 _ (List.mem_cons_self) r hr with h | h | h
      · exact .inl h
      · exact .inr (.inl (by simpa [Rec.u,ho] using h))
      · exact .inr (.inr (.inl h))
theorem Tr.pops{nx:Nat}{all:List Oper}{ps:List POp}{s:Ms}{rs:List Rec}{s':Ms}(t:Tr P E nx all ps s rs s'):rs.map (·.p)=ps:=by
  induction t with
  | nil s=>rfl
  | cons s r ps rs s' h t ih=>simp [ih]
theorem pairs_free{all:List Oper} : ∀ (rs:List Rec),pairsOk all (rs.map (·.p))=true→rs.Pairwise fun q r=>r.p.anc.testBit q.p.i=true∨((∀ d,q.p.o.dst=some d→d ∉ slotsOf all r.p.o∧r.p.o.dst≠some d)∧(∀ d,r.p.o.dst=some d→d ∉ slotsOf all q.p.o))
  | [],_ => .nil
  | r :: rs,h=>by
    simp only [List.map_cons,pairsOk,Bool.and_eq_true,List.all_eq_true] at h
    exact .cons (fun q hq=>pairOk_ok (h.1 q.p (List.mem_map.2 ⟨q,hq,rfl⟩))) (pairs_free rs h.2)
def mrg(X:Nat→Bool):List Rec→Ms→Ms
  | [],s=>s
  | r :: rs,s=>mrg X rs (if X r.p.i then eff r s else s)
theorem mrg_append(X:Nat→Bool) : ∀ (rs qs:List Rec) (s:Ms),mrg X (rs++qs) s=mrg X qs (mrg X rs s)
  | [],qs,s=>rfl
  | r :: rs,qs,s=>by simp [mrg,mrg_append X rs qs]
theorem mrg_none : ∀ (rs:List Rec) (s:Ms),mrg (fun _=>false) rs s=s
  | [],s=>rfl
  | r :: rs,s=>by simp [mrg,mrg_none rs]
theorem mrg_congr(X Y:Nat→Bool) : ∀ (rs:List Rec) (s:Ms),(∀ q∈rs,X q.p.i=Y q.p.i)→mrg X rs s=mrg Y rs s
  | [],s,_=>rfl
  | r :: rs,s,h=>by simp only [mrg,h r (by simp)]; exact mrg_congr X Y rs _ fun q hq=>h q (by simp [hq])
theorem eff_len(r:Rec)(s:Ms):(eff r s).1.length=s.1.length:=putT_len _ _ _
theorem mrg_len(X:Nat→Bool) : ∀ (rs:List Rec) (s:Ms),(mrg X rs s).1.length=s.1.length
  | [],s=>rfl
  | r :: rs,s=>by
    simp only [mrg]
    rw [mrg_len X rs]
    split
    · exact eff_len r s
    · rfl
theorem slot_mrg(X Y:Nat→Bool)(t:Tmp) : ∀ (rs:List Rec) (s s':Ms),(∀ q∈rs,q.p.o.dst=some t→X q.p.i=Y q.p.i)→s.1.length=s'.1.length→getT s.1 t=getT s'.1 t→getT (mrg X rs s).1 t=getT (mrg Y rs s').1 t
  | [],s,s',_,_,h=>h
  | r :: rs,s,s',hq,hl,h=>by
    simp only [mrg]
    have one : ∀ (b:Bool) (s:Ms),getT (if b then eff r s else s).1 t=if b=true∧r.p.o.dst=some t∧t < s.1.length then r.v else getT s.1 t:=by
      intro b s
      cases b
      · simp
      · simp [eff,getT_putT]
    have len : ∀ (b:Bool) (s:Ms),(if b then eff r s else s).1.length=s.1.length:=by
      intro b s
      cases b
      · rfl
      · exact eff_len r s
    refine slot_mrg X Y t rs _ _ (fun q h=>hq q (by simp [h])) (by rw [len,len]; exact hl) ?_
    rw [one,one,hl,h]
    by_cases e:r.p.o.dst=some t
    · rw [hq r (by simp) e]
    · simp [e]
theorem ob_mrg(X Y:Nat→Bool)(o:Nat) : ∀ (rs:List Rec) (s s':Ms),(∀ q∈rs,o∈q.u.map (·.1)→X q.p.i=Y q.p.i)→s.2 o=s'.2 o→(mrg X rs s).2 o=(mrg Y rs s').2 o
  | [],s,s',_,h=>h
  | r :: rs,s,s',hq,h=>by
    simp only [mrg]
    refine ob_mrg X Y o rs _ _ (fun q h=>hq q (by simp [h])) ?_
    by_cases e:o∈r.u.map (·.1)
    · rw [hq r (by simp) e]
      split
      · exact updF_in r.u _ _ o e
      · exact h
    · have one : ∀ (b:Bool) (s:Ms),(if b then eff r s else s).2 o=s.2 o:=by
        intro b s
        cases b
        · rfl
        · exact updF_not r.u _ o e
      rw [one,one,h]
theorem setT_comm : ∀ (l:List AV) (s t:Nat) (x y:AV),s≠t→setT (setT l s x) t y=setT (setT l t y) s x
  | [],_,_,_,_,_=>rfl
  | _ :: _,0,0,_,_,h=>absurd rfl h
  | _ :: _,0,_+1,_,_,_=>rfl
  | _ :: _,_+1,0,_,_,_=>rfl
  | a :: l,s+1,t+1,x,y,h=>by simp [setT,setT_comm l s t x y (by omega)]
theorem eff_comm{q r:Rec}(s:Ms)(h1 : ∀ d,q.p.o.dst=some d→r.p.o.dst≠some d)(h2:apt (q.u.map (·.1)) (r.u.map (·.1))):eff q (eff r s)=eff r (eff q s):=by
  unfold eff
  congr 1
  · show putT (putT s.1 _ _) _ _=putT (putT s.1 _ _) _ _
    cases hq:q.p.o.dst with
    | none=>rfl
    | some d =>
      cases hr:r.p.o.dst with
      | none=>rfl
      | some e =>
        have:=h1 d hq
        rw [hr] at this
        exact setT_comm _ _ _ _ _ fun h=>this (by rw [h])
  · funext o
    show updF (updF s.2 r.u) q.u o=updF (updF s.2 q.u) r.u o
    by_cases e:o∈q.u.map (·.1)
    · rw [updF_not r.u _ o (h2 o e)]
      exact updF_in q.u _ _ o e
    · rw [updF_not q.u _ o e]
      by_cases e':o∈r.u.map (·.1)
      · exact updF_in r.u _ _ o e'
      · rw [updF_not r.u _ o e',updF_not r.u _ o e',updF_not q.u _ o e]
theorem mrg_eff(X:Nat→Bool)(r:Rec) : ∀ (rs:List Rec) (s:Ms),(∀ q∈rs,X q.p.i=true→(∀ d,q.p.o.dst=some d→r.p.o.dst≠some d)∧apt (q.u.map (·.1)) (r.u.map (·.1)))→mrg X rs (eff r s)=eff r (mrg X rs s)
  | [],s,_=>rfl
  | q :: rs,s,h=>by
    simp only [mrg]
    have:(if X q.p.i=true then eff q (eff r s) else eff r s)=eff r (if X q.p.i=true then eff q s else s):=by
      split
      · rename_i hx
        obtain ⟨h1,h2⟩:=h q (by simp) hx
        exact eff_comm s h1 h2
      · rfl
    rw [this]
    exact mrg_eff X r rs _ fun q hq=>h q (by simp [hq])
theorem Tr.at{nx:Nat}{all:List Oper}{ps:List POp}{s:Ms}{rs:List Rec}{s':Ms}(t:Tr P E nx all ps s rs s'):s'=mrg (fun _=>true) rs s ∧ ∀ pre r post,rs=pre++r :: post→StepR P E nx all (mrg (fun _=>true) pre s) r:=by
  induction t with
  | nil s=>exact ⟨rfl,fun pre r post h=>by simp at h⟩
  | cons s r ps rs s' h t ih =>
    refine ⟨by simpa [mrg] using ih.1,fun pre r' post he => ?_⟩
    cases pre with
    | nil =>
      simp at he
      obtain ⟨rfl,rfl⟩:=he
      exact h
    | cons x pre =>
      simp at he
      obtain ⟨rfl,he⟩:=he
      simpa [mrg] using ih.2 pre r' post he
theorem GuardOK.congr{all:List Oper}{o:Oper}{tm tm':Tm}{run:Bool}(h : ∀ t∈slotsOf all o,tm t=tm' t)(g:GuardOK all o tm run):GuardOK all o tm' run:=by
  unfold GuardOK at *
  split at g
  · exact g
  · rename_i j want hg
    obtain ⟨t,ht,g⟩:=g
    refine ⟨t,ht,?_⟩
    rw [← h t (by simp [slotsOf,hg,ht])]
    exact g
theorem slots_operand{all:List Oper}{o:Oper}{t:Tmp}(h : .tmp t∈o.op.operands):t∈slotsOf all o:=by
  unfold slotsOf
  exact List.mem_append_left _ (List.mem_filterMap.2 ⟨.tmp t,by simpa using h,rfl⟩)
theorem Rec.none_u{q:Rec}(h:q.out=none):q.u = []:=by simp [Rec.u,h]
theorem order_step{nx:Nat}{all:List Oper}{s0:Ms}{rs pre post:List Rec}{r:Rec}(hrs:rs=pre++r :: post)(hf:rs.Pairwise (Free all))(hix:rs.Pairwise fun q r=>q.p.i < r.p.i){X:Nat→Bool}(hX:X r.p.i=false)
    (hanc : ∀ j,r.p.anc.testBit j=true→X j=true) (hcl : ∀ q∈rs,X q.p.i=true → ∀ j,q.p.anc.testBit j=true→X j=true) (h:StepR P E nx all (mrg (fun _=>true) pre s0) r) :
    StepR P E nx all (mrg X rs s0) r∧eff r (mrg X rs s0)=mrg (fun j=>X j || j==r.p.i) rs s0:=by
  subst hrs
  obtain ⟨_,hf2,hf3⟩:=List.pairwise_append.1 hf
  obtain ⟨hf4,_⟩:=List.pairwise_cons.1 hf2
  obtain ⟨_,hi2,hi3⟩:=List.pairwise_append.1 hix
  obtain ⟨hi4,_⟩:=List.pairwise_cons.1 hi2
  have hpre : ∀ q∈pre,Free all q r:=fun q hq=>hf3 q hq r (by simp)
  have hpost : ∀ q∈post,Free all r q:=hf4
  have ipre : ∀ q∈pre,q.p.i≠r.p.i:=fun q hq=>Nat.ne_of_lt (hi3 q hq r (by simp))
  have ipost : ∀ q∈post,q.p.i≠r.p.i:=fun q hq=>(Nat.ne_of_lt (hi4 q hq)).symm
  have hnot : ∀ q∈post,X q.p.i=true→q.p.anc.testBit r.p.i=true→False:=by
    intro q hq hx ht
    have:=hcl q (by simp [hq]) hx _ ht
    rw [hX] at this; cases this
  have hcur:mrg X (pre++r :: post) s0=mrg X post (mrg X pre s0):=by rw [mrg_append]; simp [mrg,hX]
  have slots : ∀ t∈slotsOf all r.p.o,getT (mrg (fun _=>true) pre s0).1 t=getT (mrg X (pre++r :: post) s0).1 t:=by
    intro t ht
    rw [hcur]
    have e1:=slot_mrg (fun _=>true) X t pre s0 s0 (fun q hq hd=>by
      rcases (hpre q hq).1 with h | ⟨h1,_⟩
      · exact (hanc _ h).symm
      · exact absurd ht (h1 t hd).1) rfl rfl
    have e2:=slot_mrg (fun _=>false) X t post (mrg (fun _=>true) pre s0) (mrg X pre s0) (fun q hq hd=>by
      cases hx:X q.p.i with
      | false=>rfl
      | true =>
        rcases (hpost q hq).1 with h | ⟨_,h2⟩
        · exact (hnot q hq hx h).elim
        · exact absurd ht (h2 t hd)) (by rw [mrg_len,mrg_len]) e1
    rwa [mrg_none] at e2
  refine ⟨⟨h.1.congr slots,fun x hx => ?_⟩,?_⟩
  · have h1:=(h.2 x hx).congr (tm':=getT (mrg X (pre++r :: post) s0).1) fun t ht=>slots t (slots_operand ht)
    have:restr r.D (mrg (fun _=>true) pre s0).2=restr r.D (mrg X (pre++r :: post) s0).2:=by
      funext o
      unfold restr
      split
      · rename_i hD
        have hD':o∈r.D:=by simpa using hD
        rw [hcur]
        have e1:=ob_mrg (fun _=>true) X o pre s0 s0 (fun q hq hu=>by
          rcases (hpre q hq).2 with h | ⟨h1,_⟩ | h | h
          · exact (hanc _ h).symm
          · exact absurd hD' (h1 o hu)
          · rw [hx] at h; cases h
          · rw [Rec.none_u h] at hu; simp at hu) rfl
        have e2:=ob_mrg (fun _=>false) X o post (mrg (fun _=>true) pre s0) (mrg X pre s0) (fun q hq hu=>by
          cases hxx:X q.p.i with
          | false=>rfl
          | true =>
            rcases (hpost q hq).2 with h | ⟨_,_,h3⟩ | h | h
            · exact (hnot q hq hxx h).elim
            · exact absurd hD' (h3 o hu)
            · rw [Rec.none_u h] at hu; simp at hu
            · rw [hx] at h; cases h) e1
        rwa [mrg_none] at e2
      · rfl
    rwa [this] at h1
  · have e1:mrg (fun j=>X j || j==r.p.i) (pre++r :: post) s0=mrg (fun j=>X j || j==r.p.i) post (eff r (mrg (fun j=>X j || j==r.p.i) pre s0)):=by
      rw [mrg_append]; simp [mrg]
    rw [e1,mrg_congr (fun j=>X j || j==r.p.i) X pre s0 (fun q hq=>by simp [ipre q hq]),mrg_congr (fun j=>X j || j==r.p.i) X post _ (fun q hq=>by simp [ipost q hq]),hcur]
    refine (mrg_eff X r post _ fun q hq hx => ?_).symm
    refine ⟨fun d hd hr => ?_,?_⟩
    · rcases (hpost q hq).1 with h | ⟨h1,_⟩
      · exact (hnot q hq hx h).elim
      · exact (h1 d hr).2 hd
    · rcases (hpost q hq).2 with h | ⟨_,h2,_⟩ | h | h
      · exact (hnot q hq hx h).elim
      · intro o h1 h3; exact h2 o h3 h1
      · intro o h1; rw [Rec.none_u h] at h1; simp at h1
      · intro o _ h1; rw [Rec.none_u h] at h1; simp at h1
theorem prep_at : ∀ (os:List Oper) (i:Nat) (ms:List Nat) (t:Nat) (p:POp),(prepFrom i ms os)[t]? = some p→p.i=i+t∧os[t]? = some p.o
  | [],i,ms,t,p,h=>by simp [prepFrom] at h
  | o :: os,i,ms,0,p,h=>by simp [prepFrom] at h; subst h; simp
  | o :: os,i,ms,t+1,p,h=>by
    simp only [prepFrom,List.getElem?_cons_succ] at h
    obtain ⟨h1,h2⟩:=prep_at os (i+1) _ t p h
    exact ⟨by omega,by simpa using h2⟩
theorem prep_length : ∀ (os:List Oper) (i:Nat) (ms:List Nat),(prepFrom i ms os).length=os.length
  | [],i,ms=>rfl
  | o :: os,i,ms=>by simp [prepFrom,prep_length os]
theorem anc_bit : ∀ (ms:List Nat) (es:List Edge) (j:Nat),(ancOf ms es).testBit j=true → ∃ e∈es,bindsAny e=true∧(e.on=j∨(ms.getD e.on 0).testBit j=true)
  | ms,[],j,h=>by simp [ancOf] at h
  | ms,e :: es,j,h=>by
    simp only [ancOf] at h
    split at h
    · rename_i hb
      simp only [Nat.testBit_or,Bool.or_eq_true] at h
      rcases h with (h | h) | h
      · refine ⟨e,by simp,hb,.inl ?_⟩
        simpa [Nat.testBit_two_pow] using h
      · exact ⟨e,by simp,hb,.inr h⟩
      · obtain ⟨e',h1,h2⟩:=anc_bit ms es j h
        exact ⟨e',by simp [h1],h2⟩
    · obtain ⟨e',h1,h2⟩:=anc_bit ms es j h
      exact ⟨e',by simp [h1],h2⟩
theorem prep_anc : ∀ (os:List Oper) (i:Nat) (ms:List Nat) (t:Nat) (p:POp),ms.length=i→(prepFrom i ms os)[t]? = some p →
    ∃ ms',ms'.length=i+t∧p.anc=ancOf ms' p.o.after.toList∧(∀ j,j < i→ms'[j]? = ms[j]?) ∧ ∀ t',t' < t → ∃ p',(prepFrom i ms os)[t']? = some p'∧ms'[i+t']? = some p'.anc
  | [],i,ms,t,p,hl,h=>by simp [prepFrom] at h
  | o :: os,i,ms,0,p,hl,h=>by
    simp [prepFrom] at h
    subst h
    exact ⟨ms,hl,rfl,fun _ _=>rfl,fun t' h=>by omega⟩
  | o :: os,i,ms,t+1,p,hl,h=>by
    simp only [prepFrom,List.getElem?_cons_succ] at h
    obtain ⟨ms',h1,h2,h3,h4⟩:=prep_anc os (i+1) (ms ++ [ancOf ms o.after.toList]) t p (by simp [hl]) h
    refine ⟨ms',by omega,h2,fun j hj => ?_,fun t' ht' => ?_⟩
    · rw [h3 j (by omega),List.getElem?_append_left (by omega)]
    · cases t' with
      | zero =>
        refine ⟨⟨i,o,ancOf ms o.after.toList⟩,by simp [prepFrom],?_⟩
        rw [Nat.add_zero,h3 i (by omega),List.getElem?_append_right (by omega)]
        simp [hl]
      | succ t' =>
        obtain ⟨p',g1,g2⟩:=h4 t' (by omega)
        refine ⟨p',by simpa [prepFrom] using g1,?_⟩
        have:i+(t'+1)=i+1+t':=by omega
        rw [this]; exact g2
theorem back_at : ∀ (os:List Oper) (i:Nat),backOk i os=true → ∀ (t:Nat) (o:Oper),os[t]? = some o → ∀ e∈o.after.toList,bindsAny e=true→e.on < i+t
  | [],i,_,t,o,h=>by simp at h
  | o0 :: os,i,h,t,o,ht=>by
    simp only [backOk,Bool.and_eq_true,List.all_eq_true] at h
    intro e he hb
    cases t with
    | zero =>
      simp at ht; subst ht
      have:=h.1 e he
      simp [hb] at this
      omega
    | succ t =>
      have:=back_at os (i+1) h.2 t o (by simpa using ht) e he hb
      omega
end Go.Proofs.YtkjnijddbiconaaGreatDoor.Ev

namespace Go.Proofs.YtkjnijddbiconaaGreatDoor.Ev
open Go
set_option linter.unusedVariables false
set_option linter.unusedSimpArgs false
variable {P:Program} {E:Env} {S:Sb} {σ:Sg} {a:Act} {w:World}
theorem ready_mem{ops:Array Oper}{listed:Array Bool}{i:Nat}:i∈Region.ready .any ops listed↔i < ops.size∧listed.getD i true=false ∧ ∃ o,ops[i]? = some o ∧ ∀ e∈o.after.toList,bindsAny e=true→listed.getD e.on false=true:=by
  unfold Region.ready bindsAny
  simp only [List.mem_filter,List.mem_range,Bool.and_eq_true,Bool.not_eq_true',Array.all_eq_true]
  constructor
  · rintro ⟨h1,h2,h3⟩
    refine ⟨h1,h2,?_⟩
    cases ho:ops[i]? with
    | none=>simp [ho] at h3
    | some o =>
      refine ⟨o,rfl,fun e he hb => ?_⟩
      simp only [ho,Option.map_some,Option.getD_some,Array.all_eq_true'] at h3
      have:=h3 e (by simpa using he)
      simpa [hb] using this
  · rintro ⟨h1,h2,o,ho,h3⟩
    refine ⟨h1,h2,?_⟩
    simp only [ho,Option.map_some,Option.getD_some,Array.all_eq_true']
    intro e he
    cases hb:Region.binds .any e with
    | false=>rfl
    | true=>simpa using h3 e (by simpa using he) hb
def left(listed:Array Bool):Nat:=listed.toList.countP (fun b => !b)
theorem left_set{listed:Array Bool}{i:Nat}(hi:i < listed.size)(h:listed.getD i true=false):left (listed.setIfInBounds i true)+1=left listed:=by
  unfold left
  have hl:i < listed.toList.length:=by simpa using hi
  have he:listed.toList[i]=false:=by
    simp [Array.getD,hi] at h
    simpa using h
  simp only [Array.toList_setIfInBounds]
  rw [List.countP_set hl]
  have hpos:0 < listed.toList.countP (fun b => !b):=List.countP_pos_iff.2 ⟨false,by rw [← he]; exact List.getElem_mem hl,rfl⟩
  simp only [he,Bool.not_false,Bool.not_true,if_true,Bool.false_eq_true,if_false,Nat.add_zero]
  omega
theorem left_zero{listed:Array Bool}(h:left listed=0)(i:Nat)(hi:i < listed.size):listed.getD i false=true:=by
  unfold left at h
  rw [List.countP_eq_zero] at h
  have:=h (listed.toList[i]'(by simpa using hi)) (List.getElem_mem _)
  simp [Array.getD,hi]
  simpa using this
theorem first_left{ops:Array Oper}{listed:Array Bool}(hsz:listed.size=ops.size)(hb:backOk 0 ops.toList=true) : ∀ (n i:Nat),i < n→i < ops.size→listed.getD i false=false → ∃ m,m∈Region.ready .any ops listed:=by
  intro n
  induction n with
  | zero=>intro i h; omega
  | succ n ih =>
    intro i hin hi hl
    by_cases hall : ∀ j,j < i→listed.getD j false=true
    · refine ⟨i,ready_mem.2 ⟨hi,?_,ops[i],by simp [hi],fun e he hbe => ?_⟩⟩
      · simp [Array.getD,show i < listed.size by omega] at hl ⊢
        exact hl
      · have:=back_at ops.toList 0 hb i ops[i] (by simp [hi]) e he hbe
        exact hall _ (by omega)
    · have : ∃ j,j < i∧listed.getD j false=false:=by
        refine Classical.byContradiction fun h=>hall fun j hj => ?_
        cases hx:listed.getD j false with
        | true=>rfl
        | false=>exact (h ⟨j,hj,hx⟩).elim
      obtain ⟨j,hj,hjl⟩:=this
      exact ih j (by omega) (by omega) hjl
theorem getD_put{listed:Array Bool}{i:Nat}(hi:i < listed.size)(j:Nat):(listed.setIfInBounds i true).getD j false=(listed.getD j false || j==i):=by
  rw [Array.getD_eq_getD_getElem?,Array.getD_eq_getD_getElem?,Array.getElem?_setIfInBounds]
  by_cases e:i=j
  · subst e; simp [hi]
  · have:(j==i)=false:=by simp; exact fun h=>e h.symm
    simp [e,this]
theorem any_ok(tt:TTOK P E.tt)(he:EqsOK P E){σ0:Sg}{nx:Nat}{w0:World}{ops:Array Oper}{Q:Exit→Act→World→Prop}{s0 s1:Ms}{rs:List Rec}(hpairs:pairsOk ops.toList (prepFrom 0 [] ops.toList)=true)
    (hback:backOk 0 ops.toList=true) (t:Tr P E nx ops.toList (prepFrom 0 [] ops.toList) s0 rs s1) (hlog:LogOK [] rs) (hq : ∀ (X:Nat→Prop) σ' a' w',(∀ i,X i→i < ops.size)→RI S σ0 nx w0 X s1 σ' a' w'→Q .normal a' w') :
    ∀ (fuel:Nat) (listed:Array Bool) (σ:Sg) (a:Act) (w:World),listed.size=ops.size→left listed≤fuel→(∀ q∈rs,listed.getD q.p.i false=true → ∀ j,q.p.anc.testBit j=true→listed.getD j false=true) →
      RI S σ0 nx w0 (fun i=>listed.getD i false=true) (mrg (fun i=>listed.getD i false) rs s0) σ a w→wpAny P .any ops Q fuel listed a w:=by
  have hpops:=t.pops
  obtain ⟨hend,hat⟩:=t.at
  have rec_at : ∀ i,i < ops.size → ∃ r pre post,rs=pre++r :: post∧pre.length=i∧r.p.i=i∧ops[i]? = some r.p.o∧(prepFrom 0 [] ops.toList)[i]? = some r.p:=by
    intro i hi
    have hlen:rs.length=ops.size:=by
      have:=congrArg List.length hpops
      simpa [prep_length] using this
    have hir:i < rs.length:=by omega
    refine ⟨rs[i],rs.take i,rs.drop (i+1),?_,by simp; omega,?_⟩
    · rw [← List.drop_eq_getElem_cons hir,List.take_append_drop]
    · have hp:(prepFrom 0 [] ops.toList)[i]? = some rs[i].p:=by rw [← hpops]; simp [hir]
      obtain ⟨h1,h2⟩:=prep_at _ _ _ _ _ hp
      exact ⟨by omega,by simpa using h2,hp⟩
  have hfree:rs.Pairwise (Free ops.toList):=by
    have h1:=pairs_free rs (by rw [hpops]; exact hpairs)
    have h2:=log_pairs rs [] hlog
    exact (h1.and h2).imp fun h=>⟨h.1,h.2⟩
  have hlen:rs.length=ops.size:=by
    have:=congrArg List.length hpops
    simpa [prep_length] using this
  have hidx : ∀ (k:Nat) (q:Rec),rs[k]? = some q→q.p.i=k:=by
    intro k q hk
    have hp:(prepFrom 0 [] ops.toList)[k]? = some q.p:=by rw [← hpops]; simp [hk]
    have:=(prep_at _ _ _ _ _ hp).1
    omega
  have hix:rs.Pairwise fun q r=>q.p.i < r.p.i:=by
    rw [List.pairwise_iff_getElem]
    intro i j hi hj hij
    rw [hidx i rs[i] (by simp [hi]),hidx j rs[j] (by simp [hj])]
    exact hij
  have done : ∀ (listed:Array Bool) (σ:Sg) (a:Act) (w:World),listed.size=ops.size→(∀ i,i < ops.size→listed.getD i false=true)→RI S σ0 nx w0 (fun i=>listed.getD i false=true) (mrg (fun i=>listed.getD i false) rs s0) σ a w→Q .normal a w:=by
    intro listed σ a w hsz hall hi
    have:mrg (fun i=>listed.getD i false) rs s0=s1:=by
      rw [hend]
      refine mrg_congr _ _ rs s0 fun q hqm => ?_
      obtain ⟨k,hk,rfl⟩:=List.getElem_of_mem hqm
      rw [hidx k rs[k] (by simp [hk])]
      exact hall k (by omega)
    rw [this] at hi
    refine hq _ _ _ _ (fun i hx => ?_) hi
    refine Nat.lt_of_not_le fun h => ?_
    simp [Array.getD,show ¬ i < listed.size by omega] at hx
  intro fuel
  induction fuel with
  | zero =>
    intro listed σ a w hsz hl _ hi
    have hall : ∀ i,i < ops.size→listed.getD i false=true:=fun i hio=>left_zero (by omega) i (by omega)
    refine ⟨?_,done listed σ a w hsz hall hi⟩
    apply List.eq_nil_iff_forall_not_mem.2
    intro i hm
    obtain ⟨h1,h2,_⟩:=ready_mem.1 hm
    have:=hall i h1
    simp [Array.getD,show i < listed.size by omega] at this h2
    rw [this] at h2; cases h2
  | succ fuel ih =>
    intro listed σ a w hsz hl hcl hi
    refine ⟨fun hnil => ?_,fun i hm => ?_⟩
    · refine done listed σ a w hsz (fun i hio => ?_) hi
      cases hx:listed.getD i false with
      | true=>rfl
      | false =>
        obtain ⟨m,hm⟩:=first_left hsz hback (i+1) i (by omega) hio hx
        rw [hnil] at hm
        cases hm
    · obtain ⟨h1,h2,o,ho,h3⟩:=ready_mem.1 hm
      obtain ⟨r,pre,post,hrs,hplen,hri,hro,hprep⟩:=rec_at i h1
      have hX:listed.getD i false=false:=by
        simp [Array.getD,show i < listed.size by omega] at h2 ⊢
        exact h2
      have hoo:o=r.p.o:=by rw [ho] at hro; exact Option.some.inj hro
      have hmem : ∀ k,k < ops.size → ∃ q∈rs,q.p.i=k∧(prepFrom 0 [] ops.toList)[k]? = some q.p:=by
        intro k hk
        obtain ⟨q,pre',post',e,_,e2,_,e3⟩:=rec_at k hk
        exact ⟨q,by rw [e]; simp,e2,e3⟩
      have hanc : ∀ j,r.p.anc.testBit j=true→listed.getD j false=true:=by
        intro j hj
        obtain ⟨ms',m1,m2,_,m4⟩:=prep_anc ops.toList 0 [] i r.p rfl hprep
        rw [m2] at hj
        obtain ⟨e,e1,e2,e3⟩:=anc_bit _ _ _ hj
        have hlt:=back_at ops.toList 0 hback i o (by simpa using ho) e (by rw [hoo]; exact e1) e2
        have hon:=h3 e (by rw [hoo]; exact e1) e2
        rcases e3 with rfl | e3
        · exact hon
        · obtain ⟨p',g1,g2⟩:=m4 e.on (by omega)
          obtain ⟨q,q1,q2,q3⟩:=hmem e.on (by omega)
          rw [g1] at q3
          have:p'=q.p:=Option.some.inj q3
          subst this
          have hms:ms'.getD e.on 0=q.p.anc:=by
            rw [List.getD_eq_getElem?_getD]
            have:0+e.on=e.on:=by omega
            rw [this] at g2
            simp [g2]
          rw [hms] at e3
          exact hcl q q1 (by rw [q2]; exact hon) j e3
      obtain ⟨hstep,heff⟩:=order_step (P:=P) (E:=E) (nx:=nx) (s0:=s0) hrs hfree hix (X:=fun i=>listed.getD i false) (by simp only [hri]; exact hX) hanc hcl (hat pre r post hrs)
      have hw:=op_ok (P:=P) (E:=E) tt he (ops:=ops) (r:=r) (X:=fun i=>listed.getD i false=true) hi (by rw [hri]; exact hro) (by rw [hri,hX]; simp) hstep (K:=wpAny P .any ops Q fuel (listed.setIfInBounds i true)) (Q:=Q)
      rw [hri] at hw
      refine hw fun σ' a' w' hi' => ?_
      have hput:=getD_put (listed:=listed) (i:=i) (by omega)
      refine ih (listed.setIfInBounds i true) σ' a' w' (by simp [hsz]) ?_ ?_ ?_
      · have:=left_set (listed:=listed) (i:=i) (by omega) h2
        omega
      · intro q hqm hq1 j hj
        rw [hput] at hq1 ⊢
        simp only [Bool.or_eq_true,beq_iff_eq] at hq1 ⊢
        rcases hq1 with hq1 | hq1
        · exact .inl (hcl q hqm hq1 j hj)
        · obtain ⟨k,hk,rfl⟩:=List.getElem_of_mem hqm
          have hk1:=hidx k rs[k] (by simp [hk])
          have hki:k=i:=by omega
          subst hki
          have:(prepFrom 0 [] ops.toList)[k]? = some rs[k].p:=by rw [← hpops]; simp [hk]
          rw [hprep] at this
          have hpe:r.p=rs[k].p:=Option.some.inj this
          exact .inl (hanc j (by rw [hpe]; exact hj))
      · rw [heff] at hi'
        have e1:(fun j=>listed.getD j false || j==r.p.i)=fun j=>(listed.setIfInBounds i true).getD j false:=by
          funext j; rw [hput,hri]
        rw [e1] at hi'
        refine hi'.weaken fun j hj => ?_
        rw [hput]
        rcases hj with hj | hj
        · simp [hj]
        · simp [hj]
end Go.Proofs.YtkjnijddbiconaaGreatDoor.Ev

namespace Go.Proofs.YtkjnijddbiconaaGreatDoor.Ev
open Go
set_option linter.unusedVariables false
set_option linter.unusedSimpArgs false
variable {P:Program} {E:Env} {C:Cx} {σ:Sg} {a:Act} {w:World}
theorem Inv.sl{st:St}(h:Inv C σ st a w):Slots C.S σ st.tm a:=⟨h.len,h.tm⟩
theorem region_ok(tt:TTOK P E.tt)(he:EqsOK P E)(hm:P.follows .mixedOrders=true){G:Gk}(hG:HG P G){id:Nat}{ops:Array Oper}{draw:Bool}{st:St}{k:St→Prop}(h:regionP E G ops.toList draw st k)
    (hi:Inv C σ st a w) {Q:Exit→Act→World→Prop} (hk : ∀ st' σ' a' w',k st'→Inv C σ' ⟨st'.tm,st'.ob,st.nx+1000000,st.ps⟩ a' w'→Q .normal a' w'):(Code.region id ops draw).wp P Q a w:=by
  unfold regionP at h
  split at h
  · rename_i hn
    have hn':ops.size < 1000:=by
      have:=Nat.blt_eq ▸ hn
      simpa using this
    have fin : ∀ (st':St),k st' → ∀ (X:Nat→Prop) σ' a' w',(∀ i,X i→i < ops.size)→RI C.S σ st.nx C.w0 X (ms st') σ' a' w'→Q .normal a' w':=by
      intro st' hst X σ' a' w' hX hr
      refine hk st' σ' a' w' hst ⟨hr.sl.len,hr.sl.tm,hr.oi,fun o ho => ?_,fun i o hio => ?_,hr.df,hr.tl⟩
      · show o < st.nx+1000000
        rcases hr.fr o ho with h | ⟨i,h1,h2,h3⟩
        · omega
        · have:=hX i h1
          omega
      · obtain ⟨q,h1,h2⟩:=hi.ps i o hio
        exact ⟨q,hr.ext o q h1,h2⟩
    split at h
    · split at h
      · rename_i hpb
        simp only [Bool.and_eq_true] at hpb
        obtain ⟨rs,st',t,hst,hlog,_⟩:=opsP_tr hG _ _ _ _ h
        refine wp_region_any hm (any_ok tt he hpb.1 hpb.2 t (hlog rfl) (fin st' hst) ops.size _ σ a _ (by simp) ?_ (fun q _ hq => ?_) ?_)
        · unfold left
          refine Nat.le_trans (List.countP_le_length) (by simp)
        · simp [Array.getD] at hq
        · have e:(fun i=>(Array.replicate ops.size false).getD i false)=fun _=>false:=by
            funext i
            simp [Array.getD]
          rw [e,mrg_none]
          refine ⟨hi.sl,⟨hi.oi.ok,hi.oi.inj,hi.oi.st,hi.oi.sep,hi.oi.tab⟩,hi.df,⟨hi.tl.os,hi.tl.tape,hi.tl.output,hi.tl.size⟩,fun _ _ h=>h,fun o ho => .inl (hi.nx o ho)⟩
      · exact h.elim
    · obtain ⟨rs,st',t,hst,_,_⟩:=opsP_tr hG _ _ _ _ h
      refine wp_region ?_
      rw [List.range_eq_range']
      have:=text_ok tt he (fin st' hst) ops.toList 0 [] _ rs σ a w (Nat.zero_le _) rfl t ⟨hi.sl,hi.oi,hi.df,hi.tl,fun _ _ h=>h,fun o ho => .inl (hi.nx o ho)⟩
      simpa using this
  · exact h.elim
end Go.Proofs.YtkjnijddbiconaaGreatDoor.Ev

namespace Go.Proofs.YtkjnijddbiconaaGreatDoor.Ev
open Go
set_option linter.unusedVariables false
set_option linter.unusedSimpArgs false
variable {P:Program} {E:Env} {C:Cx} {S:Sb} {σ:Sg} {a:Act} {w:World}
theorem slots_iff{l:List AV}:Slots S σ l a↔RL S σ l a.tmps.toList:=by
  constructor
  · intro h
    refine ⟨by simp [h.len],fun j u v hu hv => ?_⟩
    have:=h.tm j v (by simpa using hv)
    rwa [getT_eq l j u hu] at this
  · intro h
    refine ⟨by simpa using h.1.symm,fun s v hv => ?_⟩
    cases hu:l[s]? with
    | none=>rw [getT_none l s (by simpa using hu)]; exact .junk v
    | some u=>rw [getT_eq l s u hu]; exact h.2 s u v hu (by simpa using hv)
theorem setT_junk : ∀ (l:List AV) (vs:List Value) (s:Nat),RL S σ l vs→RL S σ (setT l s .junk) vs
  | [],vs,s,h=>h
  | x :: l,vs,0,h=>by
    obtain ⟨v,vs',rfl,h1,h2⟩:=h.uncons
    exact .cons (.junk v) h2
  | x :: l,vs,s+1,h=>by
    obtain ⟨v,vs',rfl,h1,h2⟩:=h.uncons
    exact .cons h1 (setT_junk l vs' s h2)
theorem junkT_RL : ∀ (ts:List Tmp) (l:List AV) (vs:List Value),RL S σ l vs→RL S σ (junkT l ts) vs
  | [],l,vs,h=>h
  | t :: ts,l,vs,h=>junkT_RL ts _ vs (setT_junk l vs t h)
def fake:Bk:=⟨0,0,0,0,false⟩
def rows(n n':Nat)(xs:List (Nat × AO)):Prop := ∀ p∈xs,n≤p.1∧p.1 < n' ∧ ∃ cs,p.2 = .row cs []
theorem rows.append{n m k:Nat}{xs ys:List (Nat × AO)}(h:rows n m xs)(h':rows m k ys)(h1:n≤m)(h2:m≤k):rows n k (xs++ys):=by
  intro p hp
  rcases List.mem_append.1 hp with hp | hp
  · obtain ⟨g1,g2,g3⟩:=h p hp; exact ⟨g1,by omega,g3⟩
  · obtain ⟨g1,g2,g3⟩:=h' p hp; exact ⟨by omega,g2,g3⟩
def Faked(σ:Sg)(n n':Nat):Prop := ∀ m,n≤m→m < n'→σ m=some fake
theorem denilL_facts{g:Nat→AV→AV × List (Nat × AO) × Nat}(hg : ∀ n a,n≤(g n a).2.2∧rows n (g n a).2.2 (g n a).2.1) : ∀ (us:List AV) (n:Nat),n≤(denilL g n us).2.2∧rows n (denilL g n us).2.2 (denilL g n us).2.1
  | [],n=>⟨Nat.le_refl n,fun p hp=>by simp [denilL] at hp⟩
  | a :: us,n=>by
    obtain ⟨h1,h2⟩:=hg n a
    obtain ⟨h3,h4⟩:=denilL_facts hg us (g n a).2.2
    exact ⟨Nat.le_trans h1 h3,h2.append h4 h1 h3⟩
theorem denil_facts : ∀ (d n:Nat) (a:AV),n≤(denil d n a).2.2∧rows n (denil d n a).2.2 (denil d n a).2.1
  | 0,n,a=>⟨Nat.le_refl n,fun p hp=>by simp [denil] at hp⟩
  | d+1,n,a=>by
    have keep : ∀ (b:AV),n≤((b,([]:List (Nat × AO)),n):AV × List (Nat × AO) × Nat).2.2∧rows n n []:=fun b=>⟨Nat.le_refl n,fun p hp=>by simp at hp⟩
    cases a with
    | nsl cs =>
      refine ⟨by simp [denil],fun p hp => ?_⟩
      simp [denil] at hp ⊢
      subst hp
      exact ⟨Nat.le_refl n,by simp,cs,rfl⟩
    | agg us=>simp only [denil]; exact denilL_facts (fun n a=>denil_facts d n a) us n
    | tup us=>simp only [denil]; exact denilL_facts (fun n a=>denil_facts d n a) us n
    | _=>exact keep .junk
theorem denilL_RL{g:Nat→AV→AV × List (Nat × AO) × Nat}(hf : ∀ n a,n≤(g n a).2.2∧rows n (g n a).2.2 (g n a).2.1)(hg : ∀ n a v,R S σ a v→Faked σ n (g n a).2.2→R S σ (g n a).1 v) :
    ∀ (us:List AV) (vs:List Value) (n:Nat),RL S σ us vs→Faked σ n (denilL g n us).2.2→RL S σ (denilL g n us).1 vs
  | [],vs,n,h,_=>h
  | a :: us,vs,n,h,hF=>by
    obtain ⟨v,vs',rfl,h1,h2⟩:=h.uncons
    have m1:=(hf n a).1
    have m2:=(denilL_facts hf us (g n a).2.2).1
    simp only [denilL] at hF ⊢
    exact .cons (hg n a v h1 fun m g1 g2=>hF m g1 (by omega)) (denilL_RL hf hg us vs' _ h2 fun m g1 g2=>hF m (by omega) g2)
theorem denil_R : ∀ (d n:Nat) (a:AV) (v:Value),R S σ a v→Faked σ n (denil d n a).2.2→R S σ (denil d n a).1 v
  | 0,n,a,v,h,_=>h
  | d+1,n,a,v,h,hF=>by
    cases h with
    | nsl cs=>exact .ows0 n fake none (hF n (Nat.le_refl n) (by simp [denil])) rfl rfl
    | agg us vs hl hh=>exact (fun h => .agg _ vs h.1 h.2) (denilL_RL (fun n a=>denil_facts d n a) (fun n a v=>denil_R d n a v) us vs n ⟨hl,hh⟩ hF)
    | tup us vs hl hh=>exact (fun h => .tup _ vs h.1 h.2) (denilL_RL (fun n a=>denil_facts d n a) (fun n a v=>denil_R d n a v) us vs n ⟨hl,hh⟩ hF)
    | val v=>exact .val v
    | junk v=>exact .junk v
    | cel v h=>exact .cel v h
    | ifc t v=>exact .ifc t v
    | rsl cs xs A c hc h=>exact .rsl cs xs A c hc h
    | rel us ad h=>exact .rel us ad h
    | rpt us vs ad hl h hv=>exact .rpt us vs ad hl h hv
    | ows o k cap hk hr h1 h2=>exact .ows o k cap hk hr h1 h2
    | ows0 o k x hk hr hn=>exact .ows0 o k x hk hr hn
    | osl o lo n k cap hk hr h0 h1 h2=>exact .osl o lo n k cap hk hr h0 h1 h2
    | osl0 o lo k x hk h0=>exact .osl0 o lo k x hk h0
    | oel o i j k hk hr h=>exact .oel o i j k hk hr h
    | ptr o j k hk hr=>exact .ptr o j k hk hr
    | bsl o j cs n k c hk hr hc=>exact .bsl o j cs n k c hk hr hc
    | fn f us vs hl h=>exact .fn f us vs hl h
theorem denilO_facts : ∀ (xs:List (Nat × AO)) (n:Nat),n≤(denilO n xs).2.2∧rows n (denilO n xs).2.2 (denilO n xs).2.1
  | [],n=>⟨Nat.le_refl n,fun p hp=>by simp [denilO] at hp⟩
  | (o,.box us) :: xs,n=>by
    obtain ⟨h1,h2⟩:=denilL_facts (fun n a=>denil_facts depth n a) us n
    obtain ⟨h3,h4⟩:=denilO_facts xs (denilL (denil depth) n us).2.2
    exact ⟨Nat.le_trans h1 h3,h2.append h4 h1 h3⟩
  | (o,.row cs es) :: xs,n=>denilO_facts xs n
theorem denilO_look : ∀ (xs:List (Nat × AO)) (n o:Nat) (x:AO),lookN (denilO n xs).1 o=some x→Faked σ n (denilO n xs).2.2 → ∃ y,lookN xs o=some y ∧ ∀ k,objOK S σ w k y→objOK S σ w k x
  | [],n,o,x,h,_=>by simp [denilO,lookN] at h
  | (p,.box us) :: xs,n,o,x,h,hF=>by
    have m1:=(denilL_facts (fun n a=>denil_facts depth n a) us n).1
    have m2:=(denilO_facts xs (denilL (denil depth) n us).2.2).1
    simp only [denilO] at h hF
    simp only [lookN] at h ⊢
    split at h
    · rename_i e
      rw [if_pos e]
      obtain rfl:=Option.some.inj h
      refine ⟨_,rfl,fun k ⟨h1,cur,et,h2,h3⟩=>⟨h1,cur,et,h2,?_⟩⟩
      exact denilL_RL (fun n a=>denil_facts depth n a) (fun n a v=>denil_R depth n a v) us _ n h3 fun m g1 g2=>hF m g1 (by omega)
    · rename_i e
      rw [if_neg e]
      exact denilO_look xs _ o x h fun m g1 g2=>hF m (by omega) g2
  | (p,.row cs es) :: xs,n,o,x,h,hF=>by
    simp only [denilO] at h hF
    simp only [lookN] at h ⊢
    split at h
    · rename_i e
      rw [if_pos e]
      obtain rfl:=Option.some.inj h
      exact ⟨_,rfl,fun k h=>h⟩
    · rename_i e
      rw [if_neg e]
      exact denilO_look xs _ o x h hF
theorem lookN_append{α:Type} : ∀ (xs ys:List (Nat × α)) (o:Nat) (x:α),lookN (xs++ys) o=some x→lookN xs o=some x∨lookN ys o=some x
  | [],ys,o,x,h => .inr h
  | (p,y) :: xs,ys,o,x,h=>by
    simp only [List.cons_append,lookN] at h ⊢
    split at h
    · rename_i e; rw [if_pos e]; exact .inl h
    · rename_i e; rw [if_neg e]; exact lookN_append xs ys o x h
def fk(σ:Sg)(n n':Nat):Sg:=fun o=>if n≤o∧o < n' then some fake else σ o
theorem denil_OI{xs new:List (Nat × AO)}{nx n':Nat}(oi:OI S σ (lookN xs) w)(hn : ∀ o,σ o≠none→o < nx)(h1:nx≤n')(h2:rows nx n' new) :
    (∀ o k,σ o=some k→fk σ nx (denilO n' xs).2.2 o=some k)∧Faked (fk σ nx (denilO n' xs).2.2) nx (denilO n' xs).2.2 ∧
    OI S (fk σ nx (denilO n' xs).2.2) (lookN ((denilO n' xs).1++new++(denilO n' xs).2.1)) w:=by
  obtain ⟨m1,m2⟩:=denilO_facts xs n'
  have hext : ∀ o k,σ o=some k→fk σ nx (denilO n' xs).2.2 o=some k:=by
    intro o k h
    have:=hn o (by simp [h])
    simp [fk,h,show ¬ nx≤o by omega]
  have hF:Faked (fk σ nx (denilO n' xs).2.2) nx (denilO n' xs).2.2:=fun m g1 g2=>by simp [fk,g1,g2]
  have oi2 : ∀ o x,lookN xs o=some x → ∃ k,σ o=some k∧objOK S (fk σ nx (denilO n' xs).2.2) w k x:=by
    intro o x h
    obtain ⟨k,hk,ok⟩:=oi.ok o x h
    exact ⟨k,hk,ok.at hext fun _=>rfl⟩
  have cases_ : ∀ o x,lookN ((denilO n' xs).1++new++(denilO n' xs).2.1) o=some x→(∃ y,lookN xs o=some y ∧ ∀ k,objOK S (fk σ nx (denilO n' xs).2.2) w k y→objOK S (fk σ nx (denilO n' xs).2.2) w k x) ∨
      (nx≤o∧o < (denilO n' xs).2.2 ∧ ∃ cs,x = .row cs []):=by
    intro o x h
    rcases lookN_append _ _ o x h with h | h
    · rcases lookN_append _ _ o x h with h | h
      · exact .inl (denilO_look xs n' o x h fun m g1 g2=>hF m (by omega) g2)
      · obtain ⟨g1,g2,cs,g3⟩:=h2 _ (lookN_mem _ _ _ h)
        exact .inr ⟨g1,by simp at g2; omega,cs,g3⟩
    · obtain ⟨g1,g2,cs,g3⟩:=m2 _ (lookN_mem _ _ _ h)
      exact .inr ⟨by simp at g1; omega,g2,cs,g3⟩
  have old : ∀ o y k,lookN xs o=some y→fk σ nx (denilO n' xs).2.2 o=some k→σ o=some k:=by
    intro o y k hy hk
    obtain ⟨k2,hk2,_⟩:=oi.ok o y hy
    rw [hext o k2 hk2] at hk
    rw [hk2]; exact hk
  refine ⟨hext,hF,?_,?_,oi.st,?_,oi.tab⟩
  · intro o x h
    rcases cases_ o x h with ⟨y,g1,g2⟩ | ⟨g1,g2,cs,rfl⟩
    · obtain ⟨k,hk,ok⟩:=oi2 o y g1
      exact ⟨k,hext o k hk,g2 k ok⟩
    · exact ⟨fake,hF o g1 g2,rfl,fun _=>rfl,fun h=>by simp [fake] at h⟩
  · intro o o' x x' k k' h h' hk hk' r1 r2 hb
    rcases cases_ o x h with ⟨y,g1,g2⟩ | ⟨g1,g2,cs,rfl⟩
    · rcases cases_ o' x' h' with ⟨y',g1',g2'⟩ | ⟨g1',g2',cs,rfl⟩
      · exact oi.inj o o' y y' k k' g1 g1' (old o y k g1 hk) (old o' y' k' g1' hk') r1 r2 hb
      · rw [hF o' g1' g2'] at hk'
        obtain rfl:=Option.some.inj hk'
        simp [fake] at r2
    · rw [hF o g1 g2] at hk
      obtain rfl:=Option.some.inj hk
      simp [fake] at r1
  · intro o x k h hk hr
    rcases cases_ o x h with ⟨y,g1,g2⟩ | ⟨g1,g2,cs,rfl⟩
    · exact oi.sep o y k g1 (old o y k g1 hk) hr
    · rw [hF o g1 g2] at hk
      obtain rfl:=Option.some.inj hk
      simp [fake] at hr
theorem number_OI{ob:Ob}(oi:OI S σ ob w){acc:List Nat}(hnd:nodupB acc=true){os:List AO}(hos:getOb ob acc=some os):OI S (names σ acc) (lookN (number 0 (os.map (renO (ixFrom 0 acc))))) w:=by
  obtain ⟨hlen,hget⟩:=getOb_ok acc os hos
  have hρ : ∀ o q,ixFrom 0 acc o=some q→names σ acc q=σ o:=by
    intro o q hq
    obtain ⟨_,h2⟩:=ixFrom_ok acc 0 o q hq
    simp only [Nat.sub_zero] at h2
    simp [names,h2]
  have at_ : ∀ (q:Nat) (x:AO),(os.map (renO (ixFrom 0 acc)))[q]? = some x → ∃ (o:Nat) (y:AO),acc[q]? = some o∧ob o=some y∧x=renO (ixFrom 0 acc) y:=by
    intro q x hx
    rw [List.getElem?_map] at hx
    cases hy:os[q]? with
    | none=>simp [hy] at hx
    | some y =>
      simp [hy] at hx
      have hlt:=(List.getElem?_eq_some_iff.1 hy).1
      obtain ⟨o,ho⟩ : ∃ o,acc[q]? = some o:=⟨acc[q],by simp [show q < acc.length by omega]⟩
      obtain ⟨x',h1,h2⟩:=hget q o ho
      rw [hy] at h1
      obtain rfl:=Option.some.inj h1
      exact ⟨o,y,ho,h2,hx.symm⟩
  refine ⟨?_,?_,oi.st,?_,oi.tab⟩
  · intro q x hx
    rw [lookN_num] at hx
    obtain ⟨o,y,h1,h2,rfl⟩:=at_ q x hx
    obtain ⟨k,hk,ok⟩:=oi.ok o y h2
    exact ⟨k,by simp [names,h1,hk],renO_ok hρ ok⟩
  · intro p p' x x' k k' h1 h2 h3 h4 r1 r2 hb
    rw [lookN_num] at h1 h2
    obtain ⟨o,y,g1,g2,rfl⟩:=at_ p x h1
    obtain ⟨o',y',g1',g2',rfl⟩:=at_ p' x' h2
    simp only [names,g1] at h3
    simp only [names,g1'] at h4
    have:=oi.inj o o' y y' k k' g2 g2' h3 h4 r1 r2 hb
    subst this
    exact nodupB_ok acc hnd p p' o g1 g1'
  · intro p x k hp hk hr
    rw [lookN_num] at hp
    obtain ⟨o,y,g1,g2,rfl⟩:=at_ p x hp
    simp only [names,g1] at hk
    exact oi.sep o y k g2 hk hr
theorem names_ix{acc:List Nat} : ∀ o q,ixFrom 0 acc o=some q→names σ acc q=σ o:=by
  intro o q hq
  obtain ⟨_,h2⟩:=ixFrom_ok acc 0 o q hq
  simp only [Nat.sub_zero] at h2
  simp [names,h2]
theorem renP_at{ρ:Nat→Option Nat} : ∀ (ps:List (Option Nat)) (i q:Nat),(renP ρ ps)[i]? = some (some q) → ∃ o,ps[i]? = some (some o)∧ρ o=some q
  | [],i,q,h=>by simp [renP] at h
  | some o :: ps,i,q,h=>by
    cases i with
    | zero=>simp [renP] at h; exact ⟨o,rfl,h⟩
    | succ i=>simpa using renP_at ps i q (by simpa [renP] using h)
  | none :: ps,i,q,h=>by
    cases i with
    | zero=>simp [renP] at h
    | succ i=>simpa using renP_at ps i q (by simpa [renP] using h)
theorem canon_ok{st st':St}(h:canon st=some st')(hi:Inv C σ st a w) : ∃ σ',Inv C σ' st' a w:=by
  unfold canon at h
  simp only at h
  generalize visitL (visit depth (lookN _)) _ _=acc at h
  obtain ⟨f1,f2⟩:=denilL_facts (fun n a=>denil_facts depth n a) st.tm st.nx
  obtain ⟨hext,hF,oi2⟩:=denil_OI hi.oi hi.nx f1 f2
  have fle:=(denilO_facts st.ob (denilL (denil depth) st.nx st.tm).2.2).1
  split at h
  · rename_i os hb hos
    obtain rfl:=Option.some.inj h
    simp only [Bool.and_eq_true,Nat.blt_eq] at hb
    have oi3:=number_OI oi2 hb.1 hos
    have sl2:=(slots_iff.1 hi.sl).mono hext fun _ _ h=>h
    have sl3:=denilL_RL (fun n a=>denil_facts depth n a) (fun n a v=>denil_R depth n a v) st.tm _ st.nx sl2 fun m g1 g2=>hF m g1 (by omega)
    have sl4:=slots_iff.2 (renL_RL (fun a v=>ren_R (names_ix (acc:=acc)) depth a v) sl3)
    refine ⟨_,sl4.len,sl4.tm,oi3,fun o ho => ?_,fun i q hq => ?_,hi.df,hi.tl⟩
    · show o < start
      refine Nat.lt_trans (Nat.lt_of_not_le fun hle=>ho ?_) hb.2
      simp [names,List.getElem?_eq_none hle]
    · obtain ⟨o,h1,h2⟩:=renP_at _ _ _ hq
      obtain ⟨k,h3,h4⟩:=hi.ps i o h1
      exact ⟨k,by rw [names_ix o q h2]; exact hext o k h3,h4⟩
  · cases h
theorem head_ok{ts:List Tmp}{st st':St}(h:head ts st=some st')(hi:Inv C σ st a w) : ∃ σ',Inv C σ' st' a w:=by
  have sl:=slots_iff.2 (junkT_RL ts _ _ (slots_iff.1 hi.sl))
  exact canon_ok h ⟨sl.len,sl.tm,hi.oi,hi.nx,hi.ps,hi.df,hi.tl⟩
end Go.Proofs.YtkjnijddbiconaaGreatDoor.Ev

namespace Go.Proofs.YtkjnijddbiconaaGreatDoor.Ev
open Go
set_option linter.unusedVariables false
set_option linter.unusedSimpArgs false
variable {P:Program} {E:Env} {C:Cx} {S:Sb} {σ:Sg} {a:Act} {w:World}
def Ex.to:Ex→Exit
  | .normal => .normal
  | .exit n => .exit n
  | .ret => .ret
def LoopOk(P:Program)(C:Cx):Lp:=fun c st k =>
  ∀ (σ:Sg) (a:Act) (w:World) (Q:Exit→Act→World→Prop),Inv C σ st a w→(∀ (e:Ex) st' σ' a' w',k e st'→Inv C σ' st' a' w'→Q e.to a' w')→(Code.loop c).wp P Q a w
theorem evP_sound(tt:TTOK P E.tt)(he:EqsOK P E)(hm:P.follows .mixedOrders=true){G:Gk}(hG:HG P G) : ∀ (c:Code) (st:St) (k:Kt) (σ:Sg) (a:Act) (w:World) (Q:Exit→Act→World→Prop),
    evP E G (LoopOk P C) c st k→Inv C σ st a w→(∀ (e:Ex) st' σ' a' w',k e st'→Inv C σ' st' a' w'→Q e.to a' w')→c.wp P Q a w:=by
  intro c
  induction c with
  | skip=>intro st k σ a w Q h hi hk; exact wp_skip (hk .normal st σ a w h hi)
  | region id ops draw =>
    intro st k σ a w Q h hi hk
    exact region_ok tt he hm hG (E:=E) (k:=fun st'=>k .normal ⟨st'.tm,st'.ob,st.nx+1000000,st.ps⟩) h hi fun st' σ' a' w' hst hi'=>hk .normal _ σ' a' w' hst hi'
  | seq x y ihx ihy =>
    intro st k σ a w Q h hi hk
    refine wp_seq (ihx st (seqK (evP E G (LoopOk P C) y) k) σ a w _ h hi fun e st' σ' a' w' hst hi' => ?_)
    cases e with
    | normal=>exact ihy st' k σ' a' w' Q hst hi' hk
    | exit n=>exact hk (.exit n) st' σ' a' w' hst hi'
    | ret=>exact hk .ret st' σ' a' w' hst hi'
  | cond c x y ihx ihy =>
    intro st k σ a w Q h hi hk
    simp only [evP] at h
    split at h
    · rename_i b hb
      have hc:a.eval c = .bool b:=by
        unfold condOf at hb
        split at hb
        · rename_i b' hb'
          obtain rfl:=Option.some.inj hb
          have:=opd_R hi.sl _ _ _ hb'
          generalize hz:a.eval c=z at this
          cases this
          rfl
        · cases hb
      refine wp_cond hc ?_
      cases b with
      | true=>exact ihx st k σ a w Q h hi hk
      | false=>exact ihy st k σ a w Q h hi hk
    · exact h.elim
  | block id c ih =>
    intro st k σ a w Q h hi hk
    refine wp_block (ih st (blockK id k) σ a w _ h hi fun e st' σ' a' w' hst hi' => ?_)
    cases e with
    | normal=>exact hk .normal st' σ' a' w' hst hi'
    | exit n =>
      simp only [Ex.to,Exit.inBlock]
      simp only [blockK] at hst
      split at hst
      · rename_i hn
        have:n=id:=by simpa using hn
        rw [if_pos this]
        exact hk .normal st' σ' a' w' hst hi'
      · rename_i hn
        have : ¬ n=id:=fun e=>by subst e; simp at hn
        rw [if_neg this]
        exact hk (.exit n) st' σ' a' w' hst hi'
    | ret=>exact hk .ret st' σ' a' w' hst hi'
  | loop c ih =>
    intro st k σ a w Q h hi hk
    simp only [evP,atHead] at h
    split at h
    · rename_i st' hst
      obtain ⟨σ',hi'⟩:=head_ok hst hi
      exact h σ' a w Q hi' hk
    · exact h.elim
  | exit id=>intro st k σ a w Q h hi hk; exact wp_exit (hk (.exit id) st σ a w h hi)
  | ret=>intro st k σ a w Q h hi hk; exact wp_ret (hk .ret st σ a w h hi)
  | _=>intro st k σ a w Q h hi hk; exact h.elim
def roundK{ι:Type}(ts:List Tmp)(ST:ι→St)(μ:ι→Nat)(n:Nat)(k:Kt):Kt:=fun e st =>
  match e with
  | .normal => ∃ i,head ts st=some (ST i)∧μ i < n
  | e=>k e st
open Classical in
theorem wp_loop_of{ι:Type}{c:Code}(I:ι→Act→World→Prop)(μ:ι→Nat){Q:Exit→Act→World→Prop}(round : ∀ i a w,I i a w→c.wp P (Exit.then (fun a' w' => ∃ j,I j a' w'∧μ j < μ i) Q) a w) :
    ∀ i a w,I i a w→(Code.loop c).wp P Q a w:=by
  intro i a w hI
  have pick : ∀ (a:Act) (w:World),(∃ i,I i a w) → ∃ i,I i a w ∧ ∀ j,I j a w→μ i≤μ j:=by
    intro a w ⟨i,hi⟩
    have : ∀ n i,μ i≤n→I i a w → ∃ i,I i a w ∧ ∀ j,I j a w→μ i≤μ j:=by
      intro n
      induction n with
      | zero=>intro i hn hi; exact ⟨i,hi,fun j _=>by omega⟩
      | succ n ih =>
        intro i hn hi
        by_cases hall : ∀ j,I j a w→μ i≤μ j
        · exact ⟨i,hi,hall⟩
        · have : ∃ j,I j a w∧μ j < μ i:=by
            refine Classical.byContradiction fun h=>hall fun j hj => ?_
            exact Nat.le_of_not_lt fun hlt=>h ⟨j,hj,hlt⟩
          obtain ⟨j,hj,hlt⟩:=this
          exact ih j (by omega) hj
    exact this (μ i) i (Nat.le_refl _) hi
  let ν:Act→World→Nat:=fun a w=>if h : ∃ i,I i a w then μ (Classical.choose (pick a w h)) else 0
  have hν : ∀ i a w,I i a w→ν a w≤μ i ∧ ∃ j,I j a w∧μ j=ν a w:=by
    intro i a w hi
    have h : ∃ i,I i a w:=⟨i,hi⟩
    have hs:=Classical.choose_spec (pick a w h)
    simp only [ν,dif_pos h]
    exact ⟨hs.2 i hi,_,hs.1,rfl⟩
  refine wp_loop (fun a w => ∃ i,I i a w) ν ⟨i,hI⟩ fun a w ⟨i,hi⟩ => ?_
  obtain ⟨_,j,hj,hjm⟩:=hν i a w hi
  refine wp_mono (round j a w hj) fun e a' w' h => ?_
  cases e with
  | normal =>
    obtain ⟨j',h1,h2⟩:=h
    exact ⟨⟨j',h1⟩,by have:=(hν j' a' w' h1).1; omega⟩
  | _=>exact h
theorem loop_rule(tt:TTOK P E.tt)(he:EqsOK P E)(hm:P.follows .mixedOrders=true){G:Gk}(hG:HG P G){ι:Type}(ST:ι→St)(μ:ι→Nat){c:Code}{k:Kt}
    (body : ∀ i,evP E G (LoopOk P C) c (ST i) (roundK (jof E c) ST μ (μ i) k)) (i:ι):LoopOk P C c (ST i) k:=by
  intro σ a w Q hi hk
  refine wp_loop_of (fun i a w => ∃ σ,Inv C σ (ST i) a w) μ (fun i a w ⟨σ,hi⟩ => ?_) i a w ⟨σ,hi⟩
  refine evP_sound tt he hm hG c (ST i) _ σ a w _ (body i) hi fun e st' σ' a' w' hst hi' => ?_
  cases e with
  | normal =>
    obtain ⟨j,h1,h2⟩:=hst
    obtain ⟨σ2,hi2⟩:=head_ok h1 hi'
    exact ⟨j,⟨σ2,hi2⟩,h2⟩
  | exit n=>exact hk (.exit n) st' σ' a' w' hst hi'
  | ret=>exact hk .ret st' σ' a' w' hst hi'
theorem slot_getD{l:List AV}(h:Slots S σ l a)(s:Nat):R S σ (getT l s) (a.tmps.getD s undef):=by
  rw [Array.getD_eq_getD_getElem?]
  cases hv:a.tmps[s]? with
  | none =>
    have:l.length≤s:=by rw [← h.len]; simpa using hv
    rw [getT_none l s this]
    exact .junk _
  | some v=>exact h.tm s v hv
theorem result_ok(tt:TTOK P E.tt){st:St}(hi:Inv C σ st a w){r:ResultVar}{v:AV}(h:resultAV E st r=some v) :
    ∃ x,(match r with | .tmp t=>pure (a.tmps.getD t undef) | .cell p t=>(do loadVar t (← asAddr (a.tmps.getD p undef))):Sem Value).run P w = .ok x w∧R C.S σ v x:=by
  cases r with
  | tmp t =>
    simp [resultAV] at h
    subst h
    exact ⟨_,rfl,slot_getD hi.sl t⟩
  | cell p t =>
    simp only [resultAV] at h
    split at h
    · rename_i ti hti
      split at h
      · rename_i us hus
        obtain ⟨ad,vs,hv,hl,hR,hc⟩:=readAt_ok hi.oi hus (slot_getD hi.sl p)
        have hrun:=run_loadVar_cells (P:=P) (w:=w) (tt.row hti) ad vs hl hc
        rcases ofCells_R h hR with ⟨ha,hr⟩ | ⟨ha,u,rfl,hr⟩
        · exact ⟨_,by simp [hv,asAddr,hrun.1 ha],hr⟩
        · exact ⟨u,by simp [hv,asAddr,hrun.2 u ha rfl],hr⟩
      · cases h
    · cases h
theorem resultsM_ok(tt:TTOK P E.tt){st:St}(hi:Inv C σ st a w) : ∀ (rs:List ResultVar) (vs:List AV),mapX (resultAV E st) rs=some vs →
    ∃ xs,(rs.mapM (fun r=>(match r with | .tmp t=>pure (a.tmps.getD t undef) | .cell p t=>(do loadVar t (← asAddr (a.tmps.getD p undef))):Sem Value))).run P w = .ok xs w∧RL C.S σ vs xs
  | [],vs,h=>by simp [mapX] at h; subst h; exact ⟨[],rfl,.nil⟩
  | r :: rs,vs,h=>by
    simp only [mapX] at h
    split at h
    · rename_i v hv
      split at h
      · rename_i vs' hvs
        obtain rfl:=Option.some.inj h
        obtain ⟨x,h1,h2⟩:=result_ok (P:=P) tt hi hv
        obtain ⟨xs,h3,h4⟩:=resultsM_ok tt hi rs vs' hvs
        refine ⟨x :: xs,?_,.cons h2 h4⟩
        rw [List.mapM_cons,run_bind_ok h1,run_bind_ok h3]
        rfl
      · cases h
    · cases h
theorem results_ok(tt:TTOK P E.tt){st:St}(hi:Inv C σ st a w){fn:Func}{v:AV}(h:resultsAV E st fn.results.toList=some v) : ∃ x,(results fn a.tmps).run P w = .ok x w∧R C.S σ v x:=by
  unfold resultsAV at h
  have go : ∀ vs,mapX (resultAV E st) fn.results.toList=some vs → ∃ xs:List Value,(results fn a.tmps).run P w = .ok (if h:xs.toArray.size=1 then xs.toArray[0] else .tuple xs.toArray) w∧RL C.S σ vs xs:=by
    intro vs hvs
    obtain ⟨xs,h1,h2⟩:=resultsM_ok (P:=P) tt hi _ _ hvs
    refine ⟨xs,?_,h2⟩
    unfold results
    rw [Array.mapM_eq_mapM_toList]
    have:(List.toArray <$> (fn.results.toList.mapM (fun r=>(match r with | .tmp t=>pure (a.tmps.getD t undef) | .cell p t=>(do loadVar t (← asAddr (a.tmps.getD p undef))):Sem Value)))).run P w = .ok xs.toArray w:=by
      rw [map_eq_pure_bind,run_bind_ok h1]
      rfl
    exact Eq.trans (run_bind_ok this) rfl
  split at h
  · rename_i v' hvs
    obtain rfl:=Option.some.inj h
    obtain ⟨xs,h1,h2⟩:=go _ hvs
    obtain ⟨x,rfl,hx⟩:=h2.one
    exact ⟨x,by simpa using h1,hx⟩
  · rename_i vs hne hvs
    obtain rfl:=Option.some.inj h
    obtain ⟨xs,h1,h2⟩:=go _ hvs
    have hlen : ¬ xs.length=1:=by
      intro hl
      have:=h2.1
      obtain ⟨x,hx⟩:=List.length_eq_one_iff.1 (this.trans hl)
      exact hne x (by rw [← hx])
    refine ⟨.tuple xs.toArray,?_,.tup vs xs h2.1 h2.2⟩
    rw [h1]
    simp [hlen]
  · cases h
theorem okOuts_at{acc:List Nat} : ∀ (outs ps:List (Option Nat)),okOuts acc outs ps=true → ∀ (i q:Nat),outs[i]? = some (some q) → ∃ o,ps[i]? = some (some o)∧ixFrom 0 acc o=some q
  | [],ps,_,i,q,h=>by simp at h
  | none :: outs,[],h,i,q,hq=>by simp [okOuts] at h
  | none :: outs,p :: ps,h,i,q,hq=>by
    cases i with
    | zero=>simp at hq
    | succ i=>simpa using okOuts_at outs ps (by simpa [okOuts] using h) i q (by simpa using hq)
  | some q0 :: outs,[],h,i,q,hq=>by simp [okOuts] at h
  | some q0 :: outs,none :: ps,h,i,q,hq=>by simp [okOuts] at h
  | some q0 :: outs,some o :: ps,h,i,q,hq=>by
    simp only [okOuts,Bool.and_eq_true] at h
    cases i with
    | zero =>
      simp at hq
      subst hq
      refine ⟨o,rfl,?_⟩
      cases hx:ixFrom 0 acc o with
      | none=>rw [hx] at h; simp at h
      | some q'=>rw [hx] at h; simp at h; rw [h.1]
    | succ i=>simpa using okOuts_at outs ps h.2 i q (by simpa using hq)
theorem finish_ok(tt:TTOK P E.tt){st:St}(hi:Inv C σ st a w){fn:Func}{r:Res}(h:finish E fn.results.toList st=some r) :
    ∃ x,(results fn a.tmps).run P w = .ok x w ∧ ∃ σ',R C.S σ' r.av x∧OI C.S σ' (lookN (number 0 r.obs)) w∧(∀ q,σ' q≠none→q < r.obs.length) ∧ ∀ (i q:Nat),r.outs[i]? = some (some q)→σ' q=C.π i:=by
  unfold finish at h
  split at h
  · rename_i v hv
    obtain ⟨x,hx,hR⟩:=results_ok (P:=P) tt hi hv
    refine ⟨x,hx,?_⟩
    simp only at h
    obtain ⟨f1,f2⟩:=denil_facts depth st.nx v
    obtain ⟨hext,hF,oi2⟩:=denil_OI hi.oi hi.nx f1 f2
    have fle:=(denilO_facts st.ob (denil depth st.nx v).2.2).1
    generalize outsOf _ _ _=oo at h
    split at h
    · rename_i os hb hos
      obtain rfl:=Option.some.inj h
      simp only [Bool.and_eq_true] at hb
      have oi3:=number_OI oi2 hb.1 hos
      have hR2:=denil_R depth st.nx v x (hR.mono hext fun _ _ h=>h) fun m g1 g2=>hF m g1 (by omega)
      refine ⟨_,ren_R (names_ix (acc:=oo.2)) depth _ _ hR2,oi3,fun q hq => ?_,fun i q hq => ?_⟩
      · obtain ⟨hlen,_⟩:=getOb_ok _ _ hos
        simp only [List.length_map,hlen]
        refine Nat.lt_of_not_le fun hle=>hq ?_
        simp [names,List.getElem?_eq_none hle]
      · obtain ⟨o,h1,h2⟩:=okOuts_at _ _ hb.2 i q hq
        obtain ⟨k,h3,h4⟩:=hi.ps i o h1
        rw [names_ix o q h2,hext o k h3,h4]
    · cases h
  · cases h
theorem run_callFunc{f : FuncId}{fn : Func}{c : Code}(hf : P.funcs[f]? = some fn)(hb : fn.body = some c)(hn : (fn.name == "runtime.NumGoroutine") = false)(args : Array Value) : (callFunc f args).run P w = .ok (.enter f args) w := by
  have hn' : ¬ fn.name = "runtime.NumGoroutine" := by simpa using hn
  unfold callFunc
  simp [hf,hn',hb]
theorem handed_at : ∀ (obs:List AO) (n i o:Nat),(handed n obs)[i]? = some (some o)→o=n+i∧i < obs.length
  | [],n,i,o,h=>by simp [handed] at h
  | x :: obs,n,0,o,h=>by simp [handed] at h; simp [h]
  | x :: obs,n,i+1,o,h=>by
    have:=handed_at obs (n+1) i o (by simpa [handed] using h)
    exact ⟨by omega,by simp; exact this.2⟩
theorem ctr_of{fn : Func}(tt : TTOK P (E.of fn).tt)(he : EqsOK P (E.of fn))(hm : P.follows .mixedOrders = true){G : Gk}(hG : HG P G){f : FuncId}{c : Code}(hf : P.funcs[f]? = some fn)(hb : fn.body = some c)(hn : (fn.name == "runtime.NumGoroutine") = false)
    {args:List AV} {obs:List AO} {r:Res} (ho:obs.length≤start) (h : ∀ C,bodyP E G (LoopOk P C) fn args obs (fun o=>o=some r)):Ctr P f args obs r:=by
  intro S π w vs hR oi hπ o a K Q hk
  rw [run_callFunc hf hb hn]
  show Calls P f vs.toArray w _
  have hbody:=h ⟨S,π,w⟩
  unfold bodyP at hbody
  have hc:codeOf fn=c:=by simp [codeOf,hb]
  rw [hc] at hbody
  refine calls_of_wp hf hb (evP_sound tt he hm hG c _ _ π _ w _ hbody ?_ fun e st' σ' a' w' hst hi' => ?_)
  · have hlen:=hR.1
    have hRL:RL S π (args++List.replicate (fn.ntmps - args.length) (.val undef)) (vs.toArray++Array.replicate (fn.ntmps - vs.toArray.size) undef).toList:=by
      have hrep : ∀ n,RL S π (List.replicate n (.val undef)) (List.replicate n undef):=by
        intro n
        induction n with
        | zero=>exact .nil
        | succ n ih=>exact .cons (.val _) ih
      have:=hR.append (hrep (fn.ntmps - args.length))
      simpa [hlen] using this
    have sl:=slots_iff (a:=⟨vs.toArray++Array.replicate (fn.ntmps - vs.toArray.size) undef,[]⟩).2 hRL
    refine ⟨sl.len,sl.tm,oi,fun p hp=>Nat.lt_of_lt_of_le (hπ p hp) ho,fun i p hp => ?_,rfl,.refl w⟩
    obtain ⟨h1,h2⟩:=handed_at _ _ _ _ hp
    have:p=i:=by omega
    subst this
    obtain ⟨k,hk,_⟩:=oi.ok p obs[p] (by rw [lookN_num]; simp [h2])
    exact ⟨k,hk,hk⟩
  · have fin : ∀ (hst:finish E fn.results.toList st'=some r),a'.defers = [] ∧ ∃ v,(results fn a'.tmps).run P w' = .ok v w'∧K (a.put o.dst v) w':=by
      intro hst
      obtain ⟨x,h1,σ2,h2,h3,h4,h5⟩:=finish_ok (P:=P) tt hi' hst
      exact ⟨hi'.df,x,h1,hk x w' ⟨σ2,h2,h3,hi'.tl,h4,h5⟩⟩
    cases e with
    | normal=>exact fin hst
    | ret=>exact fin hst
    | exit n=>exact hst.elim
end Go.Proofs.YtkjnijddbiconaaGreatDoor.Ev

namespace Go.Proofs.YtkjnijddbiconaaGreatDoor.Ev
open Go
set_option linter.unusedVariables false
variable {P:Program}
def RowsOK(P:Program):List (Nat × TI)→Prop
  | []=>True
  | (t,ti) :: r=>RowOK P t ti∧RowsOK P r
theorem RowsOK.all : ∀ (tt:List (Nat × TI)),RowsOK P tt→TTOK P tt
  | [],_,t,ti,hm=>by simp at hm
  | (t0,ti0) :: r,h,t,ti,hm=>by
    rcases List.mem_cons.1 hm with e | hm
    · cases e; exact h.1
    · exact RowsOK.all r h.2 t ti hm
theorem br_intro{b:Bool}{t e:Prop}(h1:b=true→t)(h2:b=false→e):br b t e:=by
  cases b
  · exact h2 rfl
  · exact h1 rfl
structure Ok (P:Program) (E:Env):Prop where
  tt:TTOK P E.tt
  eqs:EqsOK P E
  mixed:P.follows .mixedOrders=true
theorem ctr_fn{E : Env}(ok : Ok P E){G : Gk}(hG : HG P G){f : FuncId}{fn : Func}(hf : P.funcs[f]? = some fn)(hb : fn.body.isSome = true)(hn : (fn.name == "runtime.NumGoroutine") = false)
    {args:List AV} {obs:List AO} {r:Res} (ho:Nat.ble obs.length start=true) (h : ∀ C,bodyP E G (LoopOk P C) fn args obs (fun o=>o=some r)):Ctr P f args obs r:=by
  obtain ⟨c,hc⟩:=Option.isSome_iff_exists.1 hb
  exact ctr_of (E:=E) ok.tt ok.eqs ok.mixed hG hf hc hn (by simpa using ho) h
theorem loopOk{E:Env}(ok:Ok P E){G:Gk}(hG:HG P G){C:Cx}{ι:Type}(ST:ι→St)(μ:ι→Nat){c:Code}{k:Kt}
    (body : ∀ i,evP E G (LoopOk P C) c (ST i) (roundK (jof E c) ST μ (μ i) k)) (i:ι):LoopOk P C c (ST i) k :=
  loop_rule ok.tt ok.eqs ok.mixed hG ST μ body i
theorem Ok.of{E:Env}(ok:Ok P E)(fn:Func):Ok P (E.of fn):=⟨ok.tt,ok.eqs,ok.mixed⟩
abbrev G1:=List AV→List AO→(Res→Prop)→Prop
def gk(tbl:List (Nat × G1)):Gk:=fun f args obs k=>match lookN tbl f with
  | some g=>g args obs k
  | none=>False
def G1Ok(P:Program)(f:Nat)(g:G1):Prop := ∀ args obs k,g args obs k → ∃ r,Ctr P f args obs r∧k r
theorem hg_nil:HG P (gk []):=fun _ _ _ _ h=>h.elim
theorem hg_cons{f:Nat}{g:G1}{tbl:List (Nat × G1)}(h:G1Ok P f g)(t:HG P (gk tbl)):HG P (gk ((f,g) :: tbl)):=by
  intro f' args obs k hk
  unfold gk at hk
  simp only [lookN] at hk
  by_cases e:f=f'
  · subst e; simp at hk; exact h args obs k hk
  · simp [e] at hk; exact t f' args obs k (by unfold gk; exact hk)
def rk(ts:List Tmp)(N:St→Prop)(k:Kt):Kt:=fun e st=>match e with
  | .normal=>atHead N (head ts st)
  | e=>k e st
theorem loopR{E:Env}(ok:Ok P E){G:Gk}(hG:HG P G){C:Cx}{ι:Type}(ST:ι→St)(μ:ι→Nat){c:Code}{k:Kt}
    (body : ∀ i,evP E G (LoopOk P C) c (ST i) (rk (jof E c) (fun st => ∃ j,st=ST j∧μ j < μ i) k)) (i:ι):LoopOk P C c (ST i) k:=by
  refine loopOk ok hG ST μ (fun i => ?_) i
  have:rk (jof E c) (fun st => ∃ j,st=ST j∧μ j < μ i) k=roundK (jof E c) ST μ (μ i) k:=by
    funext e st
    cases e with
    | normal =>
      simp only [rk,roundK,atHead]
      cases head (jof E c) st with
      | none=>simp
      | some s=>simp
    | exit n=>rfl
    | ret=>rfl
  rw [← this]
  exact body i
theorem br_and{b:Bool}{t:Prop}(h:br b t False):b=true∧t:=br_true h (fun h=>h)
end Go.Proofs.YtkjnijddbiconaaGreatDoor.Ev

namespace Go.Proofs.YtkjnijddbiconaaGreatDoor.Ev
open Go
set_option linter.unusedVariables false
set_option linter.unusedSimpArgs false
variable {P:Program}
def cellB:Value→Value→Bool
  | .int _ a,.int _ b=>a==b
  | .string a,.string b=>strEq a b
  | .bool a,.bool b=>a==b
  | _,_=>false
def listB:List Value→List Value→Bool
  | u :: us,v :: vs=>cellB u v&&listB us vs
  | _,_=>true
def KV:List CK→List Value→Prop
  | [],[]=>True
  | c :: cs,v :: vs=>(∃ x,v=c.val x)∧KV cs vs
  | _,_=>False
theorem KV.length : ∀ {cs:List CK} {vs:List Value},KV cs vs→vs.length=cs.length
  | [],[],_=>rfl
  | [],_ :: _,h=>h.elim
  | _ :: _,[],h=>h.elim
  | c :: cs,v :: vs,h=>by simp [KV.length h.2]
theorem KV.split : ∀ {ks ks':List CK} {vs:List Value},KV (ks++ks') vs→KV ks (vs.take ks.length)∧KV ks' (vs.drop ks.length)
  | [],ks',vs,h=>by simpa [KV] using h
  | k :: ks,ks',[],h=>h.elim
  | k :: ks,ks',v :: vs,h=>by
    obtain ⟨h1,h2⟩:=KV.split h.2
    exact ⟨⟨h.1,h1⟩,h2⟩
theorem KV_vals : ∀ (cs:List CK) (e:Elem cs),KV cs (vals cs e)
  | [],_=>trivial
  | c :: cs,e=>⟨⟨e.1,rfl⟩,KV_vals cs e.2⟩
theorem cellB_val(c:CK)(a b:c.T):cellB (c.val a) (c.val b)=ckEq c a b:=by cases c<;>rfl
theorem listB_vals : ∀ (cs:List CK) (a b:Elem cs),listB (vals cs a) (vals cs b)=elemEq cs a b
  | [],a,b=>rfl
  | [c],a,b=>by simp [vals,listB,elemEq,cellB_val]
  | c :: c' :: cs,a,b=>by
    have:=listB_vals (c' :: cs) a.2 b.2
    simp only [vals,listB,elemEq,cellB_val] at this ⊢
    rw [this]
theorem listB_split : ∀ (n:Nat) (us vs:List Value),us.length=vs.length→listB us vs=(listB (us.take n) (vs.take n)&&listB (us.drop n) (vs.drop n))
  | 0,us,vs,_=>by simp [listB]
  | n+1,[],[],_=>by simp [listB]
  | n+1,[],_ :: _,h=>by simp at h
  | n+1,_ :: _,[],h=>by simp at h
  | n+1,u :: us,v :: vs,h=>by
    simp only [List.take_succ_cons,List.drop_succ_cons,listB]
    rw [listB_split n us vs (by simpa using h),Bool.and_assoc]
def flatFs(P:Program)(g:TypeId→Option (List CK)):List Field→Nat→Option (List CK)
  | [],_=>some []
  | f :: fs, off => if f.name ≠ "_" ∧ f.offset = off then match g f.type, P.info? f.type with
      | some k,some i=>if i.size=k.length then match flatFs P g fs (off+k.length) with
        | some ks=>some (k++ks)
        | none=>none
        else none
      | _,_=>none
    else none
def flatN(k:List CK):Nat→List CK
  | 0 => []
  | n+1=>k++flatN k n
def flatB(P:Program):Nat→TypeId→Option (List CK)
  | 0,_=>none
  | d+1,t=>match P.underlying t with
    | some (.int k)=>some [.int k]
    | some .bool=>some [.bool]
    | some .string=>some [.str]
    | some (.array n e)=>match flatB P d e,P.info? e with
      | some k,some i=>if i.size=k.length then some (flatN k n) else none
      | _,_=>none
    | some (.struct fs)=>if P.stoodInHeld t then none else flatFs P (flatB P d) fs.toList 0
    | _=>none
def aggT(P:Program)(t:TypeId):Bool:=match P.underlying t with
  | some (.struct _) | some (.array _ _)=>true
  | _=>false
def mkV(P:Program)(t:TypeId)(us:List Value):Value:=if aggT P t then .agg us.toArray else us.headD undef
theorem flat_scalar{d:Nat}{t:TypeId}{ks:List CK}(h:flatB P d t=some ks)(ha:aggT P t=false):ks.length=1:=by
  cases d with
  | zero=>simp [flatB] at h
  | succ d =>
    simp only [flatB] at h
    unfold aggT at ha
    split at h<;>simp_all
    · subst h; rfl
    · subst h; rfl
    · subst h; rfl
theorem flat_und{d:Nat}{t:TypeId}{ks:List CK}(h:flatB P d t=some ks) : ∃ u,P.underlying t=some u:=by
  cases d with
  | zero=>simp [flatB] at h
  | succ d =>
    simp only [flatB] at h
    cases hu:P.underlying t with
    | none=>simp [hu] at h
    | some u=>exact ⟨u,rfl⟩
theorem run_part{d:Nat}{t:TypeId}{ks:List CK}(h:flatB P d t=some ks){i:TypeInfo}(hi:P.info? t=some i)(hs:i.size=ks.length)(xs:Array Value)(off:Nat)(w:World)(hl:off+ks.length≤xs.size) :
    (part t xs off).run P w = .ok (mkV P t ((xs.toList.drop off).take ks.length)) w:=by
  obtain ⟨u,hu⟩:=flat_und h
  have hag:(isAgg t).run P w = .ok (aggT P t) w:=by
    unfold isAgg aggT
    rw [Sem.run_bind,run_underlying hu w,hu]
    cases u<;>rfl
  cases ha:aggT P t with
  | true =>
    have:xs.extract off (off+ks.length)=((xs.toList.drop off).take ks.length).toArray:=by
      apply Array.toList_inj.1
      simp
    simp [part,hag,ha,sizeOf,typeInfo,hi,hs,this,mkV]
  | false =>
    have h1:=flat_scalar h ha
    have hlt:off < xs.size:=by omega
    have:((xs.toList.drop off).take ks.length).headD undef=xs[off]:=by
      rw [h1]
      simp [List.headD_eq_head?_getD,List.head?_take,List.head?_drop,hlt]
    simp only [part,Sem.run_bind,hag,ha,Result.andThen_ok,Bool.false_eq_true,if_false,mkV,this]
    simp [hlt]
theorem eqT : ∀ (d:Nat) (t:TypeId) (ks:List CK),flatB P d t=some ks → ∀ (us vs:List Value),KV ks us→KV ks vs → ∀ (m:Nat) (w:World),(Op.equalIn (d+m) t (mkV P t us) (mkV P t vs)).run P w = .ok (listB us vs) w:=by
  intro d
  induction d with
  | zero=>intro t ks h; simp [flatB] at h
  | succ d ih =>
    intro t ks h us vs hu hv m w
    rw [show d+1+m=(d+m)+1 by omega]
    have h0:=h
    simp only [flatB] at h
    -- one cell
    have single : ∀ c,ks = [c] → ∃ (a b:c.T),us = [c.val a]∧vs = [c.val b]:=by
      intro c hc
      subst hc
      cases us with
      | nil=>exact hu.elim
      | cons u us=>cases us with
        | cons _ _=>exact hu.2.elim
        | nil=>cases vs with
          | nil=>exact hv.elim
          | cons v vs=>cases vs with
            | cons _ _=>exact hv.2.elim
            | nil =>
              obtain ⟨⟨a,rfl⟩,_⟩:=hu
              obtain ⟨⟨b,rfl⟩,_⟩:=hv
              exact ⟨a,b,rfl,rfl⟩
    split at h
    · rename_i k hk
      obtain ⟨a,b,rfl,rfl⟩:=single _ (by simpa using h.symm)
      have:aggT P t=false:=by simp [aggT,hk]
      simp [mkV,this,CK.val,run_equalIn_int w (d+m) t k k _ _ hk,listB,cellB]
    · rename_i hk
      obtain ⟨a,b,rfl,rfl⟩:=single _ (by simpa using h.symm)
      have:aggT P t=false:=by simp [aggT,hk]
      simp [mkV,this,CK.val,run_equalIn_bools (w:=w) hk (d+m),listB,cellB]
    · rename_i hk
      obtain ⟨a,b,rfl,rfl⟩:=single _ (by simpa using h.symm)
      have:aggT P t=false:=by simp [aggT,hk]
      simp [mkV,this,CK.val,run_equalIn_string w (d+m) t _ _ hk,listB,cellB,strEq]
    · rename_i n e hk
      split at h
      · rename_i k i hke hie
        split at h
        · rename_i hsz
          obtain rfl:=Option.some.inj h
          have hag:aggT P t=true:=by simp [aggT,hk]
          simp only [mkV,hag,if_true]
          rw [run_equalIn_array w (d+m) us.toArray vs.toArray hk hie]
          have hce:P.cellsOf e=k.length:=by simp [Program.cellsOf,hie,hsz]
          rw [hce,List.range_eq_range']
          have key : ∀ (q j:Nat) (us' vs':List Value),us.drop (j * k.length)=us'→vs.drop (j * k.length)=vs'→j * k.length+us'.length=us.length→j * k.length+vs'.length=vs.length→KV (flatN k q) us'→KV (flatN k q) vs' →
              (Op.eqItems (d+m) e k.length us.toArray vs.toArray (List.range' j q)).run P w = .ok (listB us' vs') w:=by
            intro q
            induction q with
            | zero =>
              intro j us' vs' _ _ _ _ h1 h2
              have e1:us' = []:=List.eq_nil_of_length_eq_zero h1.length
              subst e1
              simp [Op.eqItems,listB]
            | succ q ihq =>
              intro j us' vs' e1 e2 c1 c2 h1 h2
              have l1:=h1.length
              have l2:=h2.length
              simp only [flatN,List.length_append] at l1 l2
              obtain ⟨p1,p2⟩:=KV.split h1
              obtain ⟨p3,p4⟩:=KV.split h2
              have b1:j * k.length+k.length≤us.toArray.size:=by simp; omega
              have b2:j * k.length+k.length≤vs.toArray.size:=by simp; omega
              have r1:=run_part hke hie hsz us.toArray (j * k.length) w b1
              have r2:=run_part hke hie hsz vs.toArray (j * k.length) w b2
              simp only [List.toList_toArray,e1,e2] at r1 r2
              have r3:=ih e k hke _ _ p1 p3 m w
              have r4:=ihq (j+1) (us'.drop k.length) (vs'.drop k.length) (by rw [← e1,List.drop_drop,Nat.add_mul,Nat.one_mul]) (by rw [← e2,List.drop_drop,Nat.add_mul,Nat.one_mul]) (by simp [Nat.add_mul]; omega) (by simp [Nat.add_mul]; omega) p2 p4
              rw [listB_split k.length us' vs' (by omega)]
              simp only [List.range'_succ,Op.eqItems,Sem.run_bind,r1,r2,r3,Result.andThen_ok]
              cases listB (us'.take k.length) (vs'.take k.length) with
              | false=>rfl
              | true=>simpa using r4
          exact key n 0 us vs (by simp) (by simp) (by simp) (by simp) hu hv
        · cases h
      · cases h
    · rename_i fs hk
      split at h
      · cases h
      · rename_i hst
        have hag:aggT P t=true:=by simp [aggT,hk]
        have hf:P.fieldsOf t=fs:=by simp [Program.fieldsOf,hk]
        simp only [mkV,hag,if_true]
        rw [run_equalIn_struct w (d+m) t us.toArray vs.toArray (by rw [hf]; exact hk) (by simpa using hst),hf]
        have key : ∀ (gs:List Field) (off:Nat) (ks:List CK) (us' vs':List Value),flatFs P (flatB P d) gs off=some ks→us.drop off=us'→vs.drop off=vs'→off+us'.length=us.length→off+vs'.length=vs.length→KV ks us'→KV ks vs' →
            (Op.eqFields (d+m) us.toArray vs.toArray gs).run P w = .ok (listB us' vs') w:=by
          intro gs
          induction gs with
          | nil =>
            intro off ks us' vs' hfs _ _ _ _ h1 h2
            simp [flatFs] at hfs
            subst hfs
            have e1:us' = []:=List.eq_nil_of_length_eq_zero h1.length
            subst e1
            simp [Op.eqFields,listB]
          | cons g gs ihg =>
            intro off ks us' vs' hfs e1 e2 c1 c2 h1 h2
            simp only [flatFs] at hfs
            split at hfs
            · rename_i hname
              obtain ⟨hn1,rfl⟩:=hname
              split at hfs
              · rename_i k i hke hie
                split at hfs
                · rename_i hsz
                  split at hfs
                  · rename_i ks' hks'
                    obtain rfl:=Option.some.inj hfs
                    have l1:=h1.length
                    have l2:=h2.length
                    simp only [List.length_append] at l1 l2
                    obtain ⟨p1,p2⟩:=KV.split h1
                    obtain ⟨p3,p4⟩:=KV.split h2
                    have b1:g.offset+k.length≤us.toArray.size:=by simp; omega
                    have b2:g.offset+k.length≤vs.toArray.size:=by simp; omega
                    have r1:=run_part hke hie hsz us.toArray g.offset w b1
                    have r2:=run_part hke hie hsz vs.toArray g.offset w b2
                    simp only [List.toList_toArray,e1,e2] at r1 r2
                    have r3:=ih g.type k hke _ _ p1 p3 m w
                    have r4:=ihg (g.offset+k.length) ks' (us'.drop k.length) (vs'.drop k.length) hks' (by rw [← e1,List.drop_drop]) (by rw [← e2,List.drop_drop]) (by simp; omega) (by simp; omega) p2 p4
                    rw [listB_split k.length us' vs' (by omega)]
                    simp only [Op.eqFields,hn1,ne_eq,not_false_eq_true,if_true,Sem.run_bind,r1,r2,r3,Result.andThen_ok]
                    cases listB (us'.take k.length) (vs'.take k.length) with
                    | false=>rfl
                    | true=>simpa using r4
                  · cases hfs
                · cases hfs
              · cases hfs
            · cases hfs
        exact key fs.toList 0 ks us vs h (by simp) (by simp) (by simp) (by simp) hu hv
    · cases h
def eqsB(P:Program)(E:Env):List Nat→Prop
  | []=>True
  | t :: ts=>(∀ ti,lookN E.tt t=some ti→flatB P 8 t=some ti.cks∧aggT P t=true∧P.eqGuardType P.depth t=false)∧eqsB P E ts
theorem eqs_ok{E:Env}(h:eqsB P E E.eqs):EqsOK P E:=by
  have all : ∀ ts,eqsB P E ts → ∀ t∈ts,∀ ti,lookN E.tt t=some ti→flatB P 8 t=some ti.cks∧aggT P t=true∧P.eqGuardType P.depth t=false:=by
    intro ts
    induction ts with
    | nil=>intro _ t ht; simp at ht
    | cons s ts ih =>
      intro h t ht
      rcases List.mem_cons.1 ht with rfl | ht
      · exact h.1
      · exact ih h.2 t ht
  intro t ht ti hti a b x y w
  obtain ⟨h1,h2,h3⟩:=all _ h t ht ti hti
  refine ⟨run_eqGuard_agg w .eql t x y _ _ h3,run_eqGuard_agg w .neq t x y _ _ h3,?_⟩
  have:=eqT 8 t ti.cks h1 (vals ti.cks a) (vals ti.cks b) (KV_vals _ _) (KV_vals _ _) 9992 w
  simp only [mkV,h2,if_true,listB_vals] at this
  exact this
theorem eqs_one{E:Env}{t:Nat}{ti:TI}{ts:List Nat}(hl:lookN E.tt t=some ti)(h:flatB P 8 t=some ti.cks∧aggT P t=true∧P.eqGuardType P.depth t=false)(hr:eqsB P E ts):eqsB P E (t :: ts) :=
  ⟨fun ti' h'=>by rw [hl] at h'; cases h'; exact h,hr⟩
end Go.Proofs.YtkjnijddbiconaaGreatDoor.Ev

namespace Go.Proofs.YtkjnijddbiconaaGreatDoor.Ev
open Go
set_option linter.unusedVariables false
variable {P:Program}
abbrev vI(n:Int):AV := .val (.int .i64 n)
abbrev vS(s:ByteArray):AV := .val (.string s)
abbrev vB(b:Bool):AV := .val (.bool b)
abbrev vU:AV := .val (.tuple #[])
abbrev Rp : Type := Option Res → Prop
def jn : Nat → List AV → List AV
  | 0, l => l
  | n + 1, l => .junk :: jn n l
abbrev vJ:AV := .junk
theorem resI{a b:Int}(h:a=b):(some ⟨.val (.int .i64 a),[],[]⟩:Option Res)=some ⟨.val (.int .i64 b),[],[]⟩:=by rw [h]
theorem wrap_id{n:Int}(h1 : -9223372036854775808≤n)(h2:n≤9223372036854775807):IntKind.i64.wrap n=n:=by rw [IntKind.wrap_i64]; omega
theorem br_dec{p:Prop}{d:Decidable p}{t e:Prop}(h1:p→t)(h2 : ¬p→e):br (@decide p d) t e :=
  br_intro (fun h=>h1 (of_decide_eq_true h)) (fun h=>h2 (of_decide_eq_false h))
theorem br_yes{p:Prop}{d:Decidable p}{t e:Prop}(h:p)(h1:t):br (@decide p d) t e:=br_dec (fun _=>h1) (fun n=>absurd h n)
theorem br_no{p:Prop}{d:Decidable p}{t e:Prop}(h : ¬p)(h1:e):br (@decide p d) t e:=br_dec (fun n=>absurd n h) (fun _=>h1)
theorem br_not{b:Bool}{t e:Prop}(h1:b=false→t)(h2:b=true→e):br (!b) t e:=by
  cases b
  · exact h1 rfl
  · exact h2 rfl
theorem br_t{b:Bool}{t e:Prop}(h:b=true)(h1:t):br b t e:=by subst h; exact h1
theorem br_f{b:Bool}{t e:Prop}(h:b=false)(h1:e):br b t e:=by subst h; exact h1
theorem brd{p:Prop}{d:Decidable p}{t:Prop}(h:br (@decide p d) t False):p∧t:=by
  obtain ⟨h1,h2⟩:=br_and h
  exact ⟨of_decide_eq_true h1,h2⟩
theorem br_bne{α:Type}[BEq α]{a b:α}{t e:Prop}(h1:(a==b)=false→t)(h2:(a==b)=true→e):br (a != b) t e:=br_not h1 h2
theorem flatAVs_inv : ∀ {us:List AV} {vs:List Value},flatAVs us=some vs→us=vs.map .val
  | [],vs,h=>by
    simp only [flatAVs] at h
    cases h
    rfl
  | a :: az,vs,h=>by
    simp only [flatAVs] at h
    split at h
    · rename_i v hv
      split at h
      · rename_i ws hw
        cases h
        have e:=flatAVs_inv hw
        cases a<;>simp only [flatAV] at hv<;>cases hv
        rw [e]
        rfl
      · cases h
    · cases h
theorem ckOfVal_inv{c:CK}{v:Value}{x:c.T}(h:c.ofVal v=some x):v=c.val x:=by
  cases c<;>cases v<;>simp only [CK.ofVal] at h<;>first | (cases h; done) | skip
  · split at h
    · rename_i e
      cases h
      rw [e]
      rfl
    · cases h
  · cases h
    rfl
  · cases h
    rfl
theorem ofVals_inv : ∀ {cs:List CK} {vs:List Value} {e:Elem cs},ofVals cs vs=some e→vs=vals cs e
  | [],[],e,h=>rfl
  | [],_ :: _,e,h=>by cases h
  | _ :: _,[],e,h=>by cases h
  | c :: cs,v :: vs,e,h=>by
    simp only [ofVals] at h
    split at h
    · rename_i x hx
      split at h
      · rename_i y hy
        cases h
        rw [ckOfVal_inv hx,ofVals_inv hy]
        rfl
      · cases h
    · cases h
theorem elemOf_inv{cs:List CK}{us:List AV}{e:Elem cs}(h:elemOf cs us=some e):us=(vals cs e).map .val:=by
  unfold elemOf at h
  split at h
  · rename_i vs hv
    rw [flatAVs_inv hv,ofVals_inv h]
  · cases h
theorem castE_inv{cs cs':List CK}{xs:List (Elem cs')}{ys:List (Elem cs)}(h:castE cs cs' xs=some ys):(⟨cs',xs⟩:(cs:List CK) × List (Elem cs))=⟨cs,ys⟩:=by
  unfold castE at h
  split at h
  · rename_i e
    subst e
    cases h
    rfl
  · cases h
theorem loopUp{E:Env}(ok:Ok P E){G:Gk}(hG:HG P G){C:Cx}{α:Type}(ST:Int→α→St)(n:Nat)(I:Nat→α→Prop){c:Code}{k:Kt}
    (body : ∀ (N:St→Prop) (i:Nat) (a:α),i≤n→I i a→(i < n → ∀ a',I (i+1) a'→N (ST ((i:Int)+1) a'))→evP E G (LoopOk P C) c (ST i a) (rk (jof E c) N k))
    (a:α) (h:I 0 a):LoopOk P C c (ST 0 a) k :=
  loopR ok hG (ι := {p:Nat × α // p.1≤n∧I p.1 p.2}) (fun p=>ST p.1.1 p.1.2) (fun p=>n - p.1.1)
    (fun ⟨(i,a),hi,h⟩=>body _ i a hi h (fun hlt a' ha'=>⟨⟨(i+1,a'),hlt,ha'⟩,rfl,by show n - (i+1) < n - i; omega⟩)) ⟨(0,a),Nat.zero_le _,h⟩
theorem loopDown{E:Env}(ok:Ok P E){G:Gk}(hG:HG P G){C:Cx}(ST:Int→St)(n:Nat)(I:Nat→Prop){c:Code}{k:Kt}
    (base : ∀ (N:St→Prop),I 0→evP E G (LoopOk P C) c (ST (-1)) (rk (jof E c) N k))
    (step : ∀ (N:St→Prop) (q:Nat),q < n→I (q+1)→(I q→N (ST ((q:Int) - 1)))→evP E G (LoopOk P C) c (ST (q:Int)) (rk (jof E c) N k))
    (m:Int) (hm:m=(n:Int) - 1) (h:I n):LoopOk P C c (ST m) k:=by
  subst hm
  refine loopR ok hG (ι := {q:Nat // q≤n∧I q}) (fun p=>ST ((p.1:Int) - 1)) (fun p=>p.1) (fun ⟨q,hq,hI⟩ => ?_) ⟨n,Nat.le_refl _,h⟩
  cases q with
  | zero=>exact base _ hI
  | succ q =>
    have e:((q+1:Nat):Int) - 1=q:=by omega
    show evP E G (LoopOk P C) c (ST (((q+1:Nat):Int) - 1)) _
    rw [e]
    exact step _ q (by omega) hI (fun hI'=>⟨⟨q,by omega,hI'⟩,rfl,by show q < q+1; omega⟩)
def allB(n:Nat)(p:Nat→Bool):Bool:=(List.range n).all p
theorem allB_f{n:Nat}{p:Nat→Bool}{i:Nat}(hi:i < n)(h:p i=false):allB n p=false:=by
  unfold allB
  rw [List.all_eq_false]
  exact ⟨i,by simpa using hi,by simp [h]⟩
theorem allB_t{n:Nat}{p:Nat→Bool}(h : ∀ i,i < n→p i=true):allB n p=true:=by
  unfold allB
  rw [List.all_eq_true]
  intro i hi
  exact h i (by simpa using hi)
theorem allB_at{n:Nat}{p:Nat→Bool}(h:allB n p=true){i:Nat}(hi:i < n):p i=true:=by
  unfold allB at h
  rw [List.all_eq_true] at h
  exact h i (by simpa using hi)
theorem allB_congr{n:Nat}{p q:Nat→Bool}(h : ∀ i,i < n→p i=q i):allB n p=allB n q:=by
  cases hq:allB n q with
  | true=>exact allB_t fun i hi=>by rw [h i hi]; exact allB_at hq hi
  | false =>
    cases hp:allB n p with
    | false=>rfl
    | true=>exact absurd (allB_t fun i hi=>by rw [← h i hi]; exact allB_at hp hi:allB n q=true) (by rw [hq]; simp)
theorem loopAll{E:Env}(ok:Ok P E){G:Gk}(hG:HG P G){C:Cx}(ST:Int→St)(n:Nat)(p:Nat→Bool){c:Code}{k:Kt}
    (hn:n < 9223372036854775807)
    (body : ∀ (N:St→Prop) (i:Nat),i≤n→IntKind.i64.wrap ((i:Int)+1)=(i:Int)+1→(i < n→p i=true→N (ST ((i:Int)+1)))→(i < n→p i=false→allB n p=false)→(¬ i < n→allB n p=true) →
      evP E G (LoopOk P C) c (ST i) (rk (jof E c) N k)):LoopOk P C c (ST 0) k :=
  loopUp ok hG (α:=Unit) (fun i _=>ST i) n (fun i _ => ∀ j,j < i→p j=true)
    (fun N i _ hi hall hN=>body N i hi (wrap_id (by omega) (by omega)) (fun h1 h2=>hN h1 () (fun j hj=>by
      by_cases e:j < i
      · exact hall j e
      · have:j=i:=by omega
        rw [this]; exact h2)) (fun h1 h2=>allB_f h1 h2) (fun h1=>allB_t fun j hj=>hall j (by omega))) () (fun j hj=>by omega)
def fIx(n:Nat)(p:Nat→Bool):Int:=match (List.range n).find? p with | some i=>(i:Int) | none => -1
def anyB(n:Nat)(p:Nat→Bool):Bool:=(List.range n).any p
theorem fIx_at{n:Nat}{p:Nat→Bool}{i:Nat}(h : ∀ j,j < i→p j=false)(hi:i < n)(hp:p i=true):fIx n p=i:=by
  unfold fIx
  have:(List.range n).find? p=some i:=by
    rw [List.find?_range_eq_some]
    exact ⟨hp,by simpa using hi,fun j hj=>by simp [h j hj]⟩
  rw [this]
theorem fIx_none{n:Nat}{p:Nat→Bool}(h : ∀ j,j < n→p j=false):fIx n p = -1:=by
  unfold fIx
  have:(List.range n).find? p=none:=by
    rw [List.find?_eq_none]
    intro x hx
    simp [h x (by simpa using hx)]
  rw [this]
theorem fIx_ge{n:Nat}{p:Nat→Bool}:decide (fIx n p≥0)=anyB n p:=by
  unfold fIx anyB
  cases h:(List.range n).find? p with
  | none =>
    rw [List.find?_eq_none] at h
    have:(List.range n).any p=false:=by rw [List.any_eq_false]; exact h
    rw [this]
    rfl
  | some i =>
    have:(List.range n).any p=true:=by rw [List.any_eq_true]; exact ⟨i,List.mem_of_find?_eq_some h,List.find?_some h⟩
    rw [this]
    simp
theorem anyB_t{n:Nat}{p:Nat→Bool}{i:Nat}(hi:i < n)(h:p i=true):anyB n p=true:=by
  unfold anyB
  rw [List.any_eq_true]
  exact ⟨i,by simpa using hi,h⟩
theorem anyB_f{n:Nat}{p:Nat→Bool}(h : ∀ i,i < n→p i=false):anyB n p=false:=by
  unfold anyB
  rw [List.any_eq_false]
  intro i hi
  simp [h i (by simpa using hi)]
theorem anyB_at{n:Nat}{p:Nat→Bool}(h:anyB n p=false){i:Nat}(hi:i < n):p i=false:=by
  cases hp:p i with
  | false=>rfl
  | true=>rw [anyB_t hi hp] at h; cases h
theorem anyB_all{n:Nat}{p:Nat→Bool}:anyB n p = !allB n (fun i => !p i):=by
  unfold anyB allB
  rw [List.not_all_eq_any_not]
  simp
def fd(n:Nat)(p:Nat→Bool):Option Nat:=(List.range n).find? p
theorem fd_at{n:Nat}{p:Nat→Bool}{i:Nat}(h : ∀ j,j < i→p j=false)(hi:i < n)(hp:p i=true):fd n p=some i:=by
  unfold fd
  rw [List.find?_range_eq_some]
  exact ⟨hp,by simpa using hi,fun j hj=>by simp [h j hj]⟩
theorem fd_none{n:Nat}{p:Nat→Bool}(h : ∀ j,j < n→p j=false):fd n p=none:=by
  unfold fd
  rw [List.find?_eq_none]
  intro x hx
  simp [h x (by simpa using hx)]
theorem loopFd{E:Env}(ok:Ok P E){G:Gk}(hG:HG P G){C:Cx}(ST:Int→St)(n:Nat)(p:Nat→Bool){c:Code}{k:Kt}
    (hn:n < 9223372036854775807)
    (body : ∀ (N:St→Prop) (i:Nat),i≤n→IntKind.i64.wrap ((i:Int)+1)=(i:Int)+1→(i < n→p i=false→N (ST ((i:Int)+1)))→(i < n→p i=true→fd n p=some i)→(¬ i < n→fd n p=none) →
      evP E G (LoopOk P C) c (ST i) (rk (jof E c) N k)):LoopOk P C c (ST 0) k :=
  loopUp ok hG (α:=Unit) (fun i _=>ST i) n (fun i _ => ∀ j,j < i→p j=false)
    (fun N i _ hi hall hN=>body N i hi (wrap_id (by omega) (by omega)) (fun h1 h2=>hN h1 () (fun j hj=>by
      by_cases e:j < i
      · exact hall j e
      · have:j=i:=by omega
        rw [this]; exact h2)) (fun h1 h2=>fd_at hall h1 h2) (fun h1=>fd_none fun j hj=>hall j (by omega))) () (fun j hj=>by omega)
theorem loopFind{E:Env}(ok:Ok P E){G:Gk}(hG:HG P G){C:Cx}(ST:Int→St)(n:Nat)(p:Nat→Bool){c:Code}{k:Kt}
    (hn:n < 9223372036854775807)
    (body : ∀ (N:St→Prop) (i:Nat),i≤n→IntKind.i64.wrap ((i:Int)+1)=(i:Int)+1→(i < n→p i=false→N (ST ((i:Int)+1)))→(i < n→p i=true→fIx n p=i)→(¬ i < n→fIx n p = -1) →
      evP E G (LoopOk P C) c (ST i) (rk (jof E c) N k)):LoopOk P C c (ST 0) k :=
  loopUp ok hG (α:=Unit) (fun i _=>ST i) n (fun i _ => ∀ j,j < i→p j=false)
    (fun N i _ hi hall hN=>body N i hi (wrap_id (by omega) (by omega)) (fun h1 h2=>hN h1 () (fun j hj=>by
      by_cases e:j < i
      · exact hall j e
      · have:j=i:=by omega
        rw [this]; exact h2)) (fun h1 h2=>fIx_at hall h1 h2) (fun h1=>fIx_none fun j hj=>hall j (by omega))) () (fun j hj=>by omega)
def eqL{α:Type}(e:α→α→Bool)(d:α)(xs ys:List α):Bool:=decide (xs.length=ys.length)&&allB xs.length fun i=>e (xs.getD i d) (ys.getD i d)
theorem eqL_len{α:Type}{e:α→α→Bool}{d:α}{xs ys:List α}(h:xs.length≠ys.length):eqL e d xs ys=false:=by
  unfold eqL
  simp [h]
theorem eqL_of{α:Type}{e:α→α→Bool}{d:α}{xs ys:List α}(h:xs.length=ys.length):eqL e d xs ys=allB xs.length fun i=>e (xs.getD i d) (ys.getD i d):=by
  unfold eqL
  simp [h]
def Cp{α:Type}(xs:List α)(i:Nat)(ys:List α):Prop:=ys.length=xs.length∧ys.take i=xs.take i
theorem Cp.zero{α:Type}(xs:List α)(d:α):Cp xs 0 (List.replicate xs.length d):=⟨by simp,by simp⟩
theorem Cp.len{α:Type}{xs ys:List α}{i:Nat}(h:Cp xs i ys):ys.length=xs.length:=h.1
theorem Cp.next{α:Type}{xs ys:List α}{i:Nat}{d:α}(h:Cp xs i ys)(hi:i < xs.length):Cp xs (i+1) (ys.set i (xs.getD i d)):=by
  refine ⟨by simp [h.1],?_⟩
  have hx:xs[i]? = some (xs.getD i d):=by rw [List.getD_eq_getElem?_getD,List.getElem?_eq_getElem hi]; rfl
  rw [List.take_add_one,List.take_add_one,List.take_set_of_le (Nat.le_refl i),h.2,List.getElem?_set_self (by rw [h.1]; exact hi),hx]
theorem Cp.done{α:Type}{xs ys:List α}{i:Nat}(h:Cp xs i ys)(hi : ¬ i < xs.length):ys=xs:=by
  have:=h.2
  rwa [List.take_of_length_le (by rw [h.1]; omega),List.take_of_length_le (by omega)] at this
def szR(l:Int)(t:Nat):Int:=if (t:Int)≤l then l - t else -1
theorem szR_neg{l:Int}{t:Nat}(h:l < t):szR l t = -1:=if_neg (by omega)
theorem szR_pos{l:Int}{t:Nat}(h:(t:Int)≤l):szR l t=l - t:=if_pos h
theorem szR_lt{l:Int}{t:Nat}:szR l t < 0↔l < t∨l - t < 0:=by
  unfold szR
  split<;>omega
theorem szR_lt0{l:Int}{t:Nat}(h:szR l t < 0):l < t:=by
  rw [szR_lt] at h
  omega
theorem szR_ge0{l:Int}{t:Nat}(h : ¬ szR l t < 0):(t:Int)≤l:=by
  rw [szR_lt] at h
  omega
def preS{α:Type}(f:α→Nat)(xs:List α)(i:Nat):Nat:=((xs.take i).map f).sum
theorem preS_zero{α:Type}(f:α→Nat)(xs:List α):preS f xs 0=0:=by simp [preS]
theorem preS_next{α:Type}(f:α→Nat)(xs:List α){i:Nat}(d:α)(hi:i < xs.length):preS f xs (i+1)=preS f xs i+f (xs.getD i d):=by
  unfold preS
  rw [List.take_add_one,List.getD_eq_getElem?_getD,List.getElem?_eq_getElem hi]
  simp only [List.map_append,List.sum_append,Option.toList,List.map_cons,List.map_nil,List.sum_cons,List.sum_nil,Option.getD_some,Nat.add_zero]
theorem preS_end{α:Type}(f:α→Nat)(xs:List α){i:Nat}(hi : ¬ i < xs.length):preS f xs i=(xs.map f).sum:=by
  unfold preS
  rw [List.take_of_length_le (by omega)]
theorem preS_le{α:Type}(f:α→Nat)(xs:List α)(i:Nat):preS f xs i≤(xs.map f).sum:=by
  unfold preS
  have e:(xs.map f).sum=((xs.take i++xs.drop i).map f).sum:=by rw [List.take_append_drop]
  rw [e,List.map_append,List.sum_append]
  omega
theorem getD_mem{α:Type}{xs:List α}{i:Nat}(d:α)(hi:i < xs.length):xs.getD i d∈xs:=by
  rw [List.getD_eq_getElem?_getD,List.getElem?_eq_getElem hi]
  exact List.getElem_mem hi
theorem all_at{α:Type}{xs:List α}{p:α→Bool}(h:xs.all p=true)(d:α){i:Nat}(hi:i < xs.length):p (xs.getD i d)=true :=
  List.all_eq_true.1 h _ (getD_mem d hi)
theorem loopSz{E:Env}(ok:Ok P E){G:Gk}(hG:HG P G){C:Cx}{α:Type}(ST:Int→Int→St)(xs:List α)(d:α)(f:α→Nat)(pr:α→Bool)(l:Int){c:Code}{k:Kt}
    (hlen:xs.length < 9223372036854775807) (hl:l≤1048576) (hpr:xs.all pr=true)
    (body : ∀ (N:St→Prop) (i:Nat) (m:Int),i≤xs.length→0≤m→m≤1048576→IntKind.i64.wrap ((i:Int)+1)=(i:Int)+1→(i < xs.length→pr (xs.getD i d)=true) →
      (i < xs.length→m < f (xs.getD i d)→szR l (xs.length+(xs.map f).sum) = -1)→(i < xs.length→(f (xs.getD i d):Int)≤m→N (ST ((i:Int)+1) (m - f (xs.getD i d))))→(¬ i < xs.length→szR l (xs.length+(xs.map f).sum)=m) →
      evP E G (LoopOk P C) c (ST i m) (rk (jof E c) N k)) (m0:Int) (hm0:m0=l - xs.length) (h0:(xs.length:Int)≤l):LoopOk P C c (ST 0 m0) k :=
  loopUp ok hG ST xs.length (fun i m=>0≤m∧m=l - xs.length - preS f xs i)
    (fun N i m hi ⟨hm,he⟩ hN=>by
      refine body N i m hi hm (by omega) (wrap_id (by omega) (by omega)) (fun h=>all_at hpr d h) (fun h1 h2 => ?_) (fun h1 h2 => ?_) (fun h1 => ?_)
      · have a1:=preS_next f xs d h1
        have a2:=preS_le f xs (i+1)
        exact szR_neg (by omega)
      · have a1:=preS_next f xs d h1
        exact hN h1 _ ⟨by omega,by omega⟩
      · have a1:=preS_end f xs h1
        rw [szR_pos (by omega)]
        omega)
    m0 ⟨by omega,by rw [preS_zero]; omega⟩
end Go.Proofs.YtkjnijddbiconaaGreatDoor.Ev
