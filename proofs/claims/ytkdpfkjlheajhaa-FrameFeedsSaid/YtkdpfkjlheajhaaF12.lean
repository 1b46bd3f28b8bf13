/- Regions that draw their order, with changes that come in turn and one new variable that comes at any time. -/
import Derived.Test.YtkdpfkjlheajhaaF11
import Derived.Test.YtkdpfkjlheajhaaF09
set_option linter.unusedSimpArgs false
set_option linter.unusedVariables false
section
open Go.RowKit Go.Pl
namespace Go.Av
section
variable {P:Program} {T:Tab} {Q:X->St->Prop} {n:Nat} {ee:Nat × Nat} {tm tm':List (Nat × D)} {bx bx':List (List D)} {fr fr':List Fr} {b0:Bs} {g:G} {w:World} {a:Act} {ys:List Y}
structure AOj [Known][Dfr](P:Program) (l:List Oper) (n:Nat) (rest:List Oper) (ys:List Y) (tm:List (Nat × D)) (bx:List (List D)) (fr:List Fr) (ja:Nat):Prop where
 out:AOt P l n rest ys tm bx fr
 at_:ys[ja]?=some (.pu .junk)
end
end Go.Av
end
section
open Go.RowKit Go.Pl
namespace Go.Av
section
variable {P:Program} {Q:X->St->Prop} {n:Nat} {ee:Nat × Nat} {tm:List (Nat × D)} {bx bx':List (List D)} {fr fr':List Fr} {b0:Bs} {g:G} {w:World} {a:Act} {T:Tab}
variable {ops:Array Oper} {rest:List Oper} {t ty:Nat} {pos:String} {after:Array Edge}
theorem V5:∀(l l':List D),D.ones l=true->D.ones l'=true->D.ones (l++l')=true
 | [],l',_,h=>h
 | d::l,l',h,h'=>by
  rw[List.cons_append,D.ones]
  rw[D.ones]at h
  cases hd:d.one with
  | true=>rw[hd]at h;exact V5 l l' h h'
  | false=>rw[hd]at h;cases h
def V6 (sz:Nat)(d:D):Bool:=D.ones d.cellsOf&&Nat.beq d.cellsOf.length sz
theorem V7 {sz:Nat}{d:D}(h:V6 sz d=true):D.ones d.cellsOf=true/\d.cellsOf.length=sz:=by
 unfold V6 at h
 rw[Bool.and_eq_true]at h
 exact⟨h.1,Nat.eq_of_beq_eq_true h.2⟩
theorem Vt {sz:Nat}:∀(ds:List D),ds.all (V6 sz)=true->D.ones (ds.flatMap D.cellsOf)=true
 | [],_=>rfl
 | d::ds,h=>by
  rw[List.all_cons,Bool.and_eq_true]at h
  rw[List.flatMap_cons]
  exact V5 _ _ (V7 h.1).1 (Vt ds h.2)
theorem V8 {sz:Nat}:∀ {ds:List D} {vs:List Value},vs.length=ds.length->(∀(j:Nat) (d:D) (v:Value),ds[j]?=some d->vs[j]?=some v->V w g fr d v)->ds.all (V6 sz)=true ->
  ∃ rs:List (List Value × Value),rs.map (·.2)=vs/\(∀ p ∈ rs,p.2.cells=p.1.toArray/\p.1.length=sz)/\(rs.flatMap (·.1)).length=(ds.flatMap D.cellsOf).length/\∀(j:Nat) (d:D) (v:Value),(ds.flatMap D.cellsOf)[j]?=some d->(rs.flatMap (·.1))[j]?=some v->V w g fr d v
 | [],[],_,_,_=>⟨[],rfl,by simp,by simp,by simp⟩
 | d::ds,v::vs,hl,hv,hs=>by
  rw[List.all_cons,Bool.and_eq_true]at hs
  obtain⟨ho,hsz⟩:=V7 hs.1
  obtain⟨us,q1,q2,q3⟩:=(hv 0 d v rfl rfl).cells ho
  obtain⟨rs,p1,p2,p3,p4⟩:=V8 (sz:=sz) (ds:=ds) (vs:=vs) (by simpa using hl) (fun j d v h1 h2=>hv (j+1) d v (by simpa using h1) (by simpa using h2)) hs.2
  refine⟨(us,v)::rs,by simp[p1],fun p hp=>?_,?_,fun j x u hx hu=>?_⟩
  ·rcases List.mem_cons.1 hp with rfl|hp
   ·exact⟨q1,by rw[q2,hsz]⟩
   ·exact p2 p hp
  ·simp only[List.flatMap_cons,List.length_append,p3,q2]
  ·simp only[List.flatMap_cons]at hx hu
   rcases Nat.lt_or_ge j d.cellsOf.length with hj|hj
   ·rw[List.getElem?_append_left hj]at hx
    rw[List.getElem?_append_left (by rw[q2];exact hj)]at hu
    exact q3 j x u hx hu
   ·rw[List.getElem?_append_right hj]at hx
    rw[List.getElem?_append_right (by rw[q2];exact hj),q2]at hu
    exact p4 _ x u hx hu
 | [],_::_,hl,_,_=>by simp at hl
 | _::_,[],hl,_,_=>by simp at hl
theorem JF [Known][Dfr](hT:chk P T=true){st len e m:Nat}{ds:List D}{ti te:Ti}{parts:Array (Nat × Operand)}(ht:tl T st=some ti)(hk:ti.kd=.slice e)(hte:tl T e=some te)(hp:parts.toList.map (·.1)=List.range len)
  (hds:nfs (parts.toList.map fun p=>ev tm p.2)=some ds) (hs:ds.all (V6 te.size)=true) (hsz:Nat.blt 0 te.size=true) (hsm:Nat.ble (len*te.size) 16777216=true) (hpos:Nat.blt 0 len=true) (hm:bx.length=m) (hb:nfb (bx++[ds.flatMap D.cellsOf])=some bx') (htd:Nat.blt t n=true)
  (k:AL P ops rest ⟨n,(t,.bsl m 0 len len)::tm,bx',fr,ee⟩ Q):AL P ops (⟨some t,.buildSlice st len parts,ty,pos,after,none⟩::rest) ⟨n,tm,bx,fr,ee⟩ Q:=
 Wc _ htd (fun g a w hi=>by
  have hsm:=Nat.le_of_ble_eq_true hsm
  have hpos:0<len:=by simpa[Nat.blt_eq]using hpos
  have hsz:0<te.size:=by simpa[Nat.blt_eq]using hsz
  have hu:=(Zn hT ht).slice hk
  have hds':=Yi hds
  obtain⟨z,hz1,hz2⟩:=(Zn hT hte).zero w
  obtain⟨hzl,_⟩:=YE (w:=w) (g:=g) (fr:=fr) hz2
  have hpl:parts.toList.length=len:=by have:=congrArg List.length hp;simpa using this
  have hdl:ds.length=len:=by rw[<- hds'];simpa using hpl
  have hV:∀(j:Nat) (d:D) (v:Value),ds[j]?=some d->(parts.toList.map fun p=>a.eval p.2)[j]?=some v->V w g fr d v:=fun j d v h1 h2=>by
   rw[<- hds',List.getElem?_map]at h1
   rw[List.getElem?_map]at h2
   cases hx:parts.toList[j]? with
   | none=>rw[hx]at h1;cases h1
   | some p=>rw[hx]at h1 h2;injection h1 with h1;injection h2 with h2;subst h1 h2;exact hi.ev p.2
  obtain⟨rs,r1,r2,r3,r4⟩:=V8 (sz:=te.size) (by rw[hdl,List.length_map,hpl]) hV hs
  have hrl:rs.length=len:=by have:=congrArg List.length r1;simpa[hpl]using this
  have hparts:(parts.map fun(p:Nat × Operand)=>(p.1,a.eval p.2)).toList=(rs.zipIdx 0).map fun q=>(q.2,q.1.2):=by
   apply List.ext_getElem?
   intro j
   have hj:(parts.toList.map (·.1))[j]?=(List.range len)[j]? := by rw[hp]
   have hr:(rs.map (·.2))[j]?=(parts.toList.map fun p=>a.eval p.2)[j]? := by rw[r1]
   simp only[Array.toList_map,List.getElem?_map,List.getElem?_zipIdx,Nat.zero_add]at hj hr ⊢
   cases hx:parts.toList[j]? with
   | none=>
    have:rs[j]?=none:=List.getElem?_eq_none (by rw[hrl,<- hpl];exact List.getElem?_eq_none_iff.1 hx)
    rw[this];rfl
   | some p=>
    have hjl:j<len:=by rw[<- hpl];exact(List.getElem?_eq_some_iff.1 hx).1
    rw[hx,List.getElem?_range hjl]at hj
    simp only[Option.map_some,Option.some.injEq]at hj
    rw[hx]at hr
    cases hq:rs[j]? with
    | none=>rw[hq]at hr;cases hr
    | some q=>
     rw[hq]at hr
     simp only[Option.map_some,Option.some.injEq]at hr
     simp[hj,hr]
  obtain⟨out,e1,e2⟩:=WU rs 0 ((Array.range (len*te.size)).map (z.cells[· % z.cells.size]!)) r2 (by simp[hrl])
  have hout:out=(rs.flatMap (·.1)).toArray:=by
   have:out.toList=rs.flatMap (·.1):=by rw[e2];simp
   rw[<- this]
  have h0:¬ len*te.size=0:=Nat.ne_of_gt (Nat.mul_pos hpos hsz)
  have hsz2:=ZA (P:=P) (t:=e) (Zn hT hte).tSize w
  have hrun:(Instr.buildSlice st len (parts.map fun(p:Nat × Operand)=>(p.1,a.eval p.2))).run P w=.ok (.slice (some ⟨w.heap.size,0,none⟩) len len) (w.alloc (.cells (rs.flatMap (·.1)).toArray e)):=by
   rw[<- hparts]at e1
   simp only[Instr.buildSlice,Sem.run_bind,run_underlying hu,Result.andThen_ok,hsz2,if_neg (show ¬ len*te.size>2 ^ 24 by omega),if_neg h0,hz1,Sem.run_pure,e1,hout]
   rfl
  have hlm:len<=maxLen:=by unfold maxLen;have:=Nat.le_mul_of_pos_right len hsz;omega
  obtain⟨k1,k2⟩:=hi.mem.box (rs.flatMap (·.1)) (ds.flatMap D.cellsOf) e r3 (VP (Vt ds hs)) r4
  refine⟨.slice (some ⟨w.heap.size,0,none⟩) len len,_,_,?_,k1,(Yp hb) ▸ k2,.bsl _ _ _ _ w.heap.size len ?_ (Nat.le_refl _) hlm (.inr rfl)⟩
  ·simp only[execOp,Sem.run_bind]
   rw[show(fun(x:Nat × Operand)=>match x with|(i,x)=>(i,a.eval x))=fun(p:Nat × Operand)=>(p.1,a.eval p.2) from rfl,hrun]
   rfl
  ·subst hm
   have:=hi.mem.bl
   simp at this
   simp[this]) k
theorem Wd [Known][Dfr](hT:chk P T=true){x y:Operand}{st e i:Nat}{l l':List E}{ti te:Ti}{f:Fr}(ht:tl T st=some ti)(hk:ti.kd=.slice e)(hte:tl T e=some te)(hx:ev tm x=.sl (.own i) l)(hy:Src bx te.size (ev tm y) l')
  (hf:fr[i]?=some f) (hfn:f.n=l.length) (hfs:f.sz=te.size) (hfe:f.e=e) (hU:Uni te.size l) (hU':Uni te.size l') (hne:l' ≠ []) (hlen:l.length+l'.length<=maxLen) (hby:(l.length+l'.length)*te.bytes<=140737488355328)
  (hfr:nfl (fr.set i ⟨l.length+l'.length,te.size,e⟩)=some fr') (htd:Nat.blt t n=true)
  (k:AL P ops rest ⟨n,(t,.sl (.own i) (l++l'))::tm,bx,fr',ee⟩ Q):AL P ops (⟨some t,.call { callee:=.builtin .append,args := #[x,y],argTypes := #[st,st] },ty,pos,after,none⟩::rest) ⟨n,tm,bx,fr,ee⟩ Q:=
 Wc _ htd (fun g a w hi=>by
  have h1:V w g fr (ev tm x) (a.eval x):=hi.ev x
  have h2:V w g fr (ev tm y) (a.eval y):=hi.ev y
  rw[hx]at h1
  obtain⟨a1,a2⟩:=Z1 h1
  obtain⟨ad,c,news,hyv,n1,n2,n3,n4⟩:=hy hi.mem h2 hU' hne
  have hpos':0<l'.length:=List.length_pos_iff.2 hne
  obtain⟨f',hf',_,hfv⟩:=a2
  rw[hf]at hf';injection hf' with hf';subst hf'
  obtain⟨blk,cap,hxv,hτ⟩:=hfv hfn
  have hm:=hi.mem
  have hTk:=hm.tat i blk cap f hτ hf
  obtain⟨cur,s1,s2⟩:=hTk.row
  rw[hfe]at s1
  rw[hfs]at s2
  have hle:=hTk.le
  rw[hfn]at hle
  have hpos:=hTk.pos
  rw[hfs]at hpos
  have hmax:=hTk.max
  have hblk:blk<w.heap.size:=(Array.getElem?_eq_some_iff.1 s1).1
  have hu:=(Zn hT ht).slice hk
  obtain⟨ie,ue,z,i1,i2,i3,i4,i5,i6,i7⟩:=(Zn hT hte).out
  rw[hxv]at a1
  obtain⟨o1,o2⟩:=a1.old hU
  have hz:=(YE (w:=w) (g:=g) (fr:=fr) i7).1
  have hcurle:l.length*te.size<=cur.size:=by rw[s2];exact Nat.mul_le_mul_right _ hle
  have olds:(cur.toList.take (l.length*te.size)).length=l.length*ie.size:=by rw[<- i5];simp;omega
  have oget:∀(j:Nat) (u:Value),(cur.toList.take (l.length*te.size))[j]?=some u->w.cell? ⟨blk,j,none⟩=some u:=fun j u hu=>by
   rw[cell_of_row w blk j cur e (0,0) s1]
   have:j<l.length*te.size/\cur[j]?=some u:=by simpa[List.getElem?_take]using hu
   exact this.2
  have hflat:=hU.flat
  have hnew:∀(j:Nat) (x:E) (u:Value),(flat (l++l'))[j]?=some x->(cur.toList.take (l.length*te.size)++news)[j]?=some u->VE w g.C x u:=fun j x u hx hu=>by
   rw[Wy]at hx
   have hl2:(cur.toList.take (l.length*te.size)).length=l.length*te.size:=by simp;omega
   rcases Nat.lt_or_ge j (l.length*te.size) with hj|hj
   ·rw[List.getElem?_append_left (by omega)]at hx
    rw[List.getElem?_append_left (by omega)]at hu
    exact o2 j x u hx (oget j u hu)
   ·rw[List.getElem?_append_right (by omega),hflat]at hx
    rw[List.getElem?_append_right (by omega),hl2]at hu
    exact n4 _ x u hx hu
  have hll:(l++l').length=l.length+l'.length:=List.length_append
  have hUU:=hU.append hU'
  have hmul:(l.length+l'.length)*te.size=l.length*te.size+l'.length*te.size:=Nat.add_mul _ _ _
  have hltr:i<fr.length:=(List.getElem?_eq_some_iff.1 hf).1
  have hltτ:i<g.τ.length:=by rw[hm.tl];exact hltr
  rw[<- Z7 hfr]
  by_cases hroom:l.length+l'.length<=cap
  ·
   have hfit:l.length*ie.size+news.length<=cur.size:=by rw[n1,<- i5,s2,<- Nat.add_mul];exact Nat.mul_le_mul_right _ hroom
   have hr:=run_append_room (P:=P) w st ty e ie hu i1 blk l.length cap cur s1 ad l'.length c news (by rw[<- i5];exact n1) n2 n3 hroom hfit
   obtain⟨w',hw'⟩:∃ w',w'=w.setRow blk (cur.toList.take (l.length*ie.size)++news++cur.toList.drop (l.length*ie.size+news.length)).toArray:=⟨_,rfl⟩
   rw[<- hw']at hr
   rw[<- i5]at hw' hfit
   have hheap:w'.heap[blk]?=some (.cells (cur.toList.take (l.length*te.size)++news++cur.toList.drop (l.length*te.size+news.length)).toArray e (0,0)):=by
    rw[hw'];exact setRow_heap w blk cur _ e _ s1
   have hsz:w'.heap.size=w.heap.size:=by rw[hw'];simp[World.setRow]
   have hl2:(cur.toList.take (l.length*te.size)).length=l.length*te.size:=by simp;omega
   have hcl:∀ j,j<l.length*te.size+news.length->w'.cell? ⟨blk,j,none⟩=(cur.toList.take (l.length*te.size)++news)[j]? := fun j hj=>by
    rw[cell_of_row w' blk j _ _ _ hheap]
    simp only[List.getElem?_toArray]
    rw[List.getElem?_append_left (by simp only[List.length_append,hl2];exact hj)]
   obtain⟨k1,k2⟩:=hm.retok (i:=i) (blk':=blk) (cap':=cap) (f:=f) (f':=⟨l.length+l'.length,te.size,e⟩) (C':=fun k o=>g.C k o\/(k=blk/\o<(l.length+l'.length)*te.size)) (w':=w') hτ hf (by dsimp only;omega) (.inl rfl)
    (by rw[hw'];rfl) (by rw[hw'];rfl) (by rw[hw'];rfl) (by rw[hsz];exact Nat.le_refl _) (by rw[hsz];exact hblk)
    (fun k hk hne=>by rw[hw'];simp only[World.setRow,Array.getElem?_modify];rw[if_neg (fun e=>hne e.symm)])
    (fun k o=>Iff.rfl)
    (fun o ho=>by
     have hlt:o<l.length*te.size:=by
      rcases Nat.lt_or_ge o (l.length*te.size) with h|h
      ·exact h
      ·exact(hTk.far o (by rw[hfn,hfs];exact h) ho).elim
     rw[hcl o (by omega),List.getElem?_append_left (by omega),List.getElem?_take,if_pos hlt,cell_of_row w blk o cur e (0,0) s1]
     simp)
    ⟨_,hheap,by simp only[List.size_toArray,List.length_append,hl2,List.length_drop,Array.length_toList,n1];rw[n1]at hfit;omega⟩ hroom hmax hpos
    (fun o ho hC=>hTk.far o (by rw[hfn,hfs];dsimp only at ho;omega) hC)
   refine⟨.slice (some ⟨blk,0,none⟩) (l.length+l'.length) cap,w',_,by simp only[execOp,resolve,invoke,builtin,Sem.run_bind,Sem.run_pure,Result.andThen_ok,List.map_toArray,List.map_cons,List.map_nil,hxv,hyv,hr],k1,k2,?_⟩
   refine .sl _ _ _ ?_ ⟨⟨l.length+l'.length,te.size,e⟩,List.getElem?_set_self hltr,by rw[hll];exact Nat.le_refl _,fun _=>⟨blk,cap,by rw[hll],List.getElem?_set_self hltτ⟩⟩
   have hfl2:(flat (l++l')).length=l.length*te.size+news.length:=by rw[hUU.flat,hll,n1,hmul]
   suffices hVE:VE w' (fun k o=>g.C k o\/(k=blk/\o<(l.length+l'.length)*te.size)) (.sl (l++l')) (.slice (some ⟨blk,0,none⟩) (l++l').length cap) by rw[hll]at hVE;exact hVE
   refine .slC _ blk 0 cap (fun j=>(cur.toList.take (l.length*te.size)++news).getD j undef) (by rw[hll];exact hroom) hmax (fun j hj=>.inr ⟨rfl,by rw[hfl2,n1]at hj;rw[hmul];omega⟩) (fun j hj=>?_) (fun j x hx=>?_)
   ·rw[hfl2]at hj
    rw[Nat.zero_add,hcl j hj]
    exact getD_some (by simp only[List.length_append,hl2];exact hj)
   ·have hj:=(List.getElem?_eq_some_iff.1 hx).1
    rw[hfl2]at hj
    exact(hnew j x _ hx (getD_some (by simp only[List.length_append,hl2];exact hj))).mono k1.C k1.cell
  ·
   have hr:=run_append_grow (P:=P) w st ty e ie z hu i1 i3 ⟨blk,0,none⟩ l.length cap (cur.toList.take (l.length*te.size)) olds (fun j u hu=>by rw[Addr.add_mid,Nat.zero_add];exact oget j u hu) ad l'.length c news (by rw[<- i5];exact n1) n2 (by omega) (by simp only[maxLen]at hlen;omega) (growslice_fits (by omega) (by rw[<- i6];exact hby))
   have hge:=grownCap_ge w (l.length+l'.length) cap e
   have hcm:=grownCap_le_maxLen w (l.length+l'.length) cap e hlen
   obtain⟨C2,hC2⟩:∃ C2,C2=grownCap w (l.length+l'.length) cap e:=⟨_,rfl⟩
   rw[<- hC2]at hr hge hcm
   have hl2:(cur.toList.take (l.length*te.size)).length=l.length*te.size:=by simp;omega
   have hcurr:(cur.toList.take (l.length*te.size)).toArray++news.toArray++Builtin.zeroCells z.cells (C2-(l.length+l'.length))=(cur.toList.take (l.length*te.size)++news++(Builtin.zeroCells z.cells (C2-(l.length+l'.length))).toList).toArray:=by simp
   rw[hcurr]at hr
   obtain⟨rest',hrest⟩:∃ rest',rest'=(Builtin.zeroCells z.cells (C2-(l.length+l'.length))).toList:=⟨_,rfl⟩
   have hzc:z.cells.size=ie.size:=by
    have:=i7;rw[<- Array.length_toList,hz,<- i5]
    exact(WF hT hte).symm
   have hrl:rest'.length=(C2-(l.length+l'.length))*te.size:=by rw[hrest,Array.length_toList,size_zeroCells,hzc,<- i5]
   rw[<- hrest]at hr
   have hheap:(w.drew.alloc (.cells (cur.toList.take (l.length*te.size)++news++rest').toArray e)).heap[w.heap.size]?=some (.cells (cur.toList.take (l.length*te.size)++news++rest').toArray e (0,0)):=heap_alloc_new w.drew _
   have hcl:∀ j,j<l.length*te.size+news.length->(w.drew.alloc (.cells (cur.toList.take (l.length*te.size)++news++rest').toArray e)).cell? ⟨w.heap.size,j,none⟩=(cur.toList.take (l.length*te.size)++news)[j]? := fun j hj=>by
    rw[cell_of_row _ w.heap.size j _ _ _ hheap]
    simp only[List.getElem?_toArray]
    rw[List.getElem?_append_left (by simp only[List.length_append,hl2];exact hj)]
   obtain⟨k1,k2⟩:=hm.retok (i:=i) (blk':=w.heap.size) (cap':=C2) (f:=f) (f':=⟨l.length+l'.length,te.size,e⟩) (C':=fun k o=>g.C k o\/(k=w.heap.size/\o<(l.length+l'.length)*te.size)) (w':=w.drew.alloc (.cells (cur.toList.take (l.length*te.size)++news++rest').toArray e)) hτ hf (by dsimp only;omega) (.inr rfl)
    rfl rfl rfl (by simp) (by simp) (fun k hk _=>Below.heap_alloc w.drew _ k hk) (fun k o=>Iff.rfl) (fun o ho=>by have:=hm.Clt _ o ho;omega)
    ⟨_,hheap,by simp only[List.size_toArray,List.length_append,hl2,n1,hrl,<- Nat.add_mul];congr 1;omega⟩ hge hcm hpos (fun o _ hC=>by have:=hm.Clt _ o hC;omega)
   refine⟨.slice (some ⟨w.heap.size,0,none⟩) (l.length+l'.length) C2,_,_,by simp only[execOp,resolve,invoke,builtin,Sem.run_bind,Sem.run_pure,Result.andThen_ok,List.map_toArray,List.map_cons,List.map_nil,hxv,hyv,hr],k1,k2,?_⟩
   refine .sl _ _ _ ?_ ⟨⟨l.length+l'.length,te.size,e⟩,List.getElem?_set_self hltr,by rw[hll];exact Nat.le_refl _,fun _=>⟨w.heap.size,C2,by rw[hll],List.getElem?_set_self hltτ⟩⟩
   have hfl2:(flat (l++l')).length=l.length*te.size+news.length:=by rw[hUU.flat,hll,n1,hmul]
   suffices hVE:VE (w.drew.alloc (.cells (cur.toList.take (l.length*te.size)++news++rest').toArray e)) (fun k o=>g.C k o\/(k=w.heap.size/\o<(l.length+l'.length)*te.size)) (.sl (l++l')) (.slice (some ⟨w.heap.size,0,none⟩) (l++l').length C2) by rw[hll]at hVE;exact hVE
   refine .slC _ w.heap.size 0 C2 (fun j=>(cur.toList.take (l.length*te.size)++news).getD j undef) (by rw[hll];exact hge) hcm (fun j hj=>.inr ⟨rfl,by rw[hfl2,n1]at hj;rw[hmul];omega⟩) (fun j hj=>?_) (fun j x hx=>?_)
   ·rw[hfl2]at hj
    rw[Nat.zero_add,hcl j hj]
    exact getD_some (by simp only[List.length_append,hl2];exact hj)
   ·have hj:=(List.getElem?_eq_some_iff.1 hx).1
    rw[hfl2]at hj
    exact(hnew j x _ hx (getD_some (by simp only[List.length_append,hl2];exact hj))).mono k1.C k1.cell) k
end
end Go.Av
end
section
open Go.RowKit Go.Pl Go.Av
namespace Go.Proofs.Ytkdpfkjlheajhaa
set_option maxHeartbeats 4000000
theorem Uw [Known](l b:List UInt8)(z c:Nat)(hne:b ≠ [])(hl:l.length+b.length<=1099511627776):AQ Try.prog 29 [.bsl 1 0 2 2] [[.row z (flat (b.map E.byte))],[.sl .ext (l.map E.byte),.bsl 0 0 (b.map E.byte).length c]] (byE (l++b)) [[.row z (flat (b.map E.byte))],[.sl .ext (l.map E.byte),.bsl 0 0 (b.map E.byte).length c]]:=by
 have hn:b.map E.byte ≠ []:=fun e=>hne (List.map_eq_nil_iff.1 e)
 have hUb:=ZD b
 have hUl:=ZD l
 have hb0:0<b.length:=List.length_pos_iff.2 hne
 have hll:(l.map E.byte).length=l.length:=List.length_map ..
 have hbl:(b.map E.byte).length=b.length:=List.length_map ..
 have e1:IntKind.i64.wrap (0+((l.map E.byte).length:Int))=((l.length:Nat):Int):=by rw[hll,IntWalk.i64_in _ (by omega)];omega
 have e2:IntKind.i64.wrap (((l.length:Nat):Int)+((b.map E.byte).length:Int))=((l.length+b.length:Nat):Int):=by rw[hbl,IntWalk.i64_in _ (by omega)];omega
 have t1:decide (((l.length:Nat):Int)<0)=false:=decide_eq_false (by omega)
 have t2:decide (((l.length+b.length:Nat):Int)<0)=false:=decide_eq_false (by omega)
 have hG:=V4 (l.length+b.length) (by omega) (by omega)
 have h1:(l.map E.byte).length<=maxLen:=by rw[hll];unfold maxLen;omega
 have h3:(l.map E.byte).length+(b.map E.byte).length<=maxLen:=by rw[hll,hbl];unfold maxLen;omega
 have h4:((l.map E.byte).length+(b.map E.byte).length)*1<=140737488355328:=by rw[hll,hbl];omega
 have h5:([]:List E).length+(l.map E.byte).length<=maxLen:=by rw[hll];simp[maxLen];omega
 have h6:(([]:List E).length+(l.map E.byte).length)*1<=140737488355328:=by rw[hll];simp;omega
 have h7:([]:List E).length+(b.map E.byte).length<=maxLen:=by rw[hbl];simp[maxLen];omega
 have h8:(([]:List E).length+(b.map E.byte).length)*1<=140737488355328:=by rw[hbl];simp;omega
 have f1:IntKind.i64.wrap ((0:Int)+1)=1:=rfl
 have f2:IntKind.i64.wrap ((1:Int)+1)=2:=rfl
 have q0:decide ((0:Int)<((2:Nat):Int))=true:=rfl
 have q1:decide ((1:Int)<((2:Nat):Int))=true:=rfl
 have q2:decide ((2:Int)<((2:Nat):Int))=false:=rfl
 have hU0:Uni 1 ([]:List E):=Zc rfl
 refine AQ.weak ?_
 cases l with
 | nil=>
  refine ZG Try.func29 rfl Try.ntmps29 rfl rfl ?_
  repeat'(first|rw[f1]|rw[f2]|rw[e1]|rw[e2]|refine Yd Za Z Z Z Z ?_|(apply Y2 Za;(iterate 6 exact Z);(first|exact Qb|rotate_left);(first|exact Qb|rotate_left);exact Z)|(apply YO hG;kernel_rfl;(iterate 4 exact Z))|refine Wd Za Z Z Z Z (Src.row (l:=b.map E.byte) rfl rfl) Z Z Z Z hU0 hUb hn h7 h8 Z Z ?_|refine YB 20 ?_|refine Y0 ?_|(apply Zj Za;exact Z)|(apply Zf Za;exact Z)|(apply Zd;exact Z;(first|with_reducible assumption|(solve|simp only[bn])))|(apply Ze;exact Z;(first|with_reducible assumption|(solve|simp only[bn])))|refine Zk Za Z Z Z Z ?_|refine Zw Za Z Z Z Z Z Z ?_)
  all_goals(apply Yh [0,1];(apply Zg Za;exact Z);(iterate 4 exact Z))
  all_goals first|rfl|(simp;done)
 | cons x l=>
  have hnl:(x::l).map E.byte ≠ []:=List.cons_ne_nil _ _
  have g8:[]++(x::l).map E.byte=(x::l).map E.byte:=rfl
  have g9:([]:List E).length+((x::l).map E.byte).length=((x::l).map E.byte).length:=Nat.zero_add _
  have hf:(x::l).map E.byte++b.map E.byte=(x::l++b).map E.byte:=(List.map_append ..).symm
  refine ZG Try.func29 rfl Try.ntmps29 rfl rfl ?_
  repeat'(first|rw[g8]|rw[g9]|rw[f1]|rw[f2]|rw[e1]|rw[e2]|refine Yd Za Z Z Z Z ?_|(apply Y2 Za;(iterate 6 exact Z);(first|exact Qb|rotate_left);(first|exact Qb|rotate_left);exact Z)|(apply YO hG;kernel_rfl;(iterate 4 exact Z))|refine Wd Za Z Z Z Z (Src.row (l:=b.map E.byte) rfl rfl) Z Z Z Z hUl hUb hn h3 h4 Z Z ?_|refine Wd Za Z Z Z Z (Src.sl rfl) Z Z Z Z hU0 hUl hnl h5 h6 Z Z ?_|refine YB 20 ?_|refine Y0 ?_|(apply Zj Za;exact Z)|(apply Zf Za;exact Z)|(apply Zd;exact Z;(first|with_reducible assumption|(solve|simp only[bn])))|(apply Ze;exact Z;(first|with_reducible assumption|(solve|simp only[bn])))|refine Zk Za Z Z Z Z ?_)
  all_goals(apply Yh [0,1];(apply Zg Za;exact Z);(iterate 4 exact Z))
  all_goals first|rfl|exact congrArg (fun l=>D.sl .ext l) hf
end Go.Proofs.Ytkdpfkjlheajhaa
end
