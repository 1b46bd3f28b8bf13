/- A row of one's own within another one: appended, read, lent. -/
import Derived.Test.YtchlgagdbflkmaaDoorS20
import Derived.Test.YtchlgagdbflkmaaDoorS18
set_option linter.unusedSimpArgs false
set_option linter.unusedVariables false
section
open Go.RowKit Go.Pl
namespace Go.Av
section
variable {P:Program} {Q:X->St->Prop} {n:Nat} {ee:Nat × Nat} {tm:List (Nat × D)} {bx bx':List (List D)} {fr fr':List Fr} {b0:Bs} {g:G} {w:World} {a:Act} {T:Tab}
variable {ops:Array Oper} {rest:List Oper} {t ty:Nat} {pos:String} {after:Array Edge}
theorem Il (l:List E)(ds:List D):D.ex [.mix l ds]=l.map .ofC++ds:=rfl
theorem Im {n:Nat}{l:List E}{ds:List D}(h1:1<=n)(h2:l.length+ds.length<=n):D.fits [.mix l ds] n:=⟨h1,by rw[Il,List.length_append,List.length_map];exact h2,fun z' l' e=>by simp at e⟩
theorem Mem.mixc [Known](hm:Mem g bx fr w){b blk:Nat}{l:List E}{ds:List D}(hb:g.ρ[b]?=some blk)(hx:bx[b]?=some [.mix l ds]):∃ vs ty,w.heap[blk]?=some (.cells vs ty (0,0))/\l.length+ds.length<=vs.size /\
  (∀(j:Nat) (e:E) (v:Value),l[j]?=some e->vs[j]?=some v->VE w g.C e v)/\∀(j:Nat) (d:D) (v:Value),ds[j]?=some d->vs[l.length+j]?=some v->V w g fr d v:=by
 obtain⟨vs,ty,h1,h2,h3⟩:=hm.bat b blk _ hb hx
 have h4:(l.map D.ofC++ds).length<=vs.size:=h2.2.1
 refine⟨vs,ty,h1,by simpa using h4,fun j e v he hv=>(h3 j (.ofC e) v ?_ hv).offC,fun j d v hd hv=>h3 (l.length+j) d v ?_ hv⟩
 ·show(l.map D.ofC++ds)[j]?=_
  have hj:=(List.getElem?_eq_some_iff.1 he).1
  rw[List.getElem?_append_left (by simpa using hj),List.getElem?_map,he];rfl
 ·show(l.map D.ofC++ds)[l.length+j]?=_
  rw[List.getElem?_append_right (by simp),List.length_map,Nat.add_sub_cancel_left];exact hd
theorem Io [Known][Dfr](hT:chk P T=true){x:Operand}{lt b o i:Nat}{l:List E}{ds:List D}{d d':D}{ti:Ti}(hx:ev tm x=.ptr b o)(ht:tl T lt=some ti)(ha:ti.kd.agg=false)(hb:bx[b]?=some [.mix l ds])(ho:o=l.length+i)(hid:ds[i]?=some d)(hd:nf d=some d')(htd:Nat.blt t n=true)
  (kk:AL P ops rest ⟨n,(t,d')::tm,bx,fr,ee⟩ Q):AL P ops (⟨some t,.load lt x,ty,pos,after,none⟩::rest) ⟨n,tm,bx,fr,ee⟩ Q:=
 ZR _ htd (fun g a w hi=>by
  have h1:V w g fr (ev tm x) (a.eval x):=hi.ev x
  rw[hx]at h1
  obtain⟨blk,h2,h3⟩:=VC h1
  obtain⟨vs,ut,r1,r2,r3,r4⟩:=hi.mem.mixc h2 hb
  have hil:=(List.getElem?_eq_some_iff.1 hid).1
  subst ho
  have hv:vs[l.length+i]?=some (vs[l.length+i]'(by omega)):=Array.getElem?_eq_getElem _
  have hc:w.cell? ⟨blk,l.length+i,none⟩=some (vs[l.length+i]'(by omega)):=(cell_of_row w blk _ vs ut (0,0) r1).trans hv
  have hag:tAgg P lt=some false:=by rw[(ZF hT ht).tAgg,ha]
  refine⟨_,?_,by rw[<- Yj hd];exact r4 i d _ hid hv⟩
  simp[execOp,h3,Instr.loadAt,Instr.sureAddr,Sem.run_bind,WM hag hc]) kk
theorem V.repoint [Known]{b blk blk':Nat}{w':World}(hm:Mem g bx fr w)(hb:g.ρ[b]?=some blk)(hbb:blk'=blk\/blk'=w.heap.size)(hfar:∀ k,k<w.heap.size->k ≠ blk'->w'.heap[k]?=w.heap[k]?){d:D}{v:Value}(h:V w g fr d v):V w' ⟨g.C,g.ρ.set b blk',g.τ⟩ fr (d.dropB b) v:=by
 have hCb:∀ o,¬ g.C blk' o:=fun o hC=>by
  rcases hbb with rfl|rfl
  ·exact hm.bC blk' o (List.mem_of_getElem? hb) hC
  ·have:=hm.Clt _ o hC;omega
 have hcell:∀ k o,g.C k o->w'.cell? ⟨k,o,none⟩=w.cell? ⟨k,o,none⟩:=fun k o h=>World.cell?_of_block (w:=w) (hfar k (hm.Clt k o h) fun e=>by subst e;exact hCb o h)
 have h1:V w' g fr d v:=h.mono (fun _ _ h=>h) hcell (fun _ _ h=>h) (YK.refl _ _)
 refine h1.ren _ _ (fun _ _ h=>h) (fun i i' k hi' hk=>?_) (fun i j f0 hij hf0=>?_)
 ·unfold Go.Av.dropB at hi'
  split at hi'
  ·cases hi'
  ·rename_i hne
   injection hi' with e
   subst e
   have hne':b ≠ i:=fun e=>by subst e;rw[Nat.beq_refl]at hne;cases hne
   show(g.ρ.set b blk')[i]?=_
   rw[List.getElem?_set_ne hne'];exact hk
 ·injection hij with e
  subst e
  exact⟨⟨f0,hf0,rfl⟩,rfl⟩
theorem X4 [Known][Dfr](hT:chk P T=true){x y:Operand}{st e b m c z b2 c2:Nat}{l:List E}{ds ds':List D}{ti te:Ti}{tm2:List (Nat × D)}{bx2:List (List D)}(ht:tl T st=some ti)(hk:ti.kd=.slice e)(hte:tl T e=some te)(hx:ev tm x=.bsl b 0 m c)(hy:ev tm y=.bsl b2 0 1 c2)
  (hb:bx[b]?=some [.row z (flat l)]) (hb2:bx[b2]?=some ds) (ho:D.ones ds=true) (hds:ds.length=te.size) (hm:l.length=m) (hz:z=c*te.size) (hc0:0<c) (hge:Nat.ble ee.1 b=true) (hU:Uni te.size l) (hlen:l.length+1<=maxLen) (hby:(l.length+1)*te.bytes<=140737488355328)
  (hpos:Nat.blt 0 te.size=true) (htm:nft (tm.map fun p=>(p.1,p.2.dropB b))=some tm2) (hds':D.rens (dropB b) some ds=ds') (hbx:nfb ((bx.map (D.rens (dropB b) some)).set b [.mix (flat l) ds'])=some bx2) (htd:Nat.blt t n=true)
  (k:AL P ops rest ⟨n,(t,.bsl b 0 (m+1) 0)::tm2,bx2,fr,ee⟩ Q):AL P ops (⟨some t,.call { callee:=.builtin .append,args := #[x,y],argTypes := #[st,st] },ty,pos,after,none⟩::rest) ⟨n,tm,bx,fr,ee⟩ Q:=
 Qr (fun b0 g a w hi=>by
  have h1:V w g fr (ev tm x) (a.eval x):=hi.ev x
  have h2:V w g fr (ev tm y) (a.eval y):=hi.ev y
  rw[hx]at h1
  rw[hy]at h2
  obtain⟨blk,cap0,hρ,hmc,hmax,hxv,hcc⟩:=VL h1
  obtain⟨blk2,cc,hρ2,_,_,hyv,_⟩:=VL h2
  obtain rfl:c=cap0:=by omega
  have hm0:=hi.mem
  obtain⟨cur,e2,s1,s2,s3,s4⟩:=hm0.rowc hρ hb
  obtain⟨cur2,e3,q1,q2,q3⟩:=hm0.bat0 b2 blk2 ds hρ2 hb2
  have hpos:0<te.size:=by simpa[Nat.blt_eq]using hpos
  have hblk:blk<w.heap.size:=(Array.getElem?_eq_some_iff.1 s1).1
  have hu:=(ZF hT ht).slice hk
  obtain⟨ie,ue,zv,i1,i2,i3,i4,i5,i6,i7⟩:=(ZF hT hte).out
  have hzz:=(YX (w:=w) (g:=g) (fr:=fr) i7).1
  have hge':=Nat.le_of_ble_eq_true hge
  subst hm hds'
  have hzp:0<c*te.size:=Nat.mul_pos hc0 hpos
  replace s2:cur.size=c*te.size:=by rcases s2 with s2|s2<;>omega
  have hcurle:l.length*te.size<=cur.size:=by rw[s2];exact Nat.mul_le_mul_right _ hmc
  have hl2:(cur.toList.take (l.length*te.size)).length=l.length*te.size:=by simp;omega
  have olds:(cur.toList.take (l.length*te.size)).length=l.length*ie.size:=by rw[<- i5];exact hl2
  have oget:∀(j:Nat) (u:Value),(cur.toList.take (l.length*te.size))[j]?=some u->cur[j]?=some u:=fun j u hu=>by
   have:j<l.length*te.size/\cur[j]?=some u:=by simpa[List.getElem?_take]using hu
   exact this.2
  have hflat:=hU.flat
  have hmul:(l.length+1)*te.size=l.length*te.size+te.size:=Nat.succ_mul _ _
  obtain⟨news,hnews⟩:∃ news,news=cur2.toList.take te.size:=⟨_,rfl⟩
  have ngot:∀(j:Nat) (u:Value),news[j]?=some u->j<te.size/\cur2[j]?=some u:=fun j u hu=>by
   rw[hnews]at hu
   simpa[List.getElem?_take]using hu
  have n1:news.length=te.size:=by rw[hnews];simp;omega
  have n1':news.length=1*te.size:=by rw[n1,Nat.one_mul]
  have n2:∀ j u,news[j]?=some u->w.cell? ((⟨blk2,0,none⟩:Addr).add j)=some u:=fun j u hu=>by
   rw[Addr.add_mid,Nat.zero_add,cell_of_row w blk2 j cur2 e3 (0,0) q1]
   exact(ngot j u hu).2
  have n4:∀(j:Nat) (d:D) (u:Value),ds[j]?=some d->news[j]?=some u->V w g fr d u:=fun j d u hd hu=>q3 j d u hd (ngot j u hu).2
  have n3:∀ u ∈ news,u.oneCell'=true:=fun u hu=>by
   obtain⟨j,hj⟩:=List.getElem?_of_mem hu
   have hjl:j<ds.length:=by rw[hds];exact(ngot j u hj).1
   exact(n4 j _ u (List.getElem?_eq_getElem hjl) hj).one (Wx ho (List.getElem?_eq_getElem hjl))
  have hdl:(D.rens (dropB b) some ds).length=te.size:=by rw[Z3,List.length_map,hds]
  have hvv:∀(w':World) (blk':Nat) (rest':List Value),(blk'=blk\/blk'=w.heap.size)->(∀ k,k<w.heap.size->k ≠ blk'->w'.heap[k]?=w.heap[k]?)->∀(j:Nat) (d:D) (v:Value),(D.ex [.mix (flat l) (D.rens (dropB b) some ds)])[j]?=some d->(cur.toList.take (l.length*te.size)++news++rest').toArray[j]?=some v->V w' ⟨g.C,g.ρ.set b blk',g.τ⟩ fr d v:=fun w' blk' rest' hbb hfar j d v hd hv=>by
   rw[List.getElem?_toArray,List.append_assoc]at hv
   rw[Il]at hd
   rcases Nat.lt_or_ge j (l.length*te.size) with hj|hj
   ·rw[List.getElem?_append_left (by rw[List.length_map,hflat];exact hj)]at hd
    rw[List.getElem?_append_left (by rw[hl2];exact hj)]at hv
    obtain⟨x2,hx2,rfl⟩:=VM hd
    have h:=V.repoint hm0 hρ hbb hfar (V.ofC (fr:=fr) (s4 j x2 v hx2 (oget j v hv)))
    unfold D.dropB at h
    rw[Kk]at h
    exact h
   ·rw[List.getElem?_append_right (by rw[List.length_map,hflat];exact hj),List.length_map,hflat,Z3,List.getElem?_map]at hd
    cases hq:ds[j-l.length*te.size]? with
    | none=>rw[hq]at hd;cases hd
    | some d0=>
     rw[hq]at hd
     injection hd with hd
     subst hd
     have hjl:=(List.getElem?_eq_some_iff.1 hq).1
     rw[List.getElem?_append_right (by rw[hl2];exact hj),hl2,List.getElem?_append_left (by rw[n1];omega)]at hv
     exact V.repoint hm0 hρ hbb hfar (n4 _ d0 v hq hv)
  have hfit:∀ N,l.length+1<=N->D.fits [.mix (flat l) (D.rens (dropB b) some ds)] (N*te.size):=fun N hN=>by
   have h3:=Nat.mul_le_mul_right te.size hN
   rw[hmul]at h3
   exact Im (by omega) (by rw[hflat,hdl];omega)
  by_cases hroom:l.length+1<=c
  ·have hfit2:l.length*ie.size+news.length<=cur.size:=by rw[n1,<- i5,s2,<- hmul];exact Nat.mul_le_mul_right _ hroom
   have hr:=WS (P:=P) w st ty e e2 ie hu i1 blk l.length c cur s1 ⟨blk2,0,none⟩ 1 cc news (by rw[<- i5];exact n1') n2 n3 hroom hfit2
   obtain⟨w',hw'⟩:∃ w',w'=w.setRow blk (cur.toList.take (l.length*ie.size)++news++cur.toList.drop (l.length*ie.size+news.length)).toArray:=⟨_,rfl⟩
   rw[<- hw']at hr
   rw[<- i5]at hw' hfit2
   have hheap:w'.heap[blk]?=some (.cells (cur.toList.take (l.length*te.size)++news++cur.toList.drop (l.length*te.size+news.length)).toArray e2 (0,0)):=by
    rw[hw'];exact setRow_heap w blk cur _ e2 _ s1
   have hsz:w'.heap.size=w.heap.size:=by rw[hw'];simp[World.setRow]
   have hfar:∀ k,k<w.heap.size->k ≠ blk->w'.heap[k]?=w.heap[k]? := fun k _ hne=>by rw[hw'];simp only[World.setRow,Array.getElem?_modify];rw[if_neg (fun e=>hne e.symm)]
   have hset:g.ρ.set b blk=g.ρ:=by
    refine List.ext_getElem? fun i=>?_
    by_cases hib:b=i
    ·subst hib;rw[List.getElem?_set_self (List.getElem?_eq_some_iff.1 hρ).1,hρ]
    ·rw[List.getElem?_set_ne hib]
   have hsize2:(cur.toList.take (l.length*te.size)++news++cur.toList.drop (l.length*te.size+news.length)).toArray.size=c*te.size:=by
    simp only[List.size_toArray,List.length_append,hl2,List.length_drop,Array.length_toList];omega
   obtain⟨q1,q2⟩:=hi.repoint (blk':=blk) (cs':=[.mix (flat l) (D.rens (dropB b) some ds)]) (w':=w') hρ hge' (.inl rfl) (by rw[hw'];rfl) (by rw[hw'];rfl) (by rw[hw'];rfl) (by rw[hsz];exact Nat.le_refl _) hfar hheap
    (by rw[hsize2];exact hfit c hroom) (hvv w' blk _ (.inl rfl) hfar)
   have e5:=UA htm
   have e6:=Yv hbx
   rw[e5,e6]at q1
   exact⟨.slice (some ⟨blk,0,none⟩) (l.length+1) c,w',_,_,_,_,_,by simp only[execOp,resolve,invoke,builtin,Sem.run_bind,Sem.run_pure,Result.andThen_ok,List.map_toArray,List.map_cons,List.map_nil,hxv,hyv,hr],q1,.bsl b 0 _ 0 blk c (by rw[hset];exact hρ) hroom hmax (.inl rfl),k⟩
  ·have hr:=run_append_grow (P:=P) w st ty e ie zv hu i1 i3 ⟨blk,0,none⟩ l.length c (cur.toList.take (l.length*te.size)) olds (fun j u hu=>by rw[Addr.add_mid,Nat.zero_add,cell_of_row w blk j cur e2 (0,0) s1];exact oget j u hu) ⟨blk2,0,none⟩ 1 cc news (by rw[<- i5];exact n1') n2 (by omega) (by simp only[maxLen]at hlen;omega) (growslice_fits (by omega) (by rw[<- i6];exact hby))
   have hgc:=grownCap_ge w (l.length+1) c e
   have hcm:=grownCap_le_maxLen w (l.length+1) c e hlen
   obtain⟨C2,hC2⟩:∃ C2,C2=grownCap w (l.length+1) c e:=⟨_,rfl⟩
   rw[<- hC2]at hr hgc hcm
   have hcurr:(cur.toList.take (l.length*te.size)).toArray++news.toArray++Builtin.zeroCells zv.cells (C2-(l.length+1))=(cur.toList.take (l.length*te.size)++news++(Builtin.zeroCells zv.cells (C2-(l.length+1))).toList).toArray:=by simp
   rw[hcurr]at hr
   obtain⟨rest',hrest⟩:∃ rest',rest'=(Builtin.zeroCells zv.cells (C2-(l.length+1))).toList:=⟨_,rfl⟩
   have hzc:zv.cells.size=ie.size:=by
    rw[<- Array.length_toList,hzz,<- i5]
    exact(VD hT hte).symm
   have hrl:rest'.length=(C2-(l.length+1))*te.size:=by rw[hrest,Array.length_toList,size_zeroCells,hzc,<- i5]
   rw[<- hrest]at hr
   obtain⟨w',hw'⟩:∃ w',w'=w.drew.alloc (.cells (cur.toList.take (l.length*te.size)++news++rest').toArray e):=⟨_,rfl⟩
   rw[<- hw']at hr
   have hheap:w'.heap[w.heap.size]?=some (.cells (cur.toList.take (l.length*te.size)++news++rest').toArray e (0,0)):=by rw[hw'];exact heap_alloc_new w.drew _
   have hfar:∀ k,k<w.heap.size->k ≠ w.heap.size->w'.heap[k]?=w.heap[k]? := fun k hk _=>by rw[hw'];exact Below.heap_alloc w.drew _ k hk
   have hsize2:(cur.toList.take (l.length*te.size)++news++rest').toArray.size=C2*te.size:=by
    simp only[List.size_toArray,List.length_append,hl2,n1',hrl,<- Nat.add_mul];congr 1;omega
   obtain⟨q1,q2⟩:=hi.repoint (blk':=w.heap.size) (cs':=[.mix (flat l) (D.rens (dropB b) some ds)]) (w':=w') hρ hge' (.inr rfl) (by rw[hw'];rfl) (by rw[hw'];rfl) (by rw[hw'];rfl) (by rw[hw'];simp) hfar hheap
    (by rw[hsize2];exact hfit C2 hgc) (hvv w' w.heap.size _ (.inr rfl) hfar)
   have e5:=UA htm
   have e6:=Yv hbx
   rw[e5,e6]at q1
   exact⟨.slice (some ⟨w.heap.size,0,none⟩) (l.length+1) C2,w',_,_,_,_,_,by simp only[execOp,resolve,invoke,builtin,Sem.run_bind,Sem.run_pure,Result.andThen_ok,List.map_toArray,List.map_cons,List.map_nil,hxv,hyv,hr],q1,.bsl b 0 _ 0 _ C2 (by show(g.ρ.set b w.heap.size)[b]?=_;rw[List.getElem?_set_self (List.getElem?_eq_some_iff.1 hρ).1]) hgc hcm (.inl rfl),k⟩) htd
def JB [Known](bx:List (List D))(fr:List Fr)(b m:Nat)(L:List E):Prop:=∀ {g:G} {w:World} {c:Nat} {v:Value},Mem g bx fr w->V w g fr (.bsl b 0 m c) v->VE w g.lent.C (.sl L) v
theorem JB.row [Known]{b m z:Nat}{l:List E}(hb:bx[b]?=some [.row z (flat l)])(hl:l.length=m):JB bx fr b m l:=fun hm h=>(V.lend hm hb hl h (U3 _ _ _)).toE1 rfl
def Vu [Known](bx:List (List D))(fr:List Fr)(d:D)(e:E):Prop:=∀ {g:G} {w:World} {v:Value},Mem g bx fr w->V w g fr d v->VE w g.lent.C e v
theorem Vu.one [Known]{d:D}{e:E}(h:d.toE1=some e):Vu bx fr d e:=fun hm hv=>(hv.toE1 h).mono (fun _ _ h=>.inl h) fun _ _ _=>rfl
theorem Vu.sl [Known]{b m c:Nat}{L:List E}(h:JB bx fr b m L):Vu bx fr (.bsl b 0 m c) (.sl L):=fun hm hv=>h hm hv
def YH [Known](bx:List (List D))(fr:List Fr):List D->List E->Prop
 | [],[]=>True
 | d::ds,e::es=>Vu bx fr d e/\YH bx fr ds es
 | _,_=>False
theorem YH.nil [Known]:YH bx fr [] []:=True.intro
theorem YH.cons [Known]{d:D}{e:E}{ds:List D}{es:List E}(h:Vu bx fr d e)(k:YH bx fr ds es):YH bx fr (d::ds) (e::es):=⟨h,k⟩
theorem YH.len [Known]:∀ {ds:List D} {es:List E},YH bx fr ds es->ds.length=es.length
 | [],[],_=>rfl
 | _::_,_::_,h=>by simp[YH.len h.2]
 | [],_::_,h=>h.elim
 | _::_,[],h=>h.elim
theorem YH.get [Known]:∀ {ds:List D} {es:List E} (j:Nat) (e:E),YH bx fr ds es->es[j]?=some e->∃ d,ds[j]?=some d/\Vu bx fr d e
 | [],[],j,e,_,he=>by simp at he
 | d::_,x::_,0,e,h,he=>by simp at he;subst he;exact⟨d,rfl,h.1⟩
 | _::ds,_::es,j+1,e,h,he=>by
  obtain⟨d,h1,h2⟩:=YH.get j e h.2 (by simpa using he)
  exact⟨d,by simpa using h1,h2⟩
 | [],_::_,_,_,h,_=>h.elim
 | _::_,[],_,_,h,_=>h.elim
theorem JB.mix [Known]{b m:Nat}{l es L:List E}{ds:List D}(hb:bx[b]?=some [.mix l ds])(hd:YH bx fr ds es)(hL:flat L=l++es)(hl:L.length=m):JB bx fr b m L:=fun {g} {w} {c} {v} hm h=>by
 obtain⟨blk,cap,hr,h1,h2,rfl,_⟩:=VL h
 obtain⟨vs,ut,r1,r2,r3,r4⟩:=hm.mixc hr hb
 subst hl
 have hfl:(flat L).length=l.length+ds.length:=by rw[hL,List.length_append,hd.len]
 refine .slC L blk 0 cap (fun j=>vs.toList.getD j undef) h1 h2 (fun j hj=>.inr (List.mem_of_getElem? hr)) (fun j hj=>?_) (fun j x hx=>?_)
 ·rw[Nat.zero_add,cell_of_row w blk j vs ut (0,0) r1]
  have:j<vs.size:=by omega
  simp[List.getD,this]
 ·have hj:=(List.getElem?_eq_some_iff.1 hx).1
  have hlt:j<vs.size:=by omega
  rw[hL]at hx
  rcases Nat.lt_or_ge j l.length with hjl|hjl
  ·rw[List.getElem?_append_left hjl]at hx
   exact(r3 j x _ hx (by simp[List.getD,hlt])).mono (fun _ _ h=>.inl h) fun _ _ _=>rfl
  ·rw[List.getElem?_append_right hjl]at hx
   obtain⟨d,hd1,hd2⟩:=hd.get _ _ hx
   exact hd2 hm (r4 (j-l.length) d _ hd1 (by rw[show l.length+(j-l.length)=j by omega];simp[List.getD,hlt]))
def LdD [Known](bx:List (List D))(fr:List Fr)(d cd:D):Prop:=∀ {g:G} {w:World} {v:Value},Mem g bx fr w->V w g fr d v->V w g.lent [] cd v
def Y4 [Known](bx:List (List D))(fr:List Fr):List D->List D->Prop
 | [],[]=>True
 | d::ds,e::es=>LdD bx fr d e/\Y4 bx fr ds es
 | _,_=>False
theorem Y4.nil [Known]:Y4 bx fr [] []:=True.intro
theorem Y4.cons [Known]{d e:D}{ds es:List D}(h:LdD bx fr d e)(k:Y4 bx fr ds es):Y4 bx fr (d::ds) (e::es):=⟨h,k⟩
theorem Y4.len [Known]:∀ {ds es:List D},Y4 bx fr ds es->ds.length=es.length
 | [],[],_=>rfl
 | _::_,_::_,h=>by simp[Y4.len h.2]
 | [],_::_,h=>h.elim
 | _::_,[],h=>h.elim
theorem Y4.get [Known]:∀ {ds es:List D} (j:Nat) (e:D),Y4 bx fr ds es->es[j]?=some e->∃ d,ds[j]?=some d/\LdD bx fr d e
 | [],[],j,e,_,he=>by simp at he
 | d::_,x::_,0,e,h,he=>by simp at he;subst he;exact⟨d,rfl,h.1⟩
 | _::ds,_::es,j+1,e,h,he=>by
  obtain⟨d,h1,h2⟩:=Y4.get j e h.2 (by simpa using he)
  exact⟨d,by simpa using h1,h2⟩
 | [],_::_,_,_,h,_=>h.elim
 | _::_,[],_,_,h,_=>h.elim
theorem LdD.one [Known]{d:D}{e:E}(h:d.toE1=some e):LdD bx fr d (.ofE e):=fun hm hv=>V.ofE ((hv.toE1 h).mono (fun _ _ h=>.inl h) fun _ _ _=>rfl)
theorem LdD.int [Known]{k:IntKind}{n:Int}:LdD bx fr (.int k n) (.int k n):=fun _ hv=>by cases hv;exact .int _ _
theorem LdD.slx [Known]{tk:Tok}{l:List E}:LdD bx fr (.sl tk l) (.sl .ext l):=LdD.one (d:=.sl tk l) (e:=.sl l) rfl
theorem LdD.sl [Known]{b m c:Nat}{L:List E}(h:JB bx fr b m L):LdD bx fr (.bsl b 0 m c) (.sl .ext L):=fun hm hv=>.sl .ext L _ (h hm hv) trivial
theorem LdD.agg [Known]{ds es:List D}(h:Y4 bx fr ds es):LdD bx fr (.agg ds) (.agg es):=fun {g} {w} {v} hm hv=>by
 cases hv with
 | agg _ vs hl hv=>
  refine .agg _ vs (by rw[hl,h.len]) fun j d v hd hu=>?_
  obtain⟨d0,h1,h2⟩:=h.get j d hd
  exact h2 hm (hv j d0 v h1 hu)
theorem Xu [Known][Dfr]{f:FuncId}{ars:Array Operand}{ats:Array TypeId}{cds:List D}{d d':D}(hAC:AP P f cds d [])(hf:Ur P f=true)
  (hL:Y4 bx fr (ars.toList.map (ev tm)) cds) (htd:Nat.blt t n=true) (hd:nf (plD d)=some d')
  (k:AL P ops rest ⟨n,(t,d')::tm,bx,fr,ee⟩ Q):AL P ops (⟨some t,.call { callee:=.value (.func f),args:=ars,argTypes:=ats },ty,pos,after,none⟩::rest) ⟨n,tm,bx,fr,ee⟩ Q:=by
 refine⟨fun b0 g a w hi=>?_⟩
 refine wpList_plain rfl fun K hK=>?_
 have hrun:(execOp a.eval ⟨some t,.call { callee:=.value (.func f),args:=ars,argTypes:=ats },ty,pos,after,none⟩).run P w=.ok (.enter f (ars.toList.map a.eval).toArray) w:=by
  have e:ars.map a.eval=(ars.toList.map a.eval).toArray:=by rw[<- Array.toList_map,Array.toArray_toList]
  have hz:=We hf (ars.toList.map a.eval).toArray w
  rw[<- e]at hz ⊢
  simpa[execOp,resolve,Act.eval,Deferred.ofValue,invoke,Sem.run_bind]using hz
 unfold Oper.wp
 rw[hrun]
 have hm:=hi.mem
 have hlen:=hL.len
 have hcall:=hAC.run g.lent w (ars.toList.map a.eval) hm.lent (by rw[<- hlen];simp) (fun j d v hd hv=>by
  obtain⟨d0,h1,h2⟩:=hL.get j d hd
  exact h2 hm (evs hi ars j d0 v h1 hv))
 refine hcall.mono fun e w' ⟨g',bx',fr',r,he,hm',hr,h1,h2,h3⟩=>?_
 subst h1
 obtain⟨q1,q2⟩:=hm.lentBack he hm'
 obtain⟨v,rfl,hv⟩:=hr
 rw[<- Yj hd]at k
 have hi2:Inv b0 ⟨n,tm,bx,fr,ee⟩ ⟨fun k o=>g'.C k o/\k ∉ g.ρ,g.ρ,g.τ⟩ a w':=⟨hi.size,hi.defers,q2,fun t=>(hi.tm t).evo q1,hi.evo.trans q1,hi.bd⟩
 exact hK _ _ (k.run b0 _ _ w' (hi2.put htd (hv.pl _ _)))
end
end Go.Av
end
section
open Go.RowKit Go.Pl Go.Av
namespace Go.Proofs.YtchlgagdbflkmaaDoor
set_option maxHeartbeats 4000000
theorem Oc [Known](bs:List UInt8)(hne:bs ≠ [])(hb:bs.length<=140737488351232):AQ Tryd.prog 33 [.sl .ext (bs.map E.byte)] [] (.bsl 0 0 (bs.map E.byte).length 0) [[.row 0 (flat (bs.map E.byte))]]:=by
 have hU:=Yo bs
 have hn:=Gk hne
 have h1:(bs.map E.byte).length<=maxLen:=by rw[List.length_map];unfold maxLen;omega
 have h2:(bs.map E.byte).length*1<=140737488355328:=by rw[List.length_map];omega
 refine AQ.weak (Zm Tryd.func33 Z Tryd.ntmps33 Z Z ?_)
 repeat'(first|(apply U0 Za;(iterate 5 exact Z);intro b hbn;(have hbn2:=hbn hn);subst hbn2;clear hbn)|refine G7 Za Z Z Z Z Z Z ?_|(apply Xl (m:=0) Za;(iterate 4 exact Z);exact(Src.sl (l:=bs.map E.byte) rfl);exact Z;exact hU;exact hn;exact Z;exact h1;exact h2;(iterate 3 exact Z))|refine Zj Za Z ?_|refine Zg Za Z ?_|refine Zv Za Z ?_|(apply Ze;exact Z;(first|with_reducible assumption|decide +kernel|(solve|simp only[bn]))))
 all_goals(apply Zu [0];(apply Zc Za;exact Z);(iterate 4 exact Z))
 all_goals rfl
theorem Od [Known](bs:List UInt8)(hne:bs ≠ [])(hb:bs.length<=140737488351232):AQ Tryd.prog 17 [.sl .ext (bs.map E.byte)] [] (.agg [.int .i64 2,.int .u64 0,.bsl 0 0 (bs.map E.byte).length 0,.sl .ext []]) [[.row 0 (flat (bs.map E.byte))]]:=by
 have hC:=Oc bs hne hb
 refine AQ.weak (Zm Tryd.func17 Z Tryd.ntmps17 Z Z ?_)
 repeat'(first|refine Uv [] hC Qk Z Z Z Z Z Z Z ?_|refine Zj Za Z ?_|refine Zg Za Z ?_)
 all_goals(apply Zu [1];(apply Zc Za;exact Z);(iterate 4 exact Z))
 all_goals rfl
theorem Je [Known]{bx:List (List D)}{fr:List Fr}{A K m c z:Nat}{l:List E}{B:List UInt8}{tk:Tok}(hA:bx[A]?=some [.mix (flat l) [.int .i64 2,.int .u64 0,.bsl K 0 (B.map E.byte).length c,.sl tk []]])(hK:bx[K]?=some [.row z (flat (B.map E.byte))])(hm:(l++[E.agg [.int .i64 2,.int .u64 0,.sl (B.map E.byte),.sl []]]).length=m) :
  JB bx fr A m (l++[.agg [.int .i64 2,.int .u64 0,.sl (B.map E.byte),.sl []]]):=
 JB.mix (es:=[.int .i64 2,.int .u64 0,.sl (B.map E.byte),.sl []]) hA (YH.cons (Vu.one rfl) (YH.cons (Vu.one rfl) (YH.cons (Vu.sl (JB.row hK rfl)) (YH.cons (Vu.one rfl) YH.nil)))) (by rw[Vi];rfl) hm
theorem Ip [Known][KnownU8](l:List It)(a:Int)(s:Nat)(hs:s=1\/s=2)(es:Yp l a=(s:Int))(h0:0<=a)(hal:a<(l.length:Int))(hws:wfs l)(hl:l.length<=1000000)(hlim:(ZC (ZI s l)).length<=1000000000)
  (hA:l.all ZB=true) (hz:ZB (ZI s l)=true) (hr:ZB (WD s l)=true) :
  AQ Tryd.prog 7 [.sl .ext (Zh l),.int .i64 a] [] (.tup [.agg [.int .i64 4,.int .u64 0,.sl .ext [],.bsl 0 0 ((Zh l).length+1) 0],.int .i64 0])
   [[.mix (flat (Zh l)) [.int .i64 2,.int .u64 0,.bsl 1 0 ((YP s (ZC (ZI s l))).map E.byte).length 0,.sl .ext []]],[.row 0 (flat ((YP s (ZC (ZI s l))).map E.byte))]]:=by
 have hlen:=Zl l
 have hU:=Yb l
 have hC:=Qn l hws hl
 have hT:=VK l hws a
 have hne:l ≠ []:=by rintro rfl;simp at hal;omega
 have t1:decide (a<0)=false:=decide_eq_false (by omega)
 have t2:decide (a ≥ ((Zh l).length:Int))=false:=decide_eq_false (by omega)
 rw[hA]at hC
 replace hC:AP Tryd.prog 14 _ (.bool false) []:=hC
 rw[es]at hT
 have hS:=Ui l s hs hne hws hl hlim
 have hL:=Xo l hne (by omega) hws
 have hsl:=Vt s (ZC (ZI s l)) hs
 have hB:=Od (YP s (ZC (ZI s l))) (by intro h;rw[h]at hsl;simp at hsl;omega) (by omega)
 have hR:=YF (WD s l) (X1 hs hws hl)
 have hmx:(Zh l).length<=1000000:=by omega
 have hlp:0<(Zh l).length:=by rw[hlen];exact List.length_pos_iff.2 hne
 have d1:decide ((s:Int)<0)=false:=decide_eq_false (by omega)
 have d2:decide ((s:Int)>0)=true:=decide_eq_true (by omega)
 have d3:decide ((s:Int) ≥ 0)=true:=decide_eq_true (by omega)
 rw[hz]at hS
 dsimp only at hS ⊢
 have eO:itD (WD s l)=.agg [.int .i64 4,.int .u64 0,.sl .ext [],.sl .ext (Zh l++[.agg [.int .i64 2,.int .u64 0,.sl ((YP s (ZC (ZI s l))).map E.byte),.sl []]])]:=by
  show D.agg [.int .i64 4,.int .u64 0,.sl .ext [],.sl .ext (Zh (l++[.mk 2 0 (YP s (ZC (ZI s l))) []]))]=_
  rw[YS]
  rfl
 rw[hr,eO]at hR
 generalize YP s (ZC (ZI s l))=SB at *
 have hm1:(Zh l++[E.agg [.int .i64 2,.int .u64 0,.sl (SB.map E.byte),.sl []]]).length=(Zh l).length+1:=by simp
 have hlen1:(Zh l).length+1<=maxLen:=by unfold maxLen;omega
 have hby1:((Zh l).length+1)*64<=140737488355328:=by omega
 refine AQ.weak (Zm Tryd.func7 Z Tryd.ntmps7 Z Z ?_)
 repeat'(first|refine Zb hC Qk Z Z Z Z ?_|refine Zb hT Qk Z Z Z Z ?_|(apply Uk (hL);kernel_rfl;exact Z;exact Z;exact(fun _=>rfl);exact(fun _=>rfl);intro c1 hc1)|refine Zb hS Qk Z Z Z Z ?_|refine Uv [] hB Qk Z Z Z Z Z Z Z ?_|refine G8 Za Z Z Z Z Z Z Z Z Z Z Z Z ?_|refine X4 Za Z Z Z Z Z Z Z Z Z Z Z (Nat.lt_of_lt_of_le hlp (by assumption)) Z hU hlen1 hby1 Z Z Z Z Z ?_|refine Xu hR Qk (Y4.cons (LdD.agg (Y4.cons LdD.int (Y4.cons LdD.int (Y4.cons LdD.slx (Y4.cons (LdD.sl (Je rfl rfl hm1)) Y4.nil))))) Y4.nil) Z Z ?_|refine Zj Za Z ?_|refine Zg Za Z ?_|refine Zv Za Z ?_|(apply Zi;(iterate 3 exact Z);(first|with_reducible assumption|decide +kernel|(solve|simp only[bn])))|(apply Zk;exact Z;(first|with_reducible assumption|decide +kernel|(solve|simp only[bn]));exact Z;exact Z)|(apply Zd;exact Z;(first|with_reducible assumption|decide +kernel|(solve|simp only[bn])))|(apply Ze;exact Z;(first|with_reducible assumption|decide +kernel|(solve|simp only[bn])))|refine Zn Za Z Z Z Z ?_|(apply Zo 5 ZG;decide +kernel;kernel_rfl;kernel_rfl;kernel_rfl;exact Z;exact Z)|(apply Zr;(iterate 4 exact Z))|exact AE.nil _ _ _ _|(apply Zt;exact Z)|(apply Z4;exact Z)|(apply Zx;exact Z;exact Z;decide +kernel;exact Z)|(apply Zz;exact Z)|(apply Yl;exact Z)|exact AO.nil _ _ _|(apply Zq;(decide +kernel))|(apply ZY;(iterate 3 exact Z))|exact AOs.nil|exact ZM rfl rfl|exact YM rfl rfl)
 all_goals(apply Zu [1,3];(apply Zc Za;exact Z);(iterate 4 exact Z))
 all_goals rfl
def UT (x:It)(a:Int):List It × Int:=match x with
 | .mk k n b l=>match ZB (.mk k n b l)&&(k==4) with
  | false=>([],3)
  | true=>match decide (Yp l a<0) with
   | true=>([],3)
   | false=>match Yp l a==0 with
    | true=>(l,0)
    | false=>match l[l.length-1]? with
     | none=>([],3)
     | some (.mk k1 n1 b1 l1)=>match decide (((l.length-1:Nat):Int)<=a)||(!(It.beq (.mk k1 n1 b1 l1) (.mk 2 0 b1 []))||((b1.length:Int) != ((2*(Yp l a).toNat:Nat):Int))) with
      | true=>([],3)
      | false=>match ZB (ZI (Yp l a).toNat (l.take (l.length-1))) with
       | false=>([],3)
       | true=>match YP (Yp l a).toNat (ZC (ZI (Yp l a).toNat (l.take (l.length-1))))==b1 with
        | false=>([],10)
        | true=>(l.take (l.length-1),0)
abbrev Hz (r:List It × Int):D:=.tup [.sl .ext (Zh r.1),.int .i64 r.2]
theorem QA:∀ {l:List It} (m:Nat),wfs l->wfs (l.take m)
 | _,0,_=>trivial
 | [],m+1,h=>h
 | x::l,m+1,h=>⟨h.1,QA m h.2⟩
theorem KB [Known][KnownU8](x:It)(a:Int)(hw:wfI x)(hxl:x.l.length<=1000000)(hlim:∀ s m,s=1\/s=2->(ZC (ZI s (x.l.take m))).length<=1000000000):AP Tryd.prog 8 [itD x,.int .i64 a] (Hz (UT x a)) []:=by
 have hR:=YF x hw
 obtain⟨k,n,b,l⟩:=x
 have hws:wfs l:=hw.2.2.2
 have hlen:=Zl l
 have hU:=Yb l
 dsimp only[It.l]at hxl hlim
 have hT:=VK l hws a
 unfold UT
 dsimp only
 cases hr:ZB (.mk k n b l) with
 | false=>
  rw[hr]at hR
  rw[Bool.false_and]
  refine AP.ofA (Zm Tryd.func8 Z Tryd.ntmps8 Z Z ?_)
  repeat'(first|refine Zb hR Qk Z Z Z Z ?_|refine Zj Za Z ?_|refine Zg Za Z ?_|refine Zv Za Z ?_|refine Zw Z Z Z Qt ?_|refine Zp Z Qt Z Z ?_|refine Zd Z Qt ?_)
  all_goals exact Qe
 | true=>
 rw[hr]at hR
 rw[Bool.true_and]
 cases tk:(k==4) with
 | false=>
  have tk2:(k != 4)=true:=by rw[bne,tk];rfl
  refine AP.ofA (Zm Tryd.func8 Z Tryd.ntmps8 Z Z ?_)
  repeat'(first|refine Zb hR Qk Z Z Z Z ?_|refine Zj Za Z ?_|refine Zg Za Z ?_|refine Zv Za Z ?_|refine Zi Z Z Z Qt ?_|refine Zk Z Qt Z Z ?_|refine Zd Z Qt ?_)
  all_goals exact Qe
 | true=>
 have tk2:(k != 4)=false:=by rw[bne,tk];rfl
 rcases US l a with e|⟨e|e,h0,h1⟩
 ·rw[e]at hT ⊢
  refine AP.ofA (Zm Tryd.func8 Z Tryd.ntmps8 Z Z ?_)
  repeat'(first|refine Zb hR Qk Z Z Z Z ?_|refine Zb hT Qk Z Z Z Z ?_|refine Zj Za Z ?_|refine Zg Za Z ?_|refine Zv Za Z ?_|refine Zi Z Z Z Qt ?_|refine Zk Z Qt Z Z ?_|refine Zd Z Qt ?_|refine Ze Z Qt ?_)
  all_goals exact Qe
 ·rw[e]at hT ⊢
  have hL:=Y2 l (by omega) hws
  replace hL:AP Tryd.prog 15 [.sl .ext (Zh l)] (.agg [.int .i64 4,.int .u64 0,.sl .ext [],.sl .ext (Zh l)]) []:=hL
  refine AP.ofA (Zm Tryd.func8 Z Tryd.ntmps8 Z Z ?_)
  repeat'(first|refine Zb hR Qk Z Z Z Z ?_|refine Zb hT Qk Z Z Z Z ?_|refine Zb hL Qk Z Z Z Z ?_|refine Zj Za Z ?_|refine Zg Za Z ?_|refine Zv Za Z ?_|refine Zi Z Z Z Qt ?_|refine Zk Z Qt Z Z ?_|refine Zd Z Qt ?_|refine Ze Z Qt ?_)
  all_goals exact Qe
 ·obtain⟨s,hs,es⟩:∃ s:Nat,(s=1\/s=2)/\Yp l a=(s:Int):=⟨(Yp l a).toNat,by omega,by omega⟩
  rw[es]at hT ⊢
  rw[Int.toNat_natCast]
  have d1:decide ((s:Int)<0)=false:=decide_eq_false (by omega)
  have d2:((s:Int)==0)=false:=by rw[beq_eq_false_iff_ne];omega
  rw[d1,d2]
  dsimp only
  obtain⟨m,hm⟩:∃ m,m=l.length-1:=⟨_,rfl⟩
  have em:IntKind.i64.wrap (((Zh l).length:Int)-1)=(m:Int):=by rw[IntWalk.i64_in _ (by omega)];omega
  rw[<- hm]
  obtain⟨⟨k1,n1,b1,l1⟩,hy⟩:∃ y,l[m]?=some y:=⟨_,List.getElem?_eq_getElem (by omega)⟩
  have hv:(Zh l)[((m:Nat):Int).toNat]?=some (.agg [.int .i64 k1,.int .u64 (n1:Int),.sl (b1.map E.byte),.sl (Zh l1)]):=by
   rw[Int.toNat_natCast,ZD,List.getElem?_map,hy];rfl
  rw[hy]
  dsimp only
  have hw1:=ZX hws _ (List.mem_of_getElem? hy)
  have hbl:(b1.map E.byte).length=b1.length:=List.length_map ..
  have hB:=Ud b1 (by have:=hw1.2.1;omega)
  have hS:=Ue (.mk k1 n1 b1 l1) hw1 (.mk 2 0 b1 []) ⟨by decide,by have:=hw1.2.1;omega,by simp,trivial⟩
  have hZ:=Qq s hs
  rw[<- hbl]
  cases t1:decide ((m:Int)<=a) with
  | true=>
   rw[Bool.true_or]
   refine AP.ofA (Zm Tryd.func8 Z Tryd.ntmps8 Z Z ?_)
   repeat'(first|refine Zb hR Qk Z Z Z Z ?_|refine Zb hT Qk Z Z Z Z ?_|rw[em]|refine Zj Za Z ?_|refine Zg Za Z ?_|refine Zv Za Z ?_|refine Zi Z Z Z Qt ?_|refine Zw Z Z Z Qt ?_|refine Zp Z Qt Z Z ?_|refine Zk Z Qt Z Z ?_|refine Zd Z Qt ?_|refine Ze Z Qt ?_|refine Zn Za Z Z Z Z ?_|(apply Zo 17 ZG;decide +kernel;kernel_rfl;kernel_rfl;kernel_rfl;exact Z;exact Z)|(apply Zr;(iterate 4 exact Z))|exact AE.nil _ _ _ _|(apply Zt;exact Z)|(apply Zx;exact Z;exact Z;decide +kernel;exact Z)|(apply Zz;exact Z)|exact AO.nil _ _ _|(apply Zq;(decide +kernel))|exact AOs.nil|exact ZM rfl rfl|(apply Zs Za;(iterate 6 exact Z);(first|exact Qt|rotate_left);(first|with_reducible assumption|decide +kernel|exact Z);(first|exact Zf rfl|with_reducible assumption|decide +kernel|rotate_left)))
   all_goals exact Qe
  | false=>
  rw[Bool.false_or]
  cases t2:It.beq (.mk k1 n1 b1 l1) (.mk 2 0 b1 []) with
  | false=>
   rw[t2]at hS
   rw[Bool.not_false,Bool.true_or]
   refine AP.ofA (Zm Tryd.func8 Z Tryd.ntmps8 Z Z ?_)
   repeat'(first|refine Zb hR Qk Z Z Z Z ?_|refine Zb hT Qk Z Z Z Z ?_|rw[em]|refine Zb hB Qk Z Z Z Z ?_|refine Zb hS Qk Z Z Z Z ?_|refine Zj Za Z ?_|refine Zg Za Z ?_|refine Zv Za Z ?_|refine Zi Z Z Z Qt ?_|refine Zw Z Z Z Qt ?_|refine Zp Z Qt Z Z ?_|refine Zk Z Qt Z Z ?_|refine Zd Z Qt ?_|refine Ze Z Qt ?_|refine Zn Za Z Z Z Z ?_|(apply Zo 17 ZG;decide +kernel;kernel_rfl;kernel_rfl;kernel_rfl;exact Z;exact Z)|(apply Zr;(iterate 4 exact Z))|exact AE.nil _ _ _ _|(apply Zt;exact Z)|(apply Zx;exact Z;exact Z;decide +kernel;exact Z)|(apply Zz;exact Z)|exact AO.nil _ _ _|(apply Zq;(decide +kernel))|exact AOs.nil|exact ZM rfl rfl|(apply Zs Za;(iterate 6 exact Z);(first|exact Qt|rotate_left);(first|with_reducible assumption|decide +kernel|exact Z);(first|exact Zf rfl|with_reducible assumption|decide +kernel|rotate_left)))
   all_goals exact Qe
  | true=>
  rw[t2]at hS
  rw[Bool.not_true,Bool.false_or]
  cases t3:(((b1.map E.byte).length:Int) != ((2*s:Nat):Int)) with
  | true=>
   refine AP.ofA (Zm Tryd.func8 Z Tryd.ntmps8 Z Z ?_)
   repeat'(first|refine Zb hR Qk Z Z Z Z ?_|refine Zb hT Qk Z Z Z Z ?_|rw[em]|refine Zb hB Qk Z Z Z Z ?_|refine Zb hS Qk Z Z Z Z ?_|refine Zb hZ Qk Z Z Z Z ?_|refine Zj Za Z ?_|refine Zg Za Z ?_|refine Zv Za Z ?_|refine Zi Z Z Z Qt ?_|refine Zk Z Qt Z Z ?_|refine Zd Z Qt ?_|refine Ze Z Qt ?_|refine Zn Za Z Z Z Z ?_|(apply Zo 17 ZG;decide +kernel;kernel_rfl;kernel_rfl;kernel_rfl;exact Z;exact Z)|(apply Zr;(iterate 4 exact Z))|exact AE.nil _ _ _ _|(apply Zt;exact Z)|(apply Zx;exact Z;exact Z;decide +kernel;exact Z)|(apply Zz;exact Z)|exact AO.nil _ _ _|(apply Zq;(decide +kernel))|exact AOs.nil|exact ZM rfl rfl|(apply Zs Za;(iterate 6 exact Z);(first|exact Qt|rotate_left);(first|with_reducible assumption|decide +kernel|exact Z);(first|exact Zf rfl|with_reducible assumption|decide +kernel|rotate_left)))
   all_goals exact Qe
  | false=>
  dsimp only
  have hne:l.take m ≠ []:=by
   intro h
   have h9:=congrArg List.length h
   rw[List.length_take,List.length_nil]at h9
   have:=of_decide_eq_false t1
   omega
  have htl:(l.take m).length<=1000000:=by rw[List.length_take];omega
  have hSu:=Ui (l.take m) s hs hne (QA m hws) htl (hlim s m hs)
  have eT:Zh (l.take m)=(Zh l).take m:=by rw[ZD,ZD,List.map_take]
  have hmle:((m:Nat):Int).toNat<=(Zh l).length:=by rw[Int.toNat_natCast];omega
  rw[eT]at hSu
  cases hz:ZB (ZI s (l.take m)) with
  | false=>
   rw[hz]at hSu
   dsimp only at hSu
   refine AP.ofA (Zm Tryd.func8 Z Tryd.ntmps8 Z Z ?_)
   repeat'(first|refine Zb hR Qk Z Z Z Z ?_|refine Zb hT Qk Z Z Z Z ?_|rw[em]|refine Zb hB Qk Z Z Z Z ?_|refine Zb hS Qk Z Z Z Z ?_|refine Zb hZ Qk Z Z Z Z ?_|refine Zb hSu Qk Z Z Z Z ?_|refine Qi Za Z Z Z Z Z Z hU (Int.natCast_nonneg _) hmle Z ?_|refine Zj Za Z ?_|refine Zg Za Z ?_|refine Zv Za Z ?_|refine Zi Z Z Z Qt ?_|refine Zk Z Qt Z Z ?_|refine Zd Z Qt ?_|refine Ze Z Qt ?_|refine Zn Za Z Z Z Z ?_|(apply Zo 17 ZG;decide +kernel;kernel_rfl;kernel_rfl;kernel_rfl;exact Z;exact Z)|(apply Zr;(iterate 4 exact Z))|exact AE.nil _ _ _ _|(apply Zt;exact Z)|(apply Zx;exact Z;exact Z;decide +kernel;exact Z)|(apply Zz;exact Z)|exact AO.nil _ _ _|(apply Zq;(decide +kernel))|exact AOs.nil|exact ZM rfl rfl|(apply Zs Za;(iterate 6 exact Z);(first|exact Qt|rotate_left);(first|with_reducible assumption|decide +kernel|exact Z);(first|exact Zf rfl|with_reducible assumption|decide +kernel|rotate_left)))
   all_goals exact Qe
  | true=>
  rw[hz]at hSu
  dsimp only at hSu ⊢
  generalize YP s (ZC (ZI s (l.take m)))=SB at *
  have hE:=O3 SB b1
  cases t4:(SB==b1) with
  | false=>
   rw[t4]at hE
   refine AP.ofA (Zm Tryd.func8 Z Tryd.ntmps8 Z Z ?_)
   repeat'(first|refine Zb hR Qk Z Z Z Z ?_|refine Zb hT Qk Z Z Z Z ?_|rw[em]|refine Zb hB Qk Z Z Z Z ?_|refine Zb hS Qk Z Z Z Z ?_|refine Zb hZ Qk Z Z Z Z ?_|refine Zb hSu Qk Z Z Z Z ?_|refine Zb hE Qk Z Z Z Z ?_|refine Qi Za Z Z Z Z Z Z hU (Int.natCast_nonneg _) hmle Z ?_|refine Zj Za Z ?_|refine Zg Za Z ?_|refine Zv Za Z ?_|refine Zi Z Z Z Qt ?_|refine Zk Z Qt Z Z ?_|refine Zd Z Qt ?_|refine Ze Z Qt ?_|refine Zn Za Z Z Z Z ?_|(apply Zo 17 ZG;decide +kernel;kernel_rfl;kernel_rfl;kernel_rfl;exact Z;exact Z)|(apply Zr;(iterate 4 exact Z))|exact AE.nil _ _ _ _|(apply Zt;exact Z)|(apply Zx;exact Z;exact Z;decide +kernel;exact Z)|(apply Zz;exact Z)|exact AO.nil _ _ _|(apply Zq;(decide +kernel))|exact AOs.nil|exact ZM rfl rfl|(apply Zs Za;(iterate 6 exact Z);(first|exact Qt|rotate_left);(first|with_reducible assumption|decide +kernel|exact Z);(first|exact Zf rfl|with_reducible assumption|decide +kernel|rotate_left)))
   all_goals exact Qe
  | true=>
   rw[t4]at hE
   have hL:=Y2 (l.take m) (by omega) (QA m hws)
   rw[eT]at hL
   replace hL:AP Tryd.prog 15 [.sl .ext ((Zh l).take m)] (.agg [.int .i64 4,.int .u64 0,.sl .ext [],.sl .ext (Zh (l.take m))]) []:=hL
   refine AP.ofA (Zm Tryd.func8 Z Tryd.ntmps8 Z Z ?_)
   repeat'(first|refine Zb hR Qk Z Z Z Z ?_|refine Zb hT Qk Z Z Z Z ?_|rw[em]|refine Zb hB Qk Z Z Z Z ?_|refine Zb hS Qk Z Z Z Z ?_|refine Zb hZ Qk Z Z Z Z ?_|refine Zb hSu Qk Z Z Z Z ?_|refine Zb hE Qk Z Z Z Z ?_|refine Zb hL Qk Z Z Z Z ?_|refine Qi Za Z Z Z Z Z Z hU (Int.natCast_nonneg _) hmle Z ?_|refine Zj Za Z ?_|refine Zg Za Z ?_|refine Zv Za Z ?_|refine Zi Z Z Z Qt ?_|refine Zk Z Qt Z Z ?_|refine Ze Z Qt ?_|refine Zn Za Z Z Z Z ?_|(apply Zo 17 ZG;decide +kernel;kernel_rfl;kernel_rfl;kernel_rfl;exact Z;exact Z)|(apply Zr;(iterate 4 exact Z))|exact AE.nil _ _ _ _|(apply Zt;exact Z)|(apply Zx;exact Z;exact Z;decide +kernel;exact Z)|(apply Zz;exact Z)|exact AO.nil _ _ _|(apply Zq;(decide +kernel))|exact AOs.nil|exact ZM rfl rfl|(apply Zs Za;(iterate 6 exact Z);(first|exact Qt|rotate_left);(first|with_reducible assumption|decide +kernel|exact Z);(first|exact Zf rfl|with_reducible assumption|decide +kernel|rotate_left)))
   all_goals exact Qe
end Go.Proofs.YtchlgagdbflkmaaDoor
end
