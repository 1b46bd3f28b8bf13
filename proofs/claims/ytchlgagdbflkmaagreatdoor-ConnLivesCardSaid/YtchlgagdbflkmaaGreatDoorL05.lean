/- Appends, said of abstract states. -/
import Derived.Test.YtchlgagdbflkmaaGreatDoorL04
set_option linter.unusedSimpArgs false
set_option linter.unusedVariables false
section
open Go.RowKit Go.Pl
namespace Go.Av
section
variable {P:Program} {Q:X->St->Prop} {n:Nat} {ee:Nat × Nat} {tm:List (Nat × D)} {bx bx':List (List D)} {fr fr':List Fr} {b0:Bs} {g:G} {w:World} {a:Act} {T:Tab}
variable {ops:Array Oper} {rest:List Oper} {t ty:Nat} {pos:String} {after:Array Edge}
theorem VE.drew {C:Nat->Nat->Prop}{e:E}{v:Value}(h:VE w C e v):VE w.drew C e v:=h.mono (fun _ _ h=>h) fun _ _ _=>rfl
theorem V.drew {d:D}{v:Value}(h:V w g fr d v):V w.drew g fr d v:=h.mono (fun _ _ h=>h) (fun _ _ _=>rfl) (fun _ _ h=>h) (VX.refl _ _)
theorem Mem.drew [Known](hm:Mem g bx fr w):Mem g bx fr w.drew where
 bl:=hm.bl
 bat i k cs h1 h2:=by
  obtain⟨vs,ty,q1,q2,q3⟩:=hm.bat i k cs h1 h2
  exact⟨vs,ty,q1,q2,fun j d v hd hv=>(q3 j d v hd hv).drew⟩
 bC:=hm.bC
 bN:=hm.bN
 tl:=hm.tl
 tat i k c f h1 h2:=by
  have h:=hm.tat i k c f h1 h2
  exact⟨h.row,h.le,h.max,h.far⟩
 tN:=hm.tN
 tρ:=hm.tρ
 Clt:=hm.Clt
 gl:=hm.gl
theorem Evo.drew:Evo ⟨g,fr,w⟩ ⟨g,fr,w.drew⟩:=⟨rfl,rfl,rfl,Nat.le_refl _,fun _ _ _=>rfl,fun _ _ h=>h,fun _ _ _=>rfl,fun _ _ h=>.inl h,fun _ _ h=>h,fun _ h=>.inl h,fun _ c h=>.inl ⟨c,h⟩,VX.refl _ _⟩
theorem OU {α:Type}{l:List α}{i:Nat}{x y:α}(h:y ∈ l.set i x):y=x\/∃ j,j ≠ i/\l[j]?=some y:=by
 obtain⟨j,hj⟩:=List.getElem?_of_mem h
 by_cases e:i=j
 ·subst e
  have hlt:i<l.length:=by have:=(List.getElem?_eq_some_iff.1 hj).1;simpa using this
  rw[List.getElem?_set_self hlt]at hj
  injection hj with hj
  exact .inl hj.symm
 ·rw[List.getElem?_set_ne e]at hj
  exact .inr ⟨j,fun h=>e h.symm,hj⟩
theorem Mem.retok [Known](hm:Mem g bx fr w){i blk' cap' st':Nat}{tt:Option (Nat × Nat × Nat)}{f f':Fr}{C':Nat->Nat->Prop}{w':World}(hτ:g.τ[i]?=some tt)(hf:fr[i]?=some f)(hn:f.n<f'.n)
  (hb:(∃ c,tt=some (blk',c))\/blk'=w.heap.size) (hos:w'.os=w.os) (htape:w'.tape=w.tape) (hout:w'.output=w.output) (hsize:w.heap.size<=w'.heap.size) (hlt':blk'<w'.heap.size)
  (hfar:∀ k,k<w.heap.size->k ≠ blk'->w'.heap[k]?=w.heap[k]?)
  (hC:∀ k o,C' k o ↔ (g.C k o\/(k=blk'/\st'<=o/\o<st'+f'.n*f'.sz)))
  (hold:∀ o,g.C blk' o->w'.cell? ⟨blk',o,none⟩=w.cell? ⟨blk',o,none⟩)
  (hT:∃ cur,w'.heap[blk']?=some (.cells cur f'.e (0,0))/\cur.size=st'+cap'*f'.sz) (hle:f'.n<=cap') (hmax:cap'<=maxLen) (hfarC:∀ o,st'+f'.n*f'.sz<=o->¬ g.C blk' o) :
  Evo ⟨g,fr,w⟩ ⟨⟨C',g.ρ,g.τ.set i (some (blk',cap',st'))⟩,fr.set i f',w'⟩/\Mem ⟨C',g.ρ,g.τ.set i (some (blk',cap',st'))⟩ bx (fr.set i f') w':=by
 have hlt:i<g.τ.length:=(List.getElem?_eq_some_iff.1 hτ).1
 have hltf:i<fr.length:=(List.getElem?_eq_some_iff.1 hf).1
 have hMb:M g blk'\/w.heap.size<=blk':=by
  rcases hb with⟨c,rfl⟩ | rfl
  ·exact .inl (.inr ⟨c,List.mem_of_getElem? hτ⟩)
  ·exact .inr (Nat.le_refl _)
 have hcell:∀ k o,g.C k o->w'.cell? ⟨k,o,none⟩=w.cell? ⟨k,o,none⟩:=fun k o h=>by
  by_cases e:k=blk'
  ·subst e;exact hold o h
  ·exact World.cell?_of_block (w:=w) (hfar k (hm.Clt k o h) e)
 have hevo:Evo ⟨g,fr,w⟩ ⟨⟨C',g.ρ,g.τ.set i (some (blk',cap',st'))⟩,fr.set i f',w'⟩:=by
  refine⟨hos,htape,hout,hsize,fun k hk hn=>hfar k hk fun e=>?_,fun k o h=>(hC k o).2 (.inl h),hcell,fun k o h=>?_,fun _ _ h=>h,fun _ h=>.inl h,fun k c h=>?_,fun j fj hj=>?_⟩
  ·subst e
   rcases hMb with h|h
   ·exact hn h
   ·have:w.heap.size<=k:=h
    have hk:k<w.heap.size:=hk
    omega
  ·rcases(hC k o).1 h with h|⟨rfl,_⟩
   ·exact .inl h
   ·rcases hMb with h|h
    ·exact .inr (.inr h)
    ·exact .inr (.inl h)
  ·rcases OU h with h|⟨j,_,h⟩
   ·injection h with h
    injection h with h1 h2
    subst h1
    rcases hb with⟨c0,rfl⟩ | rfl
    ·exact .inl ⟨c0,List.mem_of_getElem? hτ⟩
    ·exact .inr (Nat.le_refl _)
   ·exact .inl ⟨c,List.mem_of_getElem? h⟩
  ·by_cases e:i=j
   ·subst e
    rw[hf]at hj;injection hj with hj;subst hj
    exact⟨f',List.getElem?_set_self hltf,Nat.le_of_lt hn,fun e=>by omega⟩
   ·exact⟨fj,by rw[List.getElem?_set_ne e];exact hj,Nat.le_refl _,fun _=>List.getElem?_set_ne e⟩
 refine⟨hevo,?_⟩
 have hρ:blk' ∉ g.ρ:=fun h=>by
  rcases hb with⟨c,rfl⟩ | rfl
  ·exact hm.tρ _ _ (List.mem_of_getElem? hτ) h
  ·have:=hm.lt (.inl h);omega
 have hτn:∀(j:Nat) (c:Nat × Nat),j ≠ i->g.τ[j]?=some (some (blk',c))->False:=fun j c hji hj=>by
  rcases hb with⟨c0,rfl⟩ | rfl
  ·exact hji (hm.tN j i _ c c0 hj hτ)
  ·have:=hm.lt (.inr ⟨c,List.mem_of_getElem? hj⟩);omega
 constructor
 ·exact hm.bl
 ·intro j k cs h1 h2
  obtain⟨vs,ty,q1,q2,q3⟩:=hm.bat j k cs h1 h2
  have hne:k ≠ blk':=fun e=>hρ (e ▸ List.mem_of_getElem? h1)
  exact⟨vs,ty,(hfar k (Array.getElem?_eq_some_iff.1 q1).1 hne).trans q1,q2,fun j d v hd hv=>(q3 j d v hd hv).evo hevo⟩
 ·intro k o hk h
  rcases(hC k o).1 h with h|⟨rfl,_⟩
  ·exact hm.bC k o hk h
  ·exact hρ hk
 ·exact hm.bN
 ·simp[hm.tl]
 ·intro j k c fj h1 h2
  by_cases e:i=j
  ·subst e
   have h1:(g.τ.set i (some (blk',cap',st')))[i]?=some (some (k,c)):=h1
   rw[List.getElem?_set_self hlt]at h1
   injection h1 with h1
   injection h1 with h1
   injection h1 with h1 h3
   subst h1 h3
   rw[List.getElem?_set_self hltf]at h2
   injection h2 with h2
   subst h2
   refine⟨hT,hle,hmax,fun o ho h=>?_⟩
   have ho:st'+f'.n*f'.sz<=o:=ho
   rcases(hC _ o).1 h with h|⟨_,_,h⟩
   ·exact hfarC o ho h
   ·omega
  ·have h1x:(g.τ.set i (some (blk',cap',st')))[j]?=some (some (k,c)):=h1
   clear h1
   rw[List.getElem?_set_ne e]at h1x h2
   have hTk:=hm.tat j k c fj h1x h2
   obtain⟨cur,s1,s2⟩:=hTk.row
   have hne:k ≠ blk':=fun e'=>by subst e';exact hτn j c (Ne.symm e) h1x
   refine⟨⟨cur,(hfar k (Array.getElem?_eq_some_iff.1 s1).1 hne).trans s1,s2⟩,hTk.le,hTk.max,fun o ho h=>?_⟩
   rcases(hC k o).1 h with h|⟨h,_⟩
   ·exact hTk.far o ho h
   ·exact hne h
 ·intro x y k c c' h1 h2
  have hget:∀(x:Nat) (c:Nat × Nat),(g.τ.set i (some (blk',cap',st')))[x]?=some (some (k,c))->(x=i/\k=blk')\/(x ≠ i/\g.τ[x]?=some (some (k,c))):=fun x c h=>by
   by_cases e:i=x
   ·subst e
    rw[List.getElem?_set_self hlt]at h
    injection h with h
    injection h with h
    injection h with h
    exact .inl ⟨rfl,h.symm⟩
   ·rw[List.getElem?_set_ne e]at h
    exact .inr ⟨Ne.symm e,h⟩
  rcases hget x c h1 with⟨rfl,h3⟩ | ⟨hx,h3⟩<;>rcases hget y c' h2 with⟨rfl,h4⟩ | ⟨hy,h4⟩
  ·rfl
  ·subst h3;exact(hτn y c' hy h4).elim
  ·subst h4;exact(hτn x c hx h3).elim
  ·exact hm.tN x y k c c' h3 h4
 ·intro k c hk hr
  rcases OU hk with h|⟨j,_,h⟩
  ·injection h with h
   injection h with h1 h2
   subst h1
   exact hρ hr
  ·exact hm.tρ k c (List.mem_of_getElem? h) hr
 ·intro k o h
  rcases(hC k o).1 h with h|⟨rfl,_⟩
  ·have:=hm.Clt k o h
   omega
  ·exact hlt'
 ·exact hm.gl.evo hevo
theorem OV {l:List E}{sz:Nat}{v:Value}(h:VE w g.C (.sl l) v)(hU:Uni sz l)(hne:l ≠ []):∃(ad:Addr) (c:Nat) (news:List Value),v=.slice (some ad) l.length c/\news.length=l.length*sz/\(∀ j u,news[j]?=some u->w.cell? (ad.add j)=some u)/\(∀ u ∈ news,u.oneCell'=true) /\
  ∀(j:Nat) (x:E) (u:Value),(flat l)[j]?=some x->news[j]?=some u->VE w g.C x u:=by
 generalize hq:E.sl l=q at h
 cases h with
 | slC l' b off cap us h1 h2 hc hw hv=>
  injection hq with hq;subst hq
  have hfl:=hU.flat
  have hnj:∀(j:Nat) (u:Value),((List.range (l.length*sz)).map us)[j]?=some u->j<l.length*sz/\u=us j:=fun j u hu=>by
   rw[List.getElem?_map]at hu
   cases hj:(List.range (l.length*sz))[j]? with
   | none=>simp[hj]at hu
   | some j'=>
    obtain⟨q1,q2⟩:=List.getElem?_eq_some_iff.1 hj
    simp at q1 q2
    subst q2
    simp[hj]at hu
    exact⟨q1,hu.symm⟩
  refine⟨⟨b,off,none⟩,cap,(List.range (l.length*sz)).map us,rfl,by simp,fun j u hu=>?_,fun u hu=>?_,fun j x u hx hu=>?_⟩
  ·obtain⟨q1,rfl⟩:=hnj j u hu
   rw[Addr.add_mid]
   exact hw j (by omega)
  ·obtain⟨j,hj⟩:=List.getElem?_of_mem hu
   obtain⟨q1,rfl⟩:=hnj j u hj
   have:j<(flat l).length:=by omega
   exact(hv j _ (List.getElem?_eq_getElem this)).one
  ·obtain⟨q1,rfl⟩:=hnj j u hu
   exact hv j x hx
 | slE A cap h=>injection hq with hq;exact(hne hq).elim
 | _=>cases hq
theorem WO {tk:Tok}{l:List E}{v:Value}(h:V w g fr (.sl tk l) v):VE w g.C (.sl l) v/\Kw g fr tk l.length v:=by cases h;exact⟨‹_›,‹_›⟩
theorem Jk (w:World)(t ty e e2:TypeId)(i:TypeInfo)(ht:P.underlying t=some (.slice e))(hi:P.info? e=some i)
  (g off sLen sCap:Nat) (cur:Array Value) (hg:w.heap[g]?=some (.cells cur e2 (0,0)))
  (a:Addr) (m c:Nat) (news:List Value) (hl:news.length=m*i.size) (hnews:∀ j u,news[j]?=some u->w.cell? (a.add j)=some u) (h1:∀ u ∈ news,u.oneCell'=true)
  (hroom:sLen+m<=sCap) (hfit:off+sLen*i.size+news.length<=cur.size) :
  (Builtin.append_ #[t,t] ty #[.slice (some ⟨g,off,none⟩) sLen sCap,.slice (some a) m c]).run P w =
   .ok (.slice (some ⟨g,off,none⟩) (sLen+m) sCap) (w.setRow g (cur.toList.take (off+sLen*i.size)++news++cur.toList.drop (off+sLen*i.size+news.length)).toArray):=by
 have hf:=run_firstCells_some (P:=P) w i.size m a m c news hl hnews
 have hst:=run_storeCells_at P g (off+sLen*i.size) e2 news 0 cur w hg (by simpa using hfit) h1
 simp only[Nat.add_zero]at hst
 simp[Builtin.append_,run_underlying ht,sizeOf,typeInfo,hi,Builtin.lenOf,hroom,hf,Addr.add_mid,hst]
theorem Ut (A:Option Addr)(w:World)(t ty e:TypeId)(i:TypeInfo)(z:Value)(ht:P.underlying t=some (.slice e))(hi:P.info? e=some i)(hz:i.zero=some z)(a:Addr)(m c:Nat)(news:List Value)
  (hl:news.length=m*i.size) (hnews:∀ j u,news[j]?=some u->w.cell? (a.add j)=some u) (hpos:0<m) (h63:(m:Int)<=9223372036854775807) (hfit:m*i.bytes<=140737488355328) :
  (Builtin.append_ #[t,t] ty #[.slice A 0 0,.slice (some a) m c]).run P w=.ok (.slice (some ⟨w.heap.size,0,none⟩) m (grownCap w m 0 e)) (w.drew.alloc (.cells (news.toArray++Builtin.zeroCells z.cells (grownCap w m 0 e-m)) e)):=by
 cases A with
 | none=>exact run_append_nil (P:=P) w t ty e i z ht hi hz a m c news hl hnews hpos h63 (by omega)
 | some b=>
  have hr:=run_append_grow (P:=P) w t ty e i z ht hi hz b 0 0 [] (by simp) (fun j u h=>by simp at h) a m c news hl hnews (by omega) (by omega) (growslice_fits (by omega) (by rw[Nat.zero_add];exact hfit))
  simpa using hr
theorem VE.oldO {l:List E}{sz blk off cap:Nat}(h:VE w g.C (.sl l) (.slice (some ⟨blk,off,none⟩) l.length cap))(hU:Uni sz l):(∀ o,o<l.length*sz->g.C blk (off+o))/\∀(j:Nat) (x:E) (u:Value),(flat l)[j]?=some x->w.cell? ⟨blk,off+j,none⟩=some u->VE w g.C x u:=by
 have hfl:=hU.flat
 generalize hq:E.sl l=q at h
 generalize hs:Value.slice (some ⟨blk,off,none⟩) l.length cap=s at h
 cases h with
 | slC l' b off cap us h1 h2 hc hw hv=>
  injection hq with hq;subst hq
  injection hs with e1 e2 e3
  injection e1 with e1
  injection e1 with e1 e4
  subst e1 e4
  refine⟨fun o ho=>hc o (by omega),fun j x u hx hu=>?_⟩
  have hj:=(List.getElem?_eq_some_iff.1 hx).1
  have:=hw j hj
  rw[hu]at this
  injection this with this
  rw[this]
  exact hv j x hx
 | slE A cap h=>
  injection hq with hq;subst hq
  exact⟨fun o ho=>by simp at ho,fun j x u hx=>by simp at hx⟩
 | _=>cases hq
theorem VE.empty {l:List E}{A:Option Addr}(h:VE w g.C (.sl l) (.slice A 0 0)):l=[]:=by
 generalize hq:E.sl l=q at h
 generalize hs:Value.slice A 0 0=s at h
 cases h with
 | slC l' b off cap us h1 h2 hc hw hv=>
  injection hq with hq;subst hq
  injection hs with e1 e2 e3
  exact List.length_eq_zero_iff.1 e2.symm
 | slE A cap h=>injection hq
 | _=>cases hq
theorem IZ [Known]{st e i:Nat}{l l':List E}{ti te:Ti}{f:Fr}{xv yv:Value}(hT:chk P T=true)(ht:tl T st=some ti)(hk:ti.kd=.slice e)(hte:tl T e=some te)(hm:Mem g bx fr w)
  (h1:V w g fr (.sl (.own i) l) xv) {ad:Addr} {c:Nat} {news:List Value} (hyv:yv=.slice (some ad) l'.length c) (n1:news.length=l'.length*te.size) (n2:∀ j u,news[j]?=some u->w.cell? (ad.add j)=some u) (n3:∀ u ∈ news,u.oneCell'=true)
  (n4:∀(j:Nat) (x:E) (u:Value),(flat l')[j]?=some x->news[j]?=some u->VE w g.C x u)
  (hf:fr[i]?=some f) (hfn:f.n=l.length) (hfs:f.sz=te.size) (hfe:f.e=e) (hU:Uni te.size l) (hU':Uni te.size l') (hne:l' ≠ []) (hlen:l.length+l'.length<=maxLen) (hby:(l.length+l'.length)*te.bytes<=140737488355328) :
  ∃ v w' g',(Builtin.append_ #[st,st] ty #[xv,yv]).run P w=.ok v w'/\Evo ⟨g,fr,w⟩ ⟨g',fr.set i ⟨l.length+l'.length,te.size,e⟩,w'⟩/\Mem g' bx (fr.set i ⟨l.length+l'.length,te.size,e⟩) w'/\V w' g' (fr.set i ⟨l.length+l'.length,te.size,e⟩) (.sl (.own i) (l++l')) v:=by
 obtain⟨a1,a2⟩:=WO h1
 have hpos':0<l'.length:=List.length_pos_iff.2 hne
 obtain⟨f',hf',_,hfv⟩:=a2
 rw[hf]at hf';injection hf' with hf';subst hf'
 have hu:=(Z9 hT ht).slice hk
 obtain⟨ie,ue,z,i1,i2,i3,i4,i5,i6,i7⟩:=(Z9 hT hte).out
 have hz:=(Ji (w:=w) (g:=g) (fr:=fr) i7).1
 have hflat:=hU.flat
 have hll:(l++l').length=l.length+l'.length:=List.length_append
 have hUU:=hU.append hU'
 have hmul:(l.length+l'.length)*te.size=l.length*te.size+l'.length*te.size:=Nat.add_mul _ _ _
 have hltr:i<fr.length:=(List.getElem?_eq_some_iff.1 hf).1
 have hltτ:i<g.τ.length:=by rw[hm.tl];exact hltr
 have hzc:z.cells.size=ie.size:=by
  rw[<- Array.length_toList,hz,<- i5]
  exact(OR hT hte).symm
 have hfl2:(flat (l++l')).length=l.length*te.size+news.length:=by rw[hUU.flat,hll,n1,hmul]
 subst hyv
 have fresh:∀(tt:Option (Nat × Nat × Nat)) (olds:List Value) (C2:Nat),g.τ[i]?=some tt->olds.length=l.length*te.size->(∀(j:Nat) (x:E) (u:Value),(flat l)[j]?=some x->olds[j]?=some u->VE w g.C x u)->l.length+l'.length<=C2->C2<=maxLen ->
   (Builtin.append_ #[st,st] ty #[xv,.slice (some ad) l'.length c]).run P w=.ok (.slice (some ⟨w.heap.size,0,none⟩) (l.length+l'.length) C2) (w.drew.alloc (.cells (olds++news++(Builtin.zeroCells z.cells (C2-(l.length+l'.length))).toList).toArray e)) ->
   ∃ v w' g',(Builtin.append_ #[st,st] ty #[xv,.slice (some ad) l'.length c]).run P w=.ok v w'/\Evo ⟨g,fr,w⟩ ⟨g',fr.set i ⟨l.length+l'.length,te.size,e⟩,w'⟩/\Mem g' bx (fr.set i ⟨l.length+l'.length,te.size,e⟩) w'/\V w' g' (fr.set i ⟨l.length+l'.length,te.size,e⟩) (.sl (.own i) (l++l')) v:=by
  intro tt olds C2 hτ hl2 hold hge hcm hr
  obtain⟨rest',hrest⟩:∃ rest',rest'=(Builtin.zeroCells z.cells (C2-(l.length+l'.length))).toList:=⟨_,rfl⟩
  have hrl:rest'.length=(C2-(l.length+l'.length))*te.size:=by rw[hrest,Array.length_toList,size_zeroCells,hzc,<- i5]
  rw[<- hrest]at hr
  have hnew:∀(j:Nat) (x:E) (u:Value),(flat (l++l'))[j]?=some x->(olds++news)[j]?=some u->VE w g.C x u:=fun j x u hx hu=>by
   rw[JF]at hx
   rcases Nat.lt_or_ge j (l.length*te.size) with hj|hj
   ·rw[List.getElem?_append_left (by omega)]at hx
    rw[List.getElem?_append_left (by omega)]at hu
    exact hold j x u hx hu
   ·rw[List.getElem?_append_right (by omega),hflat]at hx
    rw[List.getElem?_append_right (by omega),hl2]at hu
    exact n4 _ x u hx hu
  have hheap:(w.drew.alloc (.cells (olds++news++rest').toArray e)).heap[w.heap.size]?=some (.cells (olds++news++rest').toArray e (0,0)):=heap_alloc_new w.drew _
  have hcl:∀ j,j<l.length*te.size+news.length->(w.drew.alloc (.cells (olds++news++rest').toArray e)).cell? ⟨w.heap.size,j,none⟩=(olds++news)[j]? := fun j hj=>by
   rw[cell_of_row _ w.heap.size j _ _ _ hheap]
   simp only[List.getElem?_toArray]
   rw[List.getElem?_append_left (by simp only[List.length_append,hl2];exact hj)]
  obtain⟨k1,k2⟩:=hm.retok (i:=i) (blk':=w.heap.size) (cap':=C2) (st':=0) (f:=f) (f':=⟨l.length+l'.length,te.size,e⟩) (C':=fun k o=>g.C k o\/(k=w.heap.size/\0<=o/\o<0+(l.length+l'.length)*te.size)) (w':=w.drew.alloc (.cells (olds++news++rest').toArray e)) hτ hf (by dsimp only;omega) (.inr rfl)
   rfl rfl rfl (by simp) (by simp) (fun k hk _=>Below.heap_alloc w.drew _ k hk) (fun k o=>Iff.rfl) (fun o ho=>by have:=hm.Clt _ o ho;omega)
   ⟨_,hheap,by simp only[List.size_toArray,List.length_append,hl2,n1,hrl,<- Nat.add_mul,Nat.zero_add];congr 1;omega⟩ hge hcm (fun o _ hC=>by have:=hm.Clt _ o hC;omega)
  refine⟨.slice (some ⟨w.heap.size,0,none⟩) (l.length+l'.length) C2,_,_,hr,k1,k2,?_⟩
  refine .sl _ _ _ ?_ ⟨⟨l.length+l'.length,te.size,e⟩,List.getElem?_set_self hltr,by rw[hll];exact Nat.le_refl _,fun _=>.inr ⟨w.heap.size,C2,0,by rw[hll],List.getElem?_set_self hltτ⟩⟩
  suffices hVE:VE (w.drew.alloc (.cells (olds++news++rest').toArray e)) (fun k o=>g.C k o\/(k=w.heap.size/\0<=o/\o<0+(l.length+l'.length)*te.size)) (.sl (l++l')) (.slice (some ⟨w.heap.size,0,none⟩) (l++l').length C2) by rw[hll]at hVE;exact hVE
  refine .slC _ w.heap.size 0 C2 (fun j=>(olds++news).getD j undef) (by rw[hll];exact hge) hcm (fun j hj=>.inr ⟨rfl,by omega,by rw[hfl2,n1]at hj;rw[hmul];omega⟩) (fun j hj=>?_) (fun j x hx=>?_)
  ·rw[hfl2]at hj
   rw[Nat.zero_add,hcl j hj]
   exact getD_some (by simp only[List.length_append,hl2];exact hj)
  ·have hj:=(List.getElem?_eq_some_iff.1 hx).1
   rw[hfl2]at hj
   exact(hnew j x _ hx (getD_some (by simp only[List.length_append,hl2];exact hj))).mono k1.C k1.cell
 rcases hfv hfn with⟨A,hxv,hτ⟩ | ⟨blk,cap,s0,hxv,hτ⟩
 ·
  rw[hxv]at a1
  have hl0:=a1.empty
  subst hl0 hxv
  have hr:=Ut (P:=P) A w st ty e ie z hu i1 i3 ad l'.length c news (by rw[<- i5];exact n1) n2 hpos' (by simp only[maxLen,List.length_nil]at hlen;omega) (by rw[<- i6];simpa using hby)
  have hge:=grownCap_ge w l'.length 0 e
  have hcm:=grownCap_le_maxLen w l'.length 0 e (by simpa using hlen)
  refine fresh none [] (grownCap w l'.length 0 e) hτ (by simp) (fun j x u hx=>by simp at hx) (by simpa using hge) hcm ?_
  rw[hr]
  simp only[List.length_nil,Nat.zero_add,List.nil_append]
  rw[show news.toArray++Builtin.zeroCells z.cells (grownCap w l'.length 0 e-l'.length)=(news++(Builtin.zeroCells z.cells (grownCap w l'.length 0 e-l'.length)).toList).toArray by simp]
 have hTk:=hm.tat i blk (cap,s0) f hτ hf
 obtain⟨cur,s1,s2⟩:=hTk.row
 rw[hfe]at s1
 have s2:cur.size=s0+cap*te.size:=by rw[<- hfs];exact s2
 have hle:f.n<=cap:=hTk.le
 rw[hfn]at hle
 have hmax:cap<=maxLen:=hTk.max
 have hfar:∀ o,s0+l.length*te.size<=o->¬ g.C blk o:=by rw[<- hfn,<- hfs];exact hTk.far
 have hblk:blk<w.heap.size:=(Array.getElem?_eq_some_iff.1 s1).1
 rw[hxv]at a1
 obtain⟨o1,o2⟩:=a1.oldO hU
 have hcapm:=Nat.mul_le_mul_right te.size hle
 have hcurle:s0+l.length*te.size<=cur.size:=by rw[s2];omega
 obtain⟨olds,holds⟩:∃ olds,olds=(cur.toList.drop s0).take (l.length*te.size):=⟨_,rfl⟩
 have hl2:olds.length=l.length*te.size:=by rw[holds];simp;omega
 have oget:∀(j:Nat) (u:Value),olds[j]?=some u->w.cell? ⟨blk,s0+j,none⟩=some u:=fun j u hu=>by
  rw[cell_of_row w blk (s0+j) cur e (0,0) s1]
  rw[holds]at hu
  have:j<l.length*te.size/\cur[s0+j]?=some u:=by simpa[List.getElem?_take]using hu
  exact this.2
 by_cases hroom:l.length+l'.length<=cap
 ·
  have hroom':=Nat.mul_le_mul_right te.size hroom
  have hfit:s0+l.length*ie.size+news.length<=cur.size:=by rw[n1,<- i5,s2];omega
  have hr:=Jk (P:=P) w st ty e e ie hu i1 blk s0 l.length cap cur s1 ad l'.length c news (by rw[<- i5];exact n1) n2 n3 hroom hfit
  obtain⟨w',hw'⟩:∃ w',w'=w.setRow blk (cur.toList.take (s0+l.length*ie.size)++news++cur.toList.drop (s0+l.length*ie.size+news.length)).toArray:=⟨_,rfl⟩
  rw[<- hw']at hr
  rw[<- i5]at hw' hfit
  have hheap:w'.heap[blk]?=some (.cells (cur.toList.take (s0+l.length*te.size)++news++cur.toList.drop (s0+l.length*te.size+news.length)).toArray e (0,0)):=by
   rw[hw'];exact setRow_heap w blk cur _ e _ s1
  have hsz:w'.heap.size=w.heap.size:=by rw[hw'];simp[World.setRow]
  have hl3:(cur.toList.take (s0+l.length*te.size)).length=s0+l.length*te.size:=by simp;omega
  have hcl:∀ j,j<s0+l.length*te.size+news.length->w'.cell? ⟨blk,j,none⟩=(cur.toList.take (s0+l.length*te.size)++news)[j]? := fun j hj=>by
   rw[cell_of_row w' blk j _ _ _ hheap]
   simp only[List.getElem?_toArray]
   rw[List.getElem?_append_left (by simp only[List.length_append,hl3];exact hj)]
  obtain⟨k1,k2⟩:=hm.retok (i:=i) (blk':=blk) (cap':=cap) (st':=s0) (f:=f) (f':=⟨l.length+l'.length,te.size,e⟩) (C':=fun k o=>g.C k o\/(k=blk/\s0<=o/\o<s0+(l.length+l'.length)*te.size)) (w':=w') hτ hf (by dsimp only;omega) (.inl ⟨_,rfl⟩)
   (by rw[hw'];rfl) (by rw[hw'];rfl) (by rw[hw'];rfl) (by rw[hsz];exact Nat.le_refl _) (by rw[hsz];exact hblk)
   (fun k hk hne=>by rw[hw'];simp only[World.setRow,Array.getElem?_modify];rw[if_neg (fun e=>hne e.symm)])
   (fun k o=>Iff.rfl)
   (fun o ho=>by
    have hlt:o<s0+l.length*te.size:=by
     rcases Nat.lt_or_ge o (s0+l.length*te.size) with h|h
     ·exact h
     ·exact(hfar o h ho).elim
    rw[hcl o (by omega),List.getElem?_append_left (by omega),List.getElem?_take,if_pos hlt,cell_of_row w blk o cur e (0,0) s1]
    simp)
   ⟨_,hheap,by simp only[List.size_toArray,List.length_append,hl3,List.length_drop,Array.length_toList,n1];rw[n1]at hfit;omega⟩ hroom hmax
   (fun o ho hC=>hfar o (by dsimp only at ho;omega) hC)
  refine⟨.slice (some ⟨blk,s0,none⟩) (l.length+l'.length) cap,w',_,by rw[hxv];exact hr,k1,k2,?_⟩
  refine .sl _ _ _ ?_ ⟨⟨l.length+l'.length,te.size,e⟩,List.getElem?_set_self hltr,by rw[hll];exact Nat.le_refl _,fun _=>.inr ⟨blk,cap,s0,by rw[hll],List.getElem?_set_self hltτ⟩⟩
  suffices hVE:VE w' (fun k o=>g.C k o\/(k=blk/\s0<=o/\o<s0+(l.length+l'.length)*te.size)) (.sl (l++l')) (.slice (some ⟨blk,s0,none⟩) (l++l').length cap) by rw[hll]at hVE;exact hVE
  have hget:∀ j,j<l.length*te.size+news.length->(cur.toList.take (s0+l.length*te.size)++news)[s0+j]?=(olds++news)[j]? := fun j hj=>by
   rcases Nat.lt_or_ge j (l.length*te.size) with h|h
   ·rw[List.getElem?_append_left (by omega),List.getElem?_append_left (by omega),holds,List.getElem?_take,List.getElem?_take,if_pos (by omega),if_pos h,List.getElem?_drop]
   ·rw[List.getElem?_append_right (by omega),List.getElem?_append_right (by omega),hl2,hl3]
    congr 1
    omega
  have hnew:∀(j:Nat) (x:E) (u:Value),(flat (l++l'))[j]?=some x->(olds++news)[j]?=some u->VE w g.C x u:=fun j x u hx hu=>by
   rw[JF]at hx
   rcases Nat.lt_or_ge j (l.length*te.size) with hj|hj
   ·rw[List.getElem?_append_left (by omega)]at hx
    rw[List.getElem?_append_left (by omega)]at hu
    exact o2 j x u hx (oget j u hu)
   ·rw[List.getElem?_append_right (by omega),hflat]at hx
    rw[List.getElem?_append_right (by omega),hl2]at hu
    exact n4 _ x u hx hu
  refine .slC _ blk s0 cap (fun j=>(olds++news).getD j undef) (by rw[hll];exact hroom) hmax (fun j hj=>.inr ⟨rfl,by omega,by rw[hfl2,n1]at hj;rw[hmul];omega⟩) (fun j hj=>?_) (fun j x hx=>?_)
  ·rw[hfl2]at hj
   rw[hcl (s0+j) (by omega),hget j hj]
   exact getD_some (by simp only[List.length_append,hl2];exact hj)
  ·have hj:=(List.getElem?_eq_some_iff.1 hx).1
   rw[hfl2]at hj
   exact(hnew j x _ hx (getD_some (by simp only[List.length_append,hl2];exact hj))).mono k1.C k1.cell
 ·
  have hr:=run_append_grow (P:=P) w st ty e ie z hu i1 i3 ⟨blk,s0,none⟩ l.length cap olds (by rw[<- i5];exact hl2) (fun j u hu=>by rw[Addr.add_mid];exact oget j u hu) ad l'.length c news (by rw[<- i5];exact n1) n2 (by omega) (by simp only[maxLen]at hlen;omega) (growslice_fits (by omega) (by rw[<- i6];exact hby))
  have hge:=grownCap_ge w (l.length+l'.length) cap e
  have hcm:=grownCap_le_maxLen w (l.length+l'.length) cap e hlen
  refine fresh _ olds (grownCap w (l.length+l'.length) cap e) hτ hl2 (fun j x u hx hu=>o2 j x u hx (oget j u hu)) hge hcm ?_
  rw[hxv,hr]
  rw[show olds.toArray++news.toArray++Builtin.zeroCells z.cells (grownCap w (l.length+l'.length) cap e-(l.length+l'.length))=(olds++news++(Builtin.zeroCells z.cells (grownCap w (l.length+l'.length) cap e-(l.length+l'.length))).toList).toArray by simp]
theorem ZJ [Known][Dfr](hT:chk P T=true){x y:Operand}{st e i:Nat}{l l':List E}{tk:Tok}{ti te:Ti}{f:Fr}(ht:tl T st=some ti)(hk:ti.kd=.slice e)(hte:tl T e=some te)(hx:ev tm x=.sl (.own i) l)(hy:ev tm y=.sl tk l')
  (hf:fr[i]?=some f) (hfn:f.n=l.length) (hfs:f.sz=te.size) (hfe:f.e=e) (hU:Uni te.size l) (hU':Uni te.size l') (hne:l' ≠ []) (hlen:l.length+l'.length<=maxLen) (hby:(l.length+l'.length)*te.bytes<=140737488355328)
  (hfr:nfl (fr.set i ⟨l.length+l'.length,te.size,e⟩)=some fr') (htd:Nat.blt t n=true)
  (k:AL P ops rest ⟨n,(t,.sl (.own i) (l++l'))::tm,bx,fr',ee⟩ Q):AL P ops (⟨some t,.call { callee:=.builtin .append,args := #[x,y],argTypes := #[st,st] },ty,pos,after,none⟩::rest) ⟨n,tm,bx,fr,ee⟩ Q:=
 Jj _ htd (fun g a w hi=>by
  have h1:V w g fr (ev tm x) (a.eval x):=hi.ev x
  have h2:V w g fr (ev tm y) (a.eval y):=hi.ev y
  rw[hx]at h1
  rw[hy]at h2
  obtain⟨b1,_⟩:=WO h2
  obtain⟨ad,c,news,hyv,n1,n2,n3,n4⟩:=OV b1 hU' hne
  obtain⟨v,w',g',hr,k1,k2,k3⟩:=IZ (st:=st) (ty:=ty) hT ht hk hte hi.mem h1 hyv n1 n2 n3 n4 hf hfn hfs hfe hU hU' hne hlen hby
  rw[<- YO hfr]
  exact⟨v,w',g',by simp only[execOp,resolve,invoke,builtin,Sem.run_bind,Sem.run_pure,Result.andThen_ok,List.map_toArray,List.map_cons,List.map_nil,hr],k1,k2,k3⟩) k
def emp:D->Bool
 | .sl t []=>match t with
  | .nil=>true
  | .zero=>true
  | _=>false
 | _=>false
theorem Hd {d:D}{v:Value}(h:V w g fr d v)(he:emp d=true):∃ A:Option Addr,v=.slice A 0 0:=by
 cases h with
 | sl t l v h hk=>
  cases l with
  | cons x l=>cases he
  | nil=>
   cases t with
   | nil=>exact⟨_,hk⟩
   | zero=>exact hk
   | ext=>cases he
   | own i=>cases he
 | _=>cases he
def Src [Known](bx:List (List D))(sz:Nat)(d:D)(l:List E):Prop:=∀ {g:G} {fr:List Fr} {w:World} {v:Value},Mem g bx fr w->V w g fr d v->Uni sz l->l ≠ [] ->
 ∃(ad:Addr) (c:Nat) (news:List Value),v=.slice (some ad) l.length c/\news.length=l.length*sz/\(∀ j u,news[j]?=some u->w.cell? (ad.add j)=some u)/\(∀ u ∈ news,u.oneCell'=true) /\
  ∀(j:Nat) (x:E) (u:Value),(flat l)[j]?=some x->news[j]?=some u->VE w g.C x u
theorem Src.sl [Known]{bx:List (List D)}{sz:Nat}{d:D}{tk:Tok}{l:List E}(h:d=.sl tk l):Src bx sz d l:=fun _ hv hU hne=>by
 subst h
 exact OV (WO hv).1 hU hne
theorem J6 [Known][Dfr](hT:chk P T=true){x y:Operand}{st e m:Nat}{l':List E}{ti te:Ti}(ht:tl T st=some ti)(hk:ti.kd=.slice e)(hte:tl T e=some te)(hx:emp (ev tm x)=true)(hy:Src bx te.size (ev tm y) l')
  (hpos:Nat.blt 0 te.size=true) (hU':Uni te.size l') (hne:l' ≠ []) (hlen:l'.length<=maxLen) (hby:l'.length*te.bytes<=140737488355328)
  (hm:fr.length=m) (hfr:nfl (fr++[⟨l'.length,te.size,e⟩])=some fr') (htd:Nat.blt t n=true)
  (k:AL P ops rest ⟨n,(t,.sl (.own m) l')::tm,bx,fr',ee⟩ Q):AL P ops (⟨some t,.call { callee:=.builtin .append,args := #[x,y],argTypes := #[st,st] },ty,pos,after,none⟩::rest) ⟨n,tm,bx,fr,ee⟩ Q:=
 Jj _ htd (fun g a w hi=>by
  have h1:V w g fr (ev tm x) (a.eval x):=hi.ev x
  have h2:V w g fr (ev tm y) (a.eval y):=hi.ev y
  obtain⟨A0,hxv⟩:=Hd h1 hx
  obtain⟨ad,c,news,hyv,n1,n2,n3,n4⟩:=hy hi.mem h2 hU' hne
  have hpos':0<l'.length:=List.length_pos_iff.2 hne
  have hpos:0<te.size:=by simpa[Nat.blt_eq]using hpos
  have hu:=(Z9 hT ht).slice hk
  obtain⟨ie,ue,z,i1,i2,i3,i4,i5,i6,i7⟩:=(Z9 hT hte).out
  have hr:=Ut (P:=P) A0 w st ty e ie z hu i1 i3 ad l'.length c news (by rw[<- i5];exact n1) n2 hpos' (by simp only[maxLen]at hlen;omega) (by rw[<- i6];omega)
  have hge:=grownCap_ge w l'.length 0 e
  have hcm:=grownCap_le_maxLen w l'.length 0 e hlen
  obtain⟨C2,hC2⟩:∃ C2,C2=grownCap w l'.length 0 e:=⟨_,rfl⟩
  rw[<- hC2]at hr hge hcm
  have hcurr:news.toArray++Builtin.zeroCells z.cells (C2-l'.length)=(news++(Builtin.zeroCells z.cells (C2-l'.length)).toList).toArray:=by simp
  rw[hcurr]at hr
  have hz:=(Ji (w:=w) (g:=g) (fr:=fr) i7).1
  have hzc:z.cells.size=ie.size:=by
   rw[<- Array.length_toList,hz,<- i5]
   exact(OR hT hte).symm
  have hfl:=hU'.flat
  have hd:Mem g bx fr w.drew:=hi.mem.drew
  have hzl:(Builtin.zeroCells z.cells (C2-l'.length)).toList.length=(C2-l'.length)*te.size:=by rw[Array.length_toList,size_zeroCells,hzc,<- i5]
  obtain⟨k1,k2,k3⟩:=hd.row (news++(Builtin.zeroCells z.cells (C2-l'.length)).toList) l' C2 te.size e hpos (by
   rw[List.length_append,hzl,n1,<- Nat.add_mul]
   congr 1;omega) hge hcm hU' (fun j x u hx hu=>by
    have hj:=(List.getElem?_eq_some_iff.1 hx).1
    rw[List.getElem?_append_left (by omega)]at hu
    exact(n4 j x u hx hu).drew)
  have e1:=YO hfr
  subst e1 hm
  exact⟨.slice (some ⟨w.heap.size,0,none⟩) l'.length C2,_,_,by simp only[execOp,resolve,invoke,builtin,Sem.run_bind,Sem.run_pure,Result.andThen_ok,List.map_toArray,List.map_cons,List.map_nil,hxv,hyv,hr],Evo.drew.trans k1,k2,k3⟩) k
theorem Z3 [Known][Dfr](hT:chk P T=true){x y:Operand}{st e m:Nat}{l':List E}{tk:Tok}{ti te:Ti}(ht:tl T st=some ti)(hk:ti.kd=.slice e)(hte:tl T e=some te)(hx:ev tm x=.sl .nil [])(hy:ev tm y=.sl tk l')
  (hpos:Nat.blt 0 te.size=true) (hU':Uni te.size l') (hne:l' ≠ []) (hlen:l'.length<=maxLen) (hby:l'.length*te.bytes<=140737488355328)
  (hm:fr.length=m) (hfr:nfl (fr++[⟨l'.length,te.size,e⟩])=some fr') (htd:Nat.blt t n=true)
  (k:AL P ops rest ⟨n,(t,.sl (.own m) l')::tm,bx,fr',ee⟩ Q):AL P ops (⟨some t,.call { callee:=.builtin .append,args := #[x,y],argTypes := #[st,st] },ty,pos,after,none⟩::rest) ⟨n,tm,bx,fr,ee⟩ Q:=
 J6 hT ht hk hte (by rw[hx];rfl) (Src.sl hy) hpos hU' hne hlen hby hm hfr htd k
theorem ZN [Known][Dfr](hT:chk P T=true){x y:Operand}{st e:Nat}{l:List E}{tk tk':Tok}{ti te:Ti}(ht:tl T st=some ti)(hk:ti.kd=.slice e)(hte:tl T e=some te)(hx:ev tm x=.sl tk l)(hy:ev tm y=.sl tk' [])(htd:Nat.blt t n=true)
  (k:AL P ops rest ⟨n,(t,.sl tk l)::tm,bx,fr,ee⟩ Q):AL P ops (⟨some t,.call { callee:=.builtin .append,args := #[x,y],argTypes := #[st,st] },ty,pos,after,none⟩::rest) ⟨n,tm,bx,fr,ee⟩ Q:=
 Z6 _ htd (fun g a w hi=>by
  have h1:V w g fr (ev tm x) (a.eval x):=hi.ev x
  have h2:V w g fr (ev tm y) (a.eval y):=hi.ev y
  rw[hx]at h1
  rw[hy]at h2
  obtain⟨b1,_⟩:=WO h2
  refine⟨a.eval x,?_,h1⟩
  obtain⟨a1,_⟩:=WO h1
  have hu:=(Z9 hT ht).slice hk
  obtain⟨ie,ue,z,i1,i2,i3,i4,i5,i6,i7⟩:=(Z9 hT hte).out
  obtain⟨A,cap,hyv⟩:∃ A cap,a.eval y=.slice A 0 cap:=by
   generalize hq:E.sl []=q at b1
   generalize a.eval y=v at b1
   cases b1 with
   | slE A cap h=>exact⟨A,cap,rfl⟩
   | slC l' b off cap us _ _ _ _ _=>injection hq with hq;subst hq;exact⟨_,cap,rfl⟩
   | _=>cases hq
  obtain⟨A',m,cap',hxv,hle⟩:∃ A m cap,a.eval x=.slice A m cap/\m<=cap:=by
   generalize hq:E.sl l=q at a1
   generalize a.eval x=v at a1
   cases a1 with
   | slE A cap h=>exact⟨A,0,cap,rfl,Nat.zero_le _⟩
   | slC l' b off cap us h1 _ _ _ _=>exact⟨_,_,cap,rfl,h1⟩
   | _=>cases hq
  rw[hxv]
  have hrun:(Builtin.append_ #[st,st] ty #[.slice A' m cap',.slice A 0 cap]).run P w=.ok (.slice A' m cap') w:=by
   cases A'<;>cases A<;>simp[Builtin.append_,run_underlying hu,sizeOf,typeInfo,i1,Builtin.lenOf,Builtin.firstCells,loadCells,loadCellsFrom,storeCells,hle]
  simp only[execOp,resolve,invoke,builtin,Sem.run_bind,Sem.run_pure,Result.andThen_ok,List.map_toArray,List.map_cons,List.map_nil,hxv,hyv,hrun]) k
end
end Go.Av
end
section
open Go.RowKit Go.Pl
namespace Go.Av
section
variable {P:Program} {Q:X->St->Prop} {n:Nat} {ee:Nat × Nat} {tm:List (Nat × D)} {bx bx':List (List D)} {fr fr':List Fr} {b0:Bs} {g:G} {w:World} {a:Act} {T:Tab}
variable {ops:Array Oper} {rest:List Oper} {t ty:Nat} {pos:String} {after:Array Edge}
theorem ZF [Known][Dfr](hT:chk P T=true){x y:Operand}{st e:Nat}{k:IntKind}{i:Int}{tk:Tok}{l:List E}{ti te:Ti}{v:E}(hx:ev tm x=.sl tk l)(hy:ev tm y=.int k i)(ht:tl T st=some ti)(hk:ti.kd=.slice e)(hte:tl T e=some te)(htd:Nat.blt t n=true)
  (h0:0<=i) (hv:l[i.toNat]?=some v) (hU:Uni te.size l)
  (kk:AL P ops rest ⟨n,(t,.eptr v.cells 0)::tm,bx,fr,ee⟩ Q):AL P ops (⟨some t,.indexAddr st x y,ty,pos,after,none⟩::rest) ⟨n,tm,bx,fr,ee⟩ Q:=
 Z6 _ htd (fun g a w hi=>by
  have h1:V w g fr (ev tm x) (a.eval x):=hi.ev x
  rw[hx]at h1
  have h2:V w g fr (ev tm y) (a.eval y):=hi.ev y
  rw[hy]at h2
  have h2:=h2.int_inv
  obtain⟨a1,_⟩:=WO h1
  have hlt:i.toNat<l.length:=(List.getElem?_eq_some_iff.1 hv).1
  have hu:=(Z9 hT ht).slice hk
  have hsz:=Y1 (P:=P) (t:=e) (Z9 hT hte).tSize w
  have hvs:v.cells.length=te.size:=hU v (List.mem_of_getElem? hv)
  have hfl:=hU.flat
  have hle:i.toNat*te.size+te.size<=l.length*te.size:=by
   have:=Nat.mul_le_mul_right te.size (show i.toNat+1<=l.length by omega)
   rw[Nat.add_mul]at this;omega
  generalize hq:E.sl l=q at a1
  obtain⟨p,hp⟩:∃ p,p=a.eval x:=⟨_,rfl⟩
  rw[<- hp]at a1
  cases a1 with
  | slC l' b off cap us q1 q2 hc hw hvv=>
   injection hq with hq;subst hq
   have hadd:(⟨b,off,none⟩:Addr).add (i.toNat*te.size)=⟨b,off+i.toNat*te.size,none⟩:=by unfold Addr.add;split<;>simp_all
   refine⟨.pointer (some ⟨b,off+i.toNat*te.size,none⟩),?_,?_⟩
   ·have hb:0<=i/\i<(l.length:Int):=⟨h0,by omega⟩
    have hrun:(Instr.indexAt st (.slice (some ⟨b,off,none⟩) l.length cap) (.int k i)).run P w=.ok (.pointer (some ⟨b,off+i.toNat*te.size,none⟩)) w:=by
     simp[Instr.indexAt,asIntOf,Sem.run_bind,run_underlying hu,hb,hsz,hadd]
    simp[execOp,<- hp,h2,Sem.run_bind,hrun]
   ·have:=V.eptr (w:=w) (g:=g) (fr:=fr) v.cells 0 b (off+i.toNat*te.size) (fun j=>us (i.toNat*te.size+j)) (fun j hj=>by rw[Nat.add_assoc];exact hc _ (by omega)) (fun j hj=>by rw[Nat.add_assoc];exact hw _ (by omega)) (fun j x hx=>by
     have hj:=(List.getElem?_eq_some_iff.1 hx).1
     exact hvv _ x ((hU.at_ hv j (by omega)).trans hx))
    simpa using this
  | slE A cap h=>injection hq with hq;subst hq;simp at hlt
  | _=>cases hq) kk
theorem Yo [Known][Dfr]{x y:Operand}{st:Nat}{k:IntKind}{i:Int}{s:List UInt8}{ti:Ti}{c:UInt8}(hT:chk P T=true)(hx:ev tm x=.str s)(hy:ev tm y=.int k i)(ht:tl T st=some ti)(hk:ti.kd=.str)(htd:Nat.blt t n=true)
  (h0:0<=i) (hv:s[i.toNat]?=some c)
  (kk:AL P ops rest ⟨n,(t,.int .u8 (c.toNat:Int))::tm,bx,fr,ee⟩ Q):AL P ops (⟨some t,.index st x y,ty,pos,after,none⟩::rest) ⟨n,tm,bx,fr,ee⟩ Q:=
 Z6 _ htd (fun g a w hi=>by
  have h1:V w g fr (ev tm x) (a.eval x):=hi.ev x
  rw[hx]at h1
  have h1:=h1.str_inv.1
  have h2:V w g fr (ev tm y) (a.eval y):=hi.ev y
  rw[hy]at h2
  have h2:=h2.int_inv
  have hlt:i.toNat<s.length:=(List.getElem?_eq_some_iff.1 hv).1
  have hc:=(List.getElem?_eq_some_iff.1 hv).2
  refine⟨.int .u8 (c.toNat:Int),?_,.int _ _⟩
  have hg:(⟨s.toArray⟩:ByteArray)[i.toNat]?=some c:=by
   have hlt':i.toNat<(⟨s.toArray⟩:ByteArray).size:=by show _<s.toArray.size;simpa using hlt
   rw[show((⟨s.toArray⟩:ByteArray)[i.toNat]?)=if h:i.toNat<(⟨s.toArray⟩:ByteArray).size then some ((⟨s.toArray⟩:ByteArray)[i.toNat]) else none from rfl,dif_pos hlt']
   congr 1
  have hrun:(Instr.index st (.string ⟨s.toArray⟩) (.int k i)).run P w=.ok (.int .u8 (c.toNat:Int)) w:=by
   simp[Instr.index,asIntOf,Sem.run_bind,run_underlying ((Z9 hT ht).str hk),h0,hg]
  simp[execOp,h1,h2,Sem.run_bind,hrun]) kk
theorem Zz [Known][Dfr]{x:Operand}{st:Nat}{tk:Tok}{l:List E}{ti:Ti}{e:Nat}(hT:chk P T=true)(hx:ev tm x=.sl tk l)(ht:tl T st=some ti)(hk:ti.kd=.slice e)(htd:Nat.blt t n=true)
  (kk:AL P ops rest ⟨n,(t,.int .i64 (l.length:Int))::tm,bx,fr,ee⟩ Q):AL P ops (⟨some t,.call { callee:=.builtin .len,args := #[x],argTypes := #[st] },ty,pos,after,none⟩::rest) ⟨n,tm,bx,fr,ee⟩ Q:=
 Z6 _ htd (fun g a w hi=>by
  have h1:V w g fr (ev tm x) (a.eval x):=hi.ev x
  rw[hx]at h1
  obtain⟨a1,_⟩:=WO h1
  obtain⟨A,cap,hv⟩:∃ A cap,a.eval x=.slice A l.length cap:=by
   generalize hq:E.sl l=q at a1
   generalize a.eval x=v at a1
   cases a1 with
   | slC l' b off cap us _ _ _ _ _=>injection hq with hq;subst hq;exact⟨_,cap,rfl⟩
   | slE A cap h=>injection hq with hq;subst hq;exact⟨A,cap,rfl⟩
   | _=>cases hq
  refine⟨.int .i64 (l.length:Int),?_,.int _ _⟩
  simp[execOp,resolve,invoke,builtin,Builtin.len_,Sem.run_bind,hv,run_underlying ((Z9 hT ht).slice hk),goInt]) kk
theorem ZG [Known][Dfr]{x:Operand}{st:Nat}{s:List UInt8}{ti:Ti}(hT:chk P T=true)(hx:ev tm x=.str s)(ht:tl T st=some ti)(hk:ti.kd=.str)(htd:Nat.blt t n=true)
  (kk:AL P ops rest ⟨n,(t,.int .i64 (s.length:Int))::tm,bx,fr,ee⟩ Q):AL P ops (⟨some t,.call { callee:=.builtin .len,args := #[x],argTypes := #[st] },ty,pos,after,none⟩::rest) ⟨n,tm,bx,fr,ee⟩ Q:=
 Z6 _ htd (fun g a w hi=>by
  have h1:V w g fr (ev tm x) (a.eval x):=hi.ev x
  rw[hx]at h1
  have h1:=h1.str_inv.1
  refine⟨.int .i64 (s.length:Int),?_,.int _ _⟩
  have hs:(⟨s.toArray⟩:ByteArray).size=s.length:=by show s.toArray.size=_;simp
  simp[execOp,resolve,invoke,builtin,Builtin.len_,Sem.run_bind,h1,run_underlying ((Z9 hT ht).str hk),goInt,hs]) kk
inductive Bnd (tm:List (Nat × D)):Option Operand->Nat->Nat->Prop
 | dft (d:Nat):Bnd tm none d d
 | lit (x:Operand) (d:Nat) (k:IntKind) (i:Int) (h:ev tm x=.int k i) (h0:0<=i):Bnd tm (some x) d i.toNat
theorem Bnd.val [Known][Dfr]{S:St}{x:Operand}{k:IntKind}{i:Int}(hi:Inv b0 S g a w)(h:ev S.tm x=.int k i):a.eval x=.int k i:=by
 have h1:V w g S.fr (ev S.tm x) (a.eval x):=hi.ev x
 rw[h]at h1
 exact h1.int_inv
theorem Bnd.runs [Known][Dfr]{S:St}{lo hi':Option Operand}{p q len cap:Nat}(hlo:Bnd S.tm lo 0 p)(hhi:Bnd S.tm hi' len q)(hi:Inv b0 S g a w)(hpq:p<=q)(hq:q<=cap)(b:Bool) :
  (Instr.sliceBounds b len cap (lo.map a.eval) (hi'.map a.eval) none).run P w=.ok (p,q,cap) w:=by
 cases hlo with
 | dft=>
  cases hhi with
  | dft=>rfl
  | lit y _ k' j h' h0'=>
   have hb:0<=j/\j<=(cap:Int):=⟨h0',by omega⟩
   simp[Instr.sliceBounds,Bnd.val hi h',Instr.sliceBound,asIntOf,Sem.run_bind,hb]
 | lit x _ k i h h0=>
  cases hhi with
  | dft=>
   have hb:0<=i/\i<=(q:Int):=⟨h0,by omega⟩
   simp[Instr.sliceBounds,Bnd.val hi h,Instr.sliceBound,asIntOf,Sem.run_bind,hb]
  | lit y _ k' j h' h0'=>
   have hb:0<=j/\j<=(cap:Int):=⟨h0',by omega⟩
   have hb2:0<=i/\i<=((j.toNat:Nat):Int):=⟨h0,by omega⟩
   simp only[Instr.sliceBounds,Option.map_some,Bnd.val hi h,Bnd.val hi h',Instr.sliceBound,asIntOf,Sem.run_bind,Sem.run_pure,Result.andThen_ok,if_pos hb,if_pos hb2]
theorem W9 [Known][Dfr](hT:chk P T=true){x:Operand}{st e:Nat}{tk:Tok}{l l2:List E}{lo hi':Option Operand}{p q:Nat}{ti te:Ti}(hx:ev tm x=.sl tk l)(ht:tl T st=some ti)(hk:ti.kd=.slice e)(hte:tl T e=some te)(htd:Nat.blt t n=true)
  (hlo:Bnd tm lo 0 p) (hhi:Bnd tm hi' l.length q) (hpq:p<=q) (hq:q<=l.length) (hU:Uni te.size l) (hl2:(l.take q).drop p=l2)
  (kk:AL P ops rest ⟨n,(t,.sl .ext l2)::tm,bx,fr,ee⟩ Q):AL P ops (⟨some t,.slice st x lo hi' none,ty,pos,after,none⟩::rest) ⟨n,tm,bx,fr,ee⟩ Q:=
 Z6 _ htd (fun g a w hi=>by
  have h1:V w g fr (ev tm x) (a.eval x):=hi.ev x
  rw[hx]at h1
  obtain⟨a1,_⟩:=WO h1
  have hu:=(Z9 hT ht).slice hk
  have hsz:=Y1 (P:=P) (t:=e) (Z9 hT hte).tSize w
  obtain⟨A,cap,hv,hcap⟩:∃ A cap,a.eval x=.slice A l.length cap/\l.length<=cap:=by
   generalize hq:E.sl l=q at a1
   generalize a.eval x=v at a1
   cases a1 with
   | slC l' b off cap us h1 _ _ _ _=>injection hq with hq;subst hq;exact⟨_,cap,rfl,h1⟩
   | slE A cap h=>injection hq with hq;subst hq;exact⟨A,cap,rfl,Nat.zero_le _⟩
   | _=>cases hq
  have hb:=Bnd.runs (S:=⟨n,tm,bx,fr,_⟩) (P:=P) (cap:=cap) hlo hhi hi hpq (by omega) true
  refine⟨.slice (if cap=p then A else A.map (·.add (p*te.size))) (q-p) (cap-p),?_,?_⟩
  ·have hrun:(Instr.sliceAt st (.slice A l.length cap) (lo.map a.eval) (hi'.map a.eval) none).run P w=.ok (.slice (if cap=p then A else A.map (·.add (p*te.size))) (q-p) (cap-p)) w:=by
    simp[Instr.sliceAt,Instr.slice,Sem.run_bind,run_underlying hu,hb,hsz]
   simp only[execOp,hv,Sem.run_bind,Option.map_none,hrun,Result.andThen_ok]
   rfl
  ·subst hl2
   have hlen:((l.take q).drop p).length=q-p:=by simp;omega
   refine .sl _ _ _ ?_ trivial
   by_cases he:q-p=0
   ·have hnil:(l.take q).drop p=[]:=List.eq_nil_of_length_eq_zero (by rw[hlen];exact he)
    rw[hnil,he]
    refine .slE _ _ ?_
    generalize hq':E.sl l=qq at a1
    rw[hv]at a1
    generalize hs:Value.slice A l.length cap=s at a1
    cases a1 with
    | slC l' b off cap us h1 h2 _ _ _=>injection hs with _ _ e;omega
    | slE A cap h=>injection hs with _ _ e;omega
    | _=>cases hq'
   ·have hpc:¬ cap=p:=by omega
    rw[if_neg hpc,<- hlen]
    generalize hq':E.sl l=qq at a1
    rw[hv]at a1
    generalize hs:Value.slice A l.length cap=s at a1
    cases a1 with
    | slC l' b off cap' us h1 h2 hc hw hvv=>
     injection hq' with hq';subst hq'
     injection hs with e1 _ e3
     subst e1 e3
     have hadd:(⟨b,off,none⟩:Addr).add (p*te.size)=⟨b,off+p*te.size,none⟩:=by unfold Addr.add;split<;>simp_all
     simp only[Option.map_some,hadd]
     have hU2:Uni te.size (l.take q):=hU.sub fun e h=>List.mem_of_mem_take h
     have hf:flat ((l.take q).drop p)=((flat l).take (q*te.size)).drop (p*te.size):=by rw[hU2.drop_flat,hU.take_flat]
     have hfl:=hU.flat
     have hql:q*te.size<=l.length*te.size:=Nat.mul_le_mul_right _ hq
     have hfl2:(flat ((l.take q).drop p)).length=q*te.size-p*te.size:=by rw[hf];simp;omega
     refine .slC _ b (off+p*te.size) (cap-p) (fun j=>us (p*te.size+j)) (by omega) (by omega) (fun j hj=>by rw[Nat.add_assoc];exact hc _ (by omega)) (fun j hj=>by rw[Nat.add_assoc];exact hw _ (by omega)) (fun j x hx=>hvv _ x ?_)
     have hj:=(List.getElem?_eq_some_iff.1 hx).1
     rw[hf,List.getElem?_drop,List.getElem?_take,if_pos (by omega)]at hx
     exact hx
    | slE A cap' h=>injection hs with _ e;omega
    | _=>cases hq') kk
end
end Go.Av
end
