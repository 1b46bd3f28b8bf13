/- Rows of one's own: slices whose elements are a variable's cells; they may be stored into, appended to, and lent to calls that answer without them. -/
import Derived.Test.YtchlgagdbflkmaaDoorS10
import Derived.Test.YtchlgagdbflkmaaDoorS18
set_option linter.unusedSimpArgs false
set_option linter.unusedVariables false
section
open Go.RowKit Go.Pl
namespace Go.Av
section
variable {P:Program} {Q:X->St->Prop} {n:Nat} {ee:Nat × Nat} {tm:List (Nat × D)} {bx bx':List (List D)} {fr fr':List Fr} {b0:Bs} {g:G} {w:World} {a:Act} {T:Tab}
variable {ops:Array Oper} {rest:List Oper} {t ty:Nat} {pos:String} {after:Array Edge}
theorem VL {b o m c:Nat}{v:Value}(h:V w g fr (.bsl b o m c) v):∃ blk cap,g.ρ[b]?=some blk/\m<=cap/\cap<=maxLen/\v=.slice (some ⟨blk,o,none⟩) m cap/\(c=0\/c=cap):=by
 cases h;exact⟨_,_,‹_›,‹_›,‹_›,rfl,‹_›⟩
theorem KA [Known][Dfr]{x:Operand}{st:Nat}{b o m c:Nat}{ti:Ti}{e:Nat}(hT:chk P T=true)(hx:ev tm x=.bsl b o m c)(ht:tl T st=some ti)(hk:ti.kd=.slice e)(htd:Nat.blt t n=true)
  (kk:AL P ops rest ⟨n,(t,.int .i64 (m:Int))::tm,bx,fr,ee⟩ Q):AL P ops (⟨some t,.call { callee:=.builtin .len,args := #[x],argTypes := #[st] },ty,pos,after,none⟩::rest) ⟨n,tm,bx,fr,ee⟩ Q:=
 ZR _ htd (fun g a w hi=>by
  have h1:V w g fr (ev tm x) (a.eval x):=hi.ev x
  rw[hx]at h1
  obtain⟨blk,cap0,_,_,_,hv,_⟩:=VL h1
  refine⟨.int .i64 (m:Int),?_,.int _ _⟩
  simp[execOp,resolve,invoke,builtin,Builtin.len_,Sem.run_bind,hv,run_underlying ((ZF hT ht).slice hk),goInt]) kk
theorem Jy [Known][Dfr](hT:chk P T=true){x y:Operand}{st e:Nat}{k:IntKind}{i:Int}{b m c o2:Nat}{ti te:Ti}(hx:ev tm x=.bsl b 0 m c)(hy:ev tm y=.int k i)(ht:tl T st=some ti)(hk:ti.kd=.slice e)(hte:tl T e=some te)(htd:Nat.blt t n=true)
  (h0:0<=i) (hi2:i<(m:Int)) (ho:i.toNat*te.size=o2)
  (kk:AL P ops rest ⟨n,(t,.ptr b o2)::tm,bx,fr,ee⟩ Q):AL P ops (⟨some t,.indexAddr st x y,ty,pos,after,none⟩::rest) ⟨n,tm,bx,fr,ee⟩ Q:=
 ZR _ htd (fun g a w hi=>by
  have h1:V w g fr (ev tm x) (a.eval x):=hi.ev x
  rw[hx]at h1
  have h2:V w g fr (ev tm y) (a.eval y):=hi.ev y
  rw[hy]at h2
  have h2:=h2.int_inv
  obtain⟨blk,cap0,hb,_,_,hv,_⟩:=VL h1
  have hu:=(ZF hT ht).slice hk
  have hsz:=Z1 (P:=P) (t:=e) (ZF hT hte).tSize w
  have hadd:(⟨blk,0,none⟩:Addr).add (i.toNat*te.size)=⟨blk,o2,none⟩:=by rw[Addr.add_mid,Nat.zero_add,ho]
  refine⟨.pointer (some ⟨blk,o2,none⟩),?_,.ptr _ _ _ hb⟩
  have hrun:(Instr.indexAt st (.slice (some ⟨blk,0,none⟩) m cap0) (.int k i)).run P w=.ok (.pointer (some ⟨blk,o2,none⟩)) w:=by
   simp[Instr.indexAt,asIntOf,Sem.run_bind,run_underlying hu,(⟨h0,hi2⟩:0<=i/\i<(m:Int)),hsz,hadd]
  simp[execOp,hv,h2,Sem.run_bind,hrun]) kk
theorem Mem.rowc [Known](hm:Mem g bx fr w){b blk z:Nat}{l:List E}(hb:g.ρ[b]?=some blk)(hx:bx[b]?=some [.row z l]):∃ vs ty,w.heap[blk]?=some (.cells vs ty (0,0))/\(z=0\/vs.size=z)/\l.length<=vs.size /\
  ∀(j:Nat) (e:E) (v:Value),l[j]?=some e->vs[j]?=some v->VE w g.C e v:=by
 obtain⟨vs,ty,h1,h2,h3⟩:=hm.bat b blk _ hb hx
 refine⟨vs,ty,h1,h2.2.2 z l rfl,by have:=h2.2.1;simpa[D.ex]using this,fun j e v he hv=>(h3 j _ v ?_ hv).offC⟩
 show(l.map D.ofC)[j]?=_
 rw[List.getElem?_map,he];rfl
theorem Ja [Known][Dfr](hT:chk P T=true){x:Operand}{lt b o z:Nat}{l:List E}{e:E}{d:D}{ti:Ti}(hx:ev tm x=.ptr b o)(ht:tl T lt=some ti)(ha:ti.kd.agg=false)(hb:bx[b]?=some [.row z l])(he:l[o]?=some e)(hd:nf (.ofE e)=some d)(htd:Nat.blt t n=true)
  (kk:AL P ops rest ⟨n,(t,d)::tm,bx,fr,ee⟩ Q):AL P ops (⟨some t,.load lt x,ty,pos,after,none⟩::rest) ⟨n,tm,bx,fr,ee⟩ Q:=
 ZR _ htd (fun g a w hi=>by
  have h1:V w g fr (ev tm x) (a.eval x):=hi.ev x
  rw[hx]at h1
  obtain⟨blk,h2,h3⟩:=VC h1
  obtain⟨vs,ut,r1,r2,r3,r4⟩:=hi.mem.rowc h2 hb
  have ho:=(List.getElem?_eq_some_iff.1 he).1
  have hv:vs[o]?=some (vs[o]'(by omega)):=Array.getElem?_eq_getElem _
  have hc:w.cell? ⟨blk,o,none⟩=some (vs[o]'(by omega)):=(cell_of_row w blk o vs ut (0,0) r1).trans hv
  have hag:tAgg P lt=some false:=by rw[(ZF hT ht).tAgg,ha]
  refine⟨_,?_,by rw[<- Yj hd];exact V.ofE (r4 o e _ he hv)⟩
  simp[execOp,h3,Instr.loadAt,Instr.sureAddr,Sem.run_bind,WM hag hc]) kk
theorem Xj (f:D->D)(hf:f .junk=.junk)(x:Nat):∀ tm:List (Nat × D),look (tm.map fun p=>(p.1,f p.2)) x=f (look tm x)
 | []=>hf.symm
 | p::tm=>by
  simp only[List.map_cons,look]
  split
  ·rfl
  ·exact Xj f hf x tm
def dropB (b:Nat)(i:Nat):Option Nat:=match Nat.beq i b with
 | true=>none
 | false=>some i
abbrev D.dropB (b:Nat)(d:D):D:=d.ren (Go.Av.dropB b) some
theorem Inv.repoint [Known][Dfr]{b blk blk':Nat}{cs':List D}{w':World}{vs:Array Value}{tv:TypeId}(hi:Inv b0 ⟨n,tm,bx,fr,ee⟩ g a w)(hb:g.ρ[b]?=some blk)(hge:ee.1<=b)(hbb:blk'=blk\/blk'=w.heap.size)
  (hos:w'.os=w.os) (htape:w'.tape=w.tape) (hout:w'.output=w.output) (hsize:w.heap.size<=w'.heap.size) (hfar:∀ k,k<w.heap.size->k ≠ blk'->w'.heap[k]?=w.heap[k]?)
  (hnew:w'.heap[blk']?=some (.cells vs tv (0,0))) (hf:D.fits cs' vs.size) (hv:∀(j:Nat) (d:D) (v:Value),(D.ex cs')[j]?=some d->vs[j]?=some v->V w' ⟨g.C,g.ρ.set b blk',g.τ⟩ fr d v) :
  Inv b0 ⟨n,tm.map (fun p=>(p.1,p.2.dropB b)),(bx.map (D.rens (dropB b) some)).set b cs',fr,ee⟩ ⟨g.C,g.ρ.set b blk',g.τ⟩ a w'/\(∀ {d v},V w g fr d v->V w' ⟨g.C,g.ρ.set b blk',g.τ⟩ fr (d.dropB b) v):=by
 have hm:=hi.mem
 have hbl:b<g.ρ.length:=(List.getElem?_eq_some_iff.1 hb).1
 have hCb:∀ o,¬ g.C blk' o:=fun o hC=>by
  rcases hbb with rfl|rfl
  ·exact hm.bC blk' o (List.mem_of_getElem? hb) hC
  ·have:=hm.Clt _ o hC;omega
 have hcell:∀ k o,g.C k o->w'.cell? ⟨k,o,none⟩=w.cell? ⟨k,o,none⟩:=fun k o h=>World.cell?_of_block (w:=w) (hfar k (hm.Clt k o h) fun e=>by subst e;exact hCb o h)
 have hV:∀ {d v},V w g fr d v->V w' ⟨g.C,g.ρ.set b blk',g.τ⟩ fr (d.dropB b) v:=fun {d v} h=>by
  have h1:V w' g fr d v:=h.mono (fun _ _ h=>h) hcell (fun _ _ h=>h) (YK.refl _ _)
  refine h1.ren _ _ (fun _ _ h=>h) (fun i i' k hi' hk=>?_) (fun i j f0 hij hf0=>?_)
  ·unfold Go.Av.dropB at hi'
   split at hi'
   ·cases hi'
   ·rename_i hne
    injection hi' with e
    subst e
    have hne':b ≠ i:=fun e=>by subst e;rw[Nat.beq_refl]at hne;cases hne
    show(g.ρ.set b blk')[i]?=_
    rw[List.getElem?_set_ne hne'];exact hk
  ·injection hij with e
   subst e
   exact⟨⟨f0,hf0,rfl⟩,rfl⟩
 have hget:∀(i k:Nat),(g.ρ.set b blk')[i]?=some k->(i=b/\k=blk')\/(i ≠ b/\g.ρ[i]?=some k):=fun i k h=>by
  by_cases e:b=i
  ·subst e
   rw[List.getElem?_set_self hbl]at h
   injection h with h
   exact .inl ⟨rfl,h.symm⟩
  ·rw[List.getElem?_set_ne e]at h
   exact .inr ⟨Ne.symm e,h⟩
 have hother:∀(i:Nat),i ≠ b->g.ρ[i]?=some blk'->False:=fun i hib h=>by
  rcases hbb with rfl|rfl
  ·exact hib (hm.bN i b _ h hb)
  ·have:=hm.lt (.inl (List.mem_of_getElem? h));omega
 have htok:∀(c:Nat),(blk',c) ∈ g.τ->False:=fun c h=>by
  rcases hbb with rfl|rfl
  ·exact hm.tρ _ c h (List.mem_of_getElem? hb)
  ·have:=hm.lt (.inr ⟨c,h⟩);omega
 have he:=hi.evo
 have hge':b0.g.ρ.length<=b:=Nat.le_trans hi.bd.1 hge
 have hblt:blk'<w'.heap.size:=(Array.getElem?_eq_some_iff.1 hnew).1
 refine⟨⟨hi.size,hi.defers,⟨?_,?_,?_,?_,hm.tl,?_,hm.tN,?_,?_,?_⟩,fun x=>?_,⟨hos.trans he.os,htape.trans he.tape,hout.trans he.output,Nat.le_trans he.size hsize,fun k hk hn=>?_,he.C,fun k o h=>(hcell k o (he.C k o h)).trans (he.cell k o h),he.newC,fun i k h=>?_,fun k h=>?_,he.τn,he.tok⟩,hi.bd⟩,hV⟩
 ·simp[hm.bl]
 ·intro i k cs h1 h2
  rcases hget i k h1 with⟨rfl,rfl⟩ | ⟨hib,h3⟩
  ·rw[List.getElem?_set_self (by rw[List.length_map,<- hm.bl];exact hbl)]at h2
   injection h2 with h2
   subst h2
   exact⟨vs,tv,hnew,hf,hv⟩
  ·rw[List.getElem?_set_ne (Ne.symm hib),List.getElem?_map]at h2
   cases hc:bx[i]? with
   | none=>simp[hc]at h2
   | some cs0=>
    simp[hc]at h2
    subst h2
    obtain⟨us,ut,q1,q2,q3⟩:=hm.bat i k cs0 h3 hc
    refine⟨us,ut,(hfar k (Array.getElem?_eq_some_iff.1 q1).1 fun e=>by subst e;exact hother i hib h3).trans q1,U4 q2,fun j d v hd hv'=>?_⟩
    rw[Jr,Z3,List.getElem?_map]at hd
    cases hj:(D.ex cs0)[j]? with
    | none=>simp[hj]at hd
    | some d0=>simp[hj]at hd;subst hd;exact hV (q3 j d0 v hj hv')
 ·intro k o hk hC
  obtain⟨i,hi'⟩:=List.getElem?_of_mem hk
  rcases hget i k hi' with⟨_,rfl⟩ | ⟨_,h3⟩
  ·exact hCb o hC
  ·exact hm.bC k o (List.mem_of_getElem? h3) hC
 ·intro i j k h1 h2
  rcases hget i k h1 with⟨h3,h4⟩ | ⟨h3,h4⟩<;>rcases hget j k h2 with⟨h5,h6⟩ | ⟨h5,h6⟩
  ·omega
  ·subst h4;exact(hother j h5 h6).elim
  ·subst h6;exact(hother i h3 h4).elim
  ·exact hm.bN i j k h4 h6
 ·intro i k c f h1 h2
  have hT:=hm.tat i k c f h1 h2
  obtain⟨cur,s1,s2⟩:=hT.row
  exact⟨⟨cur,(hfar k (Array.getElem?_eq_some_iff.1 s1).1 fun e=>by subst e;exact htok c (List.mem_of_getElem? h1)).trans s1,s2⟩,hT.le,hT.max,hT.pos,hT.far⟩
 ·intro k c hk hr
  obtain⟨i,hi'⟩:=List.getElem?_of_mem hr
  rcases hget i k hi' with⟨_,rfl⟩ | ⟨_,h3⟩
  ·exact htok c hk
  ·exact hm.tρ k c hk (List.mem_of_getElem? h3)
 ·intro k o hC
  exact Nat.lt_of_lt_of_le (hm.Clt k o hC) hsize
 ·exact⟨fun k cs hk j v hv=>⟨(hm.gl.1 k cs hk j v hv).1,(hcell k j (hm.gl.1 k cs hk j v hv).1).trans (hm.gl.1 k cs hk j v hv).2⟩,fun k t hk=>⟨(hm.gl.2 k t hk).1,(hm.gl.2 k t hk).2.imp fun v hv=>(hcell k 0 (hm.gl.2 k t hk).1).trans hv⟩⟩
 ·have hl:look (tm.map fun p=>(p.1,p.2.dropB b)) x=(look tm x).dropB b:=Xj (D.dropB b) rfl x tm
  dsimp only
  rw[hl]
  exact hV (hi.tm x)
 ·have hkb:k ≠ blk':=fun e=>by
   subst e
   rcases hbb with rfl|rfl
   ·rcases he.ρn k (List.mem_of_getElem? hb) with h|h
    ·exact hn (.inl h)
    ·omega
   ·have:=he.size;dsimp only at this;omega
  exact(hfar k (Nat.lt_of_lt_of_le hk he.size) hkb).trans (he.block k hk hn)
 ·have:=(List.getElem?_eq_some_iff.1 h).1
  show(g.ρ.set b blk')[i]?=_
  rw[List.getElem?_set_ne (by omega)]
  exact he.ρp i k h
 ·obtain⟨i,hi'⟩:=List.getElem?_of_mem h
  rcases hget i k hi' with⟨_,rfl⟩ | ⟨_,h3⟩
  ·rcases hbb with rfl|rfl
   ·exact he.ρn k (List.mem_of_getElem? hb)
   ·exact .inr he.size
  ·exact he.ρn k (List.mem_of_getElem? h3)

theorem WS (w:World)(t ty e e2:TypeId)(i:TypeInfo)(ht:P.underlying t=some (.slice e))(hi:P.info? e=some i)
  (g sLen sCap:Nat) (cur:Array Value) (hg:w.heap[g]?=some (.cells cur e2 (0,0)))
  (a:Addr) (m c:Nat) (news:List Value) (hl:news.length=m*i.size) (hnews:∀ j u,news[j]?=some u->w.cell? (a.add j)=some u) (h1:∀ u ∈ news,u.oneCell'=true)
  (hroom:sLen+m<=sCap) (hfit:sLen*i.size+news.length<=cur.size) :
  (Builtin.append_ #[t,t] ty #[.slice (some ⟨g,0,none⟩) sLen sCap,.slice (some a) m c]).run P w =
   .ok (.slice (some ⟨g,0,none⟩) (sLen+m) sCap) (w.setRow g (cur.toList.take (sLen*i.size)++news++cur.toList.drop (sLen*i.size+news.length)).toArray):=by
 have hf:=run_firstCells_some (P:=P) w i.size m a m c news hl hnews
 have hst:=run_storeCells_at P g (sLen*i.size) e2 news 0 cur w hg (by simpa using hfit) h1
 simp only[Nat.add_zero]at hst
 simp[Builtin.append_,run_underlying ht,sizeOf,typeInfo,hi,Builtin.lenOf,hroom,hf,Addr.add_lit,hst]
def nft:List (Nat × D)->Option (List (Nat × D))
 | []=>some []
 | (k,d)::l=>match nf d,nft l with
  | some d',some l'=>some ((k,d')::l')
  | _,_=>none
theorem UA:∀ {l l':List (Nat × D)},nft l=some l'->l=l'
 | [],l',h=>by simpa[nft]using h
 | (k,d)::l,l',h=>by
  cases hd:nf d with
  | none=>simp[nft,hd]at h
  | some d'=>
   cases hl:nft l with
   | none=>simp[nft,hd,hl]at h
   | some l''=>simp[nft,hd,hl]at h;rw[<- h,Yj hd,UA hl]
theorem Qr [Known][Dfr]{o:Op}(h:∀ b0 g a w,Inv b0 ⟨n,tm,bx,fr,ee⟩ g a w->∃ v w' tm' bx' fr' g' d,(execOp a.eval ⟨some t,o,ty,pos,after,none⟩).run P w=.ok (.value v) w'/\Inv b0 ⟨n,tm',bx',fr',ee⟩ g' a w'/\V w' g' fr' d v/\AL P ops rest ⟨n,(t,d)::tm',bx',fr',ee⟩ Q)(htd:Nat.blt t n=true) :
  AL P ops (⟨some t,o,ty,pos,after,none⟩::rest) ⟨n,tm,bx,fr,ee⟩ Q:=⟨fun b0 g a w hi=>
 wpList_plain rfl fun K hK=>by
  obtain⟨v,w',tm',bx',fr',g',d,hr,hi2,hv,k⟩:=h b0 g a w hi
  unfold Oper.wp
  rw[hr]
  exact hK _ _ (k.run b0 g' _ w' (hi2.put htd hv))⟩
theorem VW (z:Nat)(l:List E):D.ex [.row z l]=l.map .ofC:=rfl
theorem Jb {z n:Nat}{l:List E}(h1:1<=n)(h2:l.length<=n)(h3:z=0\/n=z):D.fits [.row z l] n:=⟨h1,by rw[VW,List.length_map];exact h2,fun z' l' e=>by injection e with e _;injection e with e e2;rw[<- e];exact h3⟩
theorem Qs {z:Nat}{l:List E}(h1:1<=z)(h2:l.length<=z):D.fits [.row z l] z:=⟨h1,by rw[VW,List.length_map];exact h2,fun z' l' e=>by injection e with e _;injection e with e e2;exact .inr e⟩
theorem VM {l:List E}{j:Nat}{d:D}(h:(l.map D.ofC)[j]?=some d):∃ x,l[j]?=some x/\d=D.ofC x:=by
 rw[List.getElem?_map]at h
 cases hj:l[j]? with
 | none=>rw[hj]at h;cases h
 | some x=>rw[hj]at h;exact⟨x,rfl,by injection h with h;exact h.symm⟩
theorem Xk [Known][Dfr](hT:chk P T=true){x y:Operand}{st e b m c z:Nat}{l l':List E}{ti te:Ti}{tm2:List (Nat × D)}{bx2:Nat->List (List D)}(ht:tl T st=some ti)(hk:ti.kd=.slice e)(hte:tl T e=some te)(hx:ev tm x=.bsl b 0 m c)(hy:Src bx te.size (ev tm y) l')
  (hb:bx[b]?=some [.row z (flat l)]) (hm:l.length=m) (hz:z=c*te.size) (hc0:0<c) (hge:Nat.ble ee.1 b=true) (hU:Uni te.size l) (hU':Uni te.size l') (hne:l' ≠ []) (hlen:l.length+l'.length<=maxLen) (hby:(l.length+l'.length)*te.bytes<=140737488355328)
  (hpos:Nat.blt 0 te.size=true) (htm:nft (tm.map fun p=>(p.1,p.2.dropB b))=some tm2) (hbx:∀ c',nfb ((bx.map (D.rens (dropB b) some)).set b [.row (c'*te.size) (flat (l++l'))])=some (bx2 c')) (htd:Nat.blt t n=true)
  (k:∀ c',l.length+l'.length<=c'->AL P ops rest ⟨n,(t,.bsl b 0 (l.length+l'.length) c')::tm2,bx2 c',fr,ee⟩ Q):AL P ops (⟨some t,.call { callee:=.builtin .append,args := #[x,y],argTypes := #[st,st] },ty,pos,after,none⟩::rest) ⟨n,tm,bx,fr,ee⟩ Q:=
 Qr (fun b0 g a w hi=>by
  have h1:V w g fr (ev tm x) (a.eval x):=hi.ev x
  have h2:V w g fr (ev tm y) (a.eval y):=hi.ev y
  rw[hx]at h1
  obtain⟨ad,cc,news,hyv,n1,n2,n3,n4⟩:=hy hi.mem h2 hU' hne
  have hpos':0<l'.length:=List.length_pos_iff.2 hne
  obtain⟨blk,cap0,hρ,hmc,hmax,hxv,hcc⟩:=VL h1
  obtain rfl:c=cap0:=by omega
  have hm0:=hi.mem
  obtain⟨cur,e2,s1,s2,s3,s4⟩:=hm0.rowc hρ hb
  have hpos:0<te.size:=by simpa[Nat.blt_eq]using hpos
  have hblk:blk<w.heap.size:=(Array.getElem?_eq_some_iff.1 s1).1
  have hu:=(ZF hT ht).slice hk
  obtain⟨ie,ue,zv,i1,i2,i3,i4,i5,i6,i7⟩:=(ZF hT hte).out
  have hzz:=(YX (w:=w) (g:=g) (fr:=fr) i7).1
  have hge':=Nat.le_of_ble_eq_true hge
  subst hm
  have hzp:0<c*te.size:=Nat.mul_pos hc0 hpos
  replace s2:cur.size=c*te.size:=by rcases s2 with s2|s2<;>omega
  have hcurle:l.length*te.size<=cur.size:=by rw[s2];exact Nat.mul_le_mul_right _ hmc
  have hl2:(cur.toList.take (l.length*te.size)).length=l.length*te.size:=by simp;omega
  have olds:(cur.toList.take (l.length*te.size)).length=l.length*ie.size:=by rw[<- i5];exact hl2
  have oget:∀(j:Nat) (u:Value),(cur.toList.take (l.length*te.size))[j]?=some u->cur[j]?=some u:=fun j u hu=>by
   have:j<l.length*te.size/\cur[j]?=some u:=by simpa[List.getElem?_take]using hu
   exact this.2
  have hflat:=hU.flat
  have hmul:(l.length+l'.length)*te.size=l.length*te.size+l'.length*te.size:=Nat.add_mul _ _ _
  have hUU:=hU.append hU'
  have hfl2:(flat (l++l')).length=l.length*te.size+news.length:=by rw[hUU.flat,List.length_append,n1,hmul]
  have hnew:∀(j:Nat) (x:E) (u:Value),(flat (l++l'))[j]?=some x->(cur.toList.take (l.length*te.size)++news)[j]?=some u->VE w g.C x u:=fun j x2 u hx2 hu=>by
   rw[Vi]at hx2
   rcases Nat.lt_or_ge j (l.length*te.size) with hj|hj
   ·rw[List.getElem?_append_left (by omega)]at hx2
    rw[List.getElem?_append_left (by omega)]at hu
    exact s4 j x2 u hx2 (oget j u hu)
   ·rw[List.getElem?_append_right (by omega),hflat]at hx2
    rw[List.getElem?_append_right (by omega),hl2]at hu
    exact n4 _ x2 u hx2 hu
  by_cases hroom:l.length+l'.length<=c
  ·have hfit:l.length*ie.size+news.length<=cur.size:=by rw[n1,<- i5,s2,<- Nat.add_mul];exact Nat.mul_le_mul_right _ hroom
   have hr:=WS (P:=P) w st ty e e2 ie hu i1 blk l.length c cur s1 ad l'.length cc news (by rw[<- i5];exact n1) n2 n3 hroom hfit
   obtain⟨w',hw'⟩:∃ w',w'=w.setRow blk (cur.toList.take (l.length*ie.size)++news++cur.toList.drop (l.length*ie.size+news.length)).toArray:=⟨_,rfl⟩
   rw[<- hw']at hr
   rw[<- i5]at hw' hfit
   have hheap:w'.heap[blk]?=some (.cells (cur.toList.take (l.length*te.size)++news++cur.toList.drop (l.length*te.size+news.length)).toArray e2 (0,0)):=by
    rw[hw'];exact setRow_heap w blk cur _ e2 _ s1
   have hsz:w'.heap.size=w.heap.size:=by rw[hw'];simp[World.setRow]
   have hfar:∀ k,k<w.heap.size->k ≠ blk->w'.heap[k]?=w.heap[k]? := fun k _ hne=>by rw[hw'];simp only[World.setRow,Array.getElem?_modify];rw[if_neg (fun e=>hne e.symm)]
   have hCb:∀ o,¬ g.C blk o:=fun o=>hm0.bC blk o (List.mem_of_getElem? hρ)
   have hcell:∀ k o,g.C k o->w'.cell? ⟨k,o,none⟩=w.cell? ⟨k,o,none⟩:=fun k o h=>World.cell?_of_block (w:=w) (hfar k (hm0.Clt k o h) fun e=>by subst e;exact hCb o h)
   have hset:g.ρ.set b blk=g.ρ:=by
    refine List.ext_getElem? fun i=>?_
    by_cases hib:b=i
    ·subst hib;rw[List.getElem?_set_self (List.getElem?_eq_some_iff.1 hρ).1,hρ]
    ·rw[List.getElem?_set_ne hib]
   have hsize2:(cur.toList.take (l.length*te.size)++news++cur.toList.drop (l.length*te.size+news.length)).toArray.size=c*te.size:=by
    simp only[List.size_toArray,List.length_append,hl2,List.length_drop,Array.length_toList];omega
   obtain⟨q1,q2⟩:=hi.repoint (blk':=blk) (cs':=[.row (c*te.size) (flat (l++l'))]) (w':=w') hρ hge' (.inl rfl) (by rw[hw'];rfl) (by rw[hw'];rfl) (by rw[hw'];rfl) (by rw[hsz];exact Nat.le_refl _) hfar hheap
    (by rw[hsize2];exact Qs (by have:=Nat.mul_le_mul_right te.size hroom;rw[hmul]at this;have:1<=l'.length*te.size:=Nat.mul_pos hpos' hpos;omega) (by rw[hfl2,n1,<- hmul];exact Nat.mul_le_mul_right _ hroom))
    (fun j d v hd hv=>by
     rw[VW]at hd
     have hjl:=(List.getElem?_eq_some_iff.1 hd).1
     rw[List.length_map,hfl2]at hjl
     rw[List.getElem?_toArray,List.getElem?_append_left (by rw[List.length_append,hl2];exact hjl)]at hv
     obtain⟨x2,hx2,rfl⟩:=VM hd
     exact V.ofC ((hnew j x2 v hx2 hv).mono (fun _ _ h=>h) hcell))
   have e5:=UA htm
   have e6:=Yv (hbx c)
   rw[e5,e6]at q1
   exact⟨.slice (some ⟨blk,0,none⟩) (l.length+l'.length) c,w',_,_,_,_,_,by simp only[execOp,resolve,invoke,builtin,Sem.run_bind,Sem.run_pure,Result.andThen_ok,List.map_toArray,List.map_cons,List.map_nil,hxv,hyv,hr],q1,.bsl b 0 _ c blk c (by rw[hset];exact hρ) hroom hmax (.inr rfl),k c hroom⟩
  ·have hr:=run_append_grow (P:=P) w st ty e ie zv hu i1 i3 ⟨blk,0,none⟩ l.length c (cur.toList.take (l.length*te.size)) olds (fun j u hu=>by rw[Addr.add_mid,Nat.zero_add,cell_of_row w blk j cur e2 (0,0) s1];exact oget j u hu) ad l'.length cc news (by rw[<- i5];exact n1) n2 (by omega) (by simp only[maxLen]at hlen;omega) (growslice_fits (by omega) (by rw[<- i6];exact hby))
   have hgc:=grownCap_ge w (l.length+l'.length) c e
   have hcm:=grownCap_le_maxLen w (l.length+l'.length) c e hlen
   obtain⟨C2,hC2⟩:∃ C2,C2=grownCap w (l.length+l'.length) c e:=⟨_,rfl⟩
   rw[<- hC2]at hr hgc hcm
   have hcurr:(cur.toList.take (l.length*te.size)).toArray++news.toArray++Builtin.zeroCells zv.cells (C2-(l.length+l'.length))=(cur.toList.take (l.length*te.size)++news++(Builtin.zeroCells zv.cells (C2-(l.length+l'.length))).toList).toArray:=by simp
   rw[hcurr]at hr
   obtain⟨rest',hrest⟩:∃ rest',rest'=(Builtin.zeroCells zv.cells (C2-(l.length+l'.length))).toList:=⟨_,rfl⟩
   have hzc:zv.cells.size=ie.size:=by
    rw[<- Array.length_toList,hzz,<- i5]
    exact(VD hT hte).symm
   have hrl:rest'.length=(C2-(l.length+l'.length))*te.size:=by rw[hrest,Array.length_toList,size_zeroCells,hzc,<- i5]
   rw[<- hrest]at hr
   obtain⟨w',hw'⟩:∃ w',w'=w.drew.alloc (.cells (cur.toList.take (l.length*te.size)++news++rest').toArray e):=⟨_,rfl⟩
   rw[<- hw']at hr
   have hheap:w'.heap[w.heap.size]?=some (.cells (cur.toList.take (l.length*te.size)++news++rest').toArray e (0,0)):=by rw[hw'];exact heap_alloc_new w.drew _
   have hfar:∀ k,k<w.heap.size->k ≠ w.heap.size->w'.heap[k]?=w.heap[k]? := fun k hk _=>by rw[hw'];exact Below.heap_alloc w.drew _ k hk
   have hcell:∀ k o,g.C k o->w'.cell? ⟨k,o,none⟩=w.cell? ⟨k,o,none⟩:=fun k o h=>World.cell?_of_block (w:=w) (hfar k (hm0.Clt k o h) fun e=>by have:=hm0.Clt k o h;omega)
   have hsize2:(cur.toList.take (l.length*te.size)++news++rest').toArray.size=C2*te.size:=by
    simp only[List.size_toArray,List.length_append,hl2,n1,hrl,<- Nat.add_mul];congr 1;omega
   obtain⟨q1,q2⟩:=hi.repoint (blk':=w.heap.size) (cs':=[.row (C2*te.size) (flat (l++l'))]) (w':=w') hρ hge' (.inr rfl) (by rw[hw'];rfl) (by rw[hw'];rfl) (by rw[hw'];rfl) (by rw[hw'];simp) hfar hheap
    (by rw[hsize2];exact Qs (by have:=Nat.mul_le_mul_right te.size hgc;rw[hmul]at this;have:1<=l'.length*te.size:=Nat.mul_pos hpos' hpos;omega) (by rw[hfl2,n1,<- hmul];exact Nat.mul_le_mul_right _ hgc))
    (fun j d v hd hv=>by
     rw[VW]at hd
     have hjl:=(List.getElem?_eq_some_iff.1 hd).1
     rw[List.length_map,hfl2]at hjl
     rw[List.getElem?_toArray,List.getElem?_append_left (by rw[List.length_append,hl2];exact hjl)]at hv
     obtain⟨x2,hx2,rfl⟩:=VM hd
     exact V.ofC ((hnew j x2 v hx2 hv).mono (fun _ _ h=>h) hcell))
   have e5:=UA htm
   have e6:=Yv (hbx C2)
   rw[e5,e6]at q1
   exact⟨.slice (some ⟨w.heap.size,0,none⟩) (l.length+l'.length) C2,w',_,_,_,_,_,by simp only[execOp,resolve,invoke,builtin,Sem.run_bind,Sem.run_pure,Result.andThen_ok,List.map_toArray,List.map_cons,List.map_nil,hxv,hyv,hr],q1,.bsl b 0 _ C2 _ C2 (by show(g.ρ.set b w.heap.size)[b]?=_;rw[List.getElem?_set_self (List.getElem?_eq_some_iff.1 hρ).1]) hgc hcm (.inr rfl),k C2 hgc⟩) htd
theorem Qu [Known][Dfr](hT:chk P T=true){x y:Operand}{st e b m c z:Nat}{l l':List E}{tk:Tok}{ti te:Ti}{tm2:List (Nat × D)}{bx2:Nat->List (List D)}(ht:tl T st=some ti)(hk:ti.kd=.slice e)(hte:tl T e=some te)(hx:ev tm x=.bsl b 0 m c)(hy:ev tm y=.sl tk l')
  (hb:bx[b]?=some [.row z (flat l)]) (hm:l.length=m) (hz:z=c*te.size) (hc0:0<c) (hge:Nat.ble ee.1 b=true) (hU:Uni te.size l) (hU':Uni te.size l') (hne:l' ≠ []) (hlen:l.length+l'.length<=maxLen) (hby:(l.length+l'.length)*te.bytes<=140737488355328)
  (hpos:Nat.blt 0 te.size=true) (htm:nft (tm.map fun p=>(p.1,p.2.dropB b))=some tm2) (hbx:∀ c',nfb ((bx.map (D.rens (dropB b) some)).set b [.row (c'*te.size) (flat (l++l'))])=some (bx2 c')) (htd:Nat.blt t n=true)
  (k:∀ c',l.length+l'.length<=c'->AL P ops rest ⟨n,(t,.bsl b 0 (l.length+l'.length) c')::tm2,bx2 c',fr,ee⟩ Q):AL P ops (⟨some t,.call { callee:=.builtin .append,args := #[x,y],argTypes := #[st,st] },ty,pos,after,none⟩::rest) ⟨n,tm,bx,fr,ee⟩ Q:=
 Xk hT ht hk hte hx (Src.sl hy) hb hm hz hc0 hge hU hU' hne hlen hby hpos htm hbx htd k
theorem Xl [Known][Dfr](hT:chk P T=true){x y:Operand}{st e m k2:Nat}{l':List E}{ti te:Ti}{bx2:List (List D)}(ht:tl T st=some ti)(hk:ti.kd=.slice e)(hte:tl T e=some te)(hx:emp (ev tm x)=true)(hy:Src bx te.size (ev tm y) l')
  (hpos:Nat.blt 0 te.size=true) (hU':Uni te.size l') (hne:l' ≠ []) (hk2:l'.length=k2) (hlen:l'.length<=maxLen) (hby:l'.length*te.bytes<=140737488355328)
  (hm:bx.length=m) (hbx:nfb (bx++[[.row 0 (flat l')]])=some bx2) (htd:Nat.blt t n=true)
  (k:AL P ops rest ⟨n,(t,.bsl m 0 k2 0)::tm,bx2,fr,ee⟩ Q):AL P ops (⟨some t,.call { callee:=.builtin .append,args := #[x,y],argTypes := #[st,st] },ty,pos,after,none⟩::rest) ⟨n,tm,bx,fr,ee⟩ Q:=
 Qr (fun b0 g a w hi=>by
  have h1:V w g fr (ev tm x) (a.eval x):=hi.ev x
  have h2:V w g fr (ev tm y) (a.eval y):=hi.ev y
  obtain⟨A0,hxv⟩:=Ju h1 hx
  obtain⟨ad,c,news,hyv,n1,n2,n3,n4⟩:=hy hi.mem h2 hU' hne
  have hpos':0<l'.length:=List.length_pos_iff.2 hne
  have hpos:0<te.size:=by simpa[Nat.blt_eq]using hpos
  have hu:=(ZF hT ht).slice hk
  obtain⟨ie,ue,z,i1,i2,i3,i4,i5,i6,i7⟩:=(ZF hT hte).out
  have hr:=Wa (P:=P) A0 w st ty e ie z hu i1 i3 ad l'.length c news (by rw[<- i5];exact n1) n2 hpos' (by simp only[maxLen]at hlen;omega) (by rw[<- i6];omega)
  have hge:=grownCap_ge w l'.length 0 e
  have hcm:=grownCap_le_maxLen w l'.length 0 e hlen
  obtain⟨C2,hC2⟩:∃ C2,C2=grownCap w l'.length 0 e:=⟨_,rfl⟩
  rw[<- hC2]at hr hge hcm
  have hcurr:news.toArray++Builtin.zeroCells z.cells (C2-l'.length)=(news++(Builtin.zeroCells z.cells (C2-l'.length)).toList).toArray:=by simp
  rw[hcurr]at hr
  have hz:=(YX (w:=w) (g:=g) (fr:=fr) i7).1
  have hzc:z.cells.size=ie.size:=by
   rw[<- Array.length_toList,hz,<- i5]
   exact(VD hT hte).symm
  have hfl:=hU'.flat
  have hd:Mem g bx fr w.drew:=hi.mem.drew
  have hzl:(Builtin.zeroCells z.cells (C2-l'.length)).toList.length=(C2-l'.length)*te.size:=by rw[Array.length_toList,size_zeroCells,hzc,<- i5]
  have hmul:C2*te.size=l'.length*te.size+(C2-l'.length)*te.size:=by rw[<- Nat.add_mul];congr 1;omega
  obtain⟨k1,k2⟩:=hd.box0 (news++(Builtin.zeroCells z.cells (C2-l'.length)).toList) [.row 0 (flat l')] e (by
    rw[List.length_append,hzl,n1,<- hmul]
    exact Jb (by have:1<=l'.length*te.size:=Nat.mul_pos hpos' hpos;omega) (by rw[hfl];omega) (.inl rfl)) (fun j d u hd hu=>by
   rw[VW]at hd
   obtain⟨x2,hx2,rfl⟩:=VM hd
   have hj:=(List.getElem?_eq_some_iff.1 hx2).1
   rw[List.getElem?_append_left (by omega)]at hu
   exact V.ofC (n4 j x2 u hx2 hu).drew)
  have e1:=Yv hbx
  subst hm hk2
  rw[e1]at k2
  have hevo:=Evo.drew.trans k1
  refine⟨.slice (some ⟨w.heap.size,0,none⟩) l'.length C2,_,tm,bx2,fr,_,.bsl bx.length 0 l'.length 0,by simp only[execOp,resolve,invoke,builtin,Sem.run_bind,Sem.run_pure,Result.andThen_ok,List.map_toArray,List.map_cons,List.map_nil,hxv,hyv,hr],⟨hi.size,hi.defers,k2,fun t=>(hi.tm t).evo hevo,hi.evo.trans hevo,hi.bd⟩,.bsl _ 0 _ 0 w.heap.size C2 ?_ hge hcm (.inl rfl),k⟩
  have:=hi.mem.bl
  dsimp only at this
  show(g.ρ++[w.drew.heap.size])[bx.length]?=_
  rw[List.getElem?_append_right (by omega),this,Nat.sub_self]
  rfl) htd
theorem Xm [Known][Dfr](hT:chk P T=true){x y:Operand}{st e b:Nat}{cs0:List D}{tm2:List (Nat × D)}{l':List E}{ti te:Ti}{bx2:Nat->List (List D)}(ht:tl T st=some ti)(hk:ti.kd=.slice e)(hte:tl T e=some te)(hx:emp (ev tm x)=true)(hy:Src bx te.size (ev tm y) l')
  (hpos:Nat.blt 0 te.size=true) (hU':Uni te.size l') (hne:l' ≠ []) (hlen:l'.length<=maxLen) (hby:l'.length*te.bytes<=140737488355328)
  (hb:bx[b]?=some cs0) (hge:Nat.ble ee.1 b=true) (htm:nft (tm.map fun p=>(p.1,p.2.dropB b))=some tm2) (hbx:∀ c',nfb ((bx.map (D.rens (dropB b) some)).set b [.row (c'*te.size) (flat l')])=some (bx2 c')) (htd:Nat.blt t n=true)
  (k:∀ c',l'.length<=c'->AL P ops rest ⟨n,(t,.bsl b 0 l'.length c')::tm2,bx2 c',fr,ee⟩ Q):AL P ops (⟨some t,.call { callee:=.builtin .append,args := #[x,y],argTypes := #[st,st] },ty,pos,after,none⟩::rest) ⟨n,tm,bx,fr,ee⟩ Q:=
 Qr (fun b0 g a w hi=>by
  have h1:V w g fr (ev tm x) (a.eval x):=hi.ev x
  have h2:V w g fr (ev tm y) (a.eval y):=hi.ev y
  obtain⟨A0,hxv⟩:=Ju h1 hx
  obtain⟨ad,c,news,hyv,n1,n2,n3,n4⟩:=hy hi.mem h2 hU' hne
  have hpos':0<l'.length:=List.length_pos_iff.2 hne
  have hpos:0<te.size:=by simpa[Nat.blt_eq]using hpos
  have hu:=(ZF hT ht).slice hk
  obtain⟨ie,ue,z,i1,i2,i3,i4,i5,i6,i7⟩:=(ZF hT hte).out
  have hr:=Wa (P:=P) A0 w st ty e ie z hu i1 i3 ad l'.length c news (by rw[<- i5];exact n1) n2 hpos' (by simp only[maxLen]at hlen;omega) (by rw[<- i6];omega)
  have hge2:=grownCap_ge w l'.length 0 e
  have hcm:=grownCap_le_maxLen w l'.length 0 e hlen
  obtain⟨C2,hC2⟩:∃ C2,C2=grownCap w l'.length 0 e:=⟨_,rfl⟩
  rw[<- hC2]at hr hge2 hcm
  have hcurr:news.toArray++Builtin.zeroCells z.cells (C2-l'.length)=(news++(Builtin.zeroCells z.cells (C2-l'.length)).toList).toArray:=by simp
  rw[hcurr]at hr
  have hz:=(YX (w:=w) (g:=g) (fr:=fr) i7).1
  have hzc:z.cells.size=ie.size:=by
   rw[<- Array.length_toList,hz,<- i5]
   exact(VD hT hte).symm
  have hfl:=hU'.flat
  have hzl:(Builtin.zeroCells z.cells (C2-l'.length)).toList.length=(C2-l'.length)*te.size:=by rw[Array.length_toList,size_zeroCells,hzc,<- i5]
  have hmul:C2*te.size=l'.length*te.size+(C2-l'.length)*te.size:=by rw[<- Nat.add_mul];congr 1;omega
  obtain⟨w',hw'⟩:∃ w',w'=w.drew.alloc (.cells (news++(Builtin.zeroCells z.cells (C2-l'.length)).toList).toArray e):=⟨_,rfl⟩
  rw[<- hw']at hr
  have hm0:=hi.mem
  have hheap:w'.heap[w.heap.size]?=some (.cells (news++(Builtin.zeroCells z.cells (C2-l'.length)).toList).toArray e (0,0)):=by rw[hw'];exact heap_alloc_new w.drew _
  have hfar:∀ k,k<w.heap.size->k ≠ w.heap.size->w'.heap[k]?=w.heap[k]? := fun k hk _=>by rw[hw'];exact Below.heap_alloc w.drew _ k hk
  have hcell:∀ k o,g.C k o->w'.cell? ⟨k,o,none⟩=w.cell? ⟨k,o,none⟩:=fun k o h=>World.cell?_of_block (w:=w) (hfar k (hm0.Clt k o h) fun e=>by have:=hm0.Clt k o h;omega)
  have hbl:b<g.ρ.length:=by have:=hm0.bl;dsimp only at this;rw[this];exact(List.getElem?_eq_some_iff.1 hb).1
  obtain⟨blk,hρ⟩:∃ blk,g.ρ[b]?=some blk:=⟨_,List.getElem?_eq_getElem hbl⟩
  have hsize2:(news++(Builtin.zeroCells z.cells (C2-l'.length)).toList).toArray.size=C2*te.size:=by rw[List.size_toArray,List.length_append,hzl,n1,<- hmul]
  obtain⟨q1,q2⟩:=hi.repoint (blk':=w.heap.size) (cs':=[.row (C2*te.size) (flat l')]) (w':=w') hρ (Nat.le_of_ble_eq_true hge) (.inr rfl) (by rw[hw'];rfl) (by rw[hw'];rfl) (by rw[hw'];rfl) (by rw[hw'];simp) hfar hheap
   (by rw[hsize2];exact Qs (by have:1<=l'.length*te.size:=Nat.mul_pos hpos' hpos;omega) (by rw[hfl];omega)) (fun j d u hd hu=>by
   rw[VW]at hd
   obtain⟨x2,hx2,rfl⟩:=VM hd
   have hj:=(List.getElem?_eq_some_iff.1 hx2).1
   rw[List.getElem?_toArray,List.getElem?_append_left (by omega)]at hu
   exact V.ofC ((n4 j x2 u hx2 hu).mono (fun _ _ h=>h) hcell))
  have e5:=UA htm
  have e6:=Yv (hbx C2)
  rw[e5,e6]at q1
  exact⟨.slice (some ⟨w.heap.size,0,none⟩) l'.length C2,w',_,_,_,_,_,by simp only[execOp,resolve,invoke,builtin,Sem.run_bind,Sem.run_pure,Result.andThen_ok,List.map_toArray,List.map_cons,List.map_nil,hxv,hyv,hr],q1,.bsl b 0 _ C2 _ C2 (by show(g.ρ.set b w.heap.size)[b]?=_;rw[List.getElem?_set_self hbl]) hge2 hcm (.inr rfl),k C2 hge2⟩) htd
theorem X2 [Known][Dfr](hT:chk P T=true){x y:Operand}{st e b:Nat}{cs0:List D}{tm2:List (Nat × D)}{l':List E}{tk:Tok}{ti te:Ti}{bx2:Nat->List (List D)}(ht:tl T st=some ti)(hk:ti.kd=.slice e)(hte:tl T e=some te)(hx:ev tm x=.sl .nil [])(hy:ev tm y=.sl tk l')
  (hpos:Nat.blt 0 te.size=true) (hU':Uni te.size l') (hne:l' ≠ []) (hlen:l'.length<=maxLen) (hby:l'.length*te.bytes<=140737488355328)
  (hb:bx[b]?=some cs0) (hge:Nat.ble ee.1 b=true) (htm:nft (tm.map fun p=>(p.1,p.2.dropB b))=some tm2) (hbx:∀ c',nfb ((bx.map (D.rens (dropB b) some)).set b [.row (c'*te.size) (flat l')])=some (bx2 c')) (htd:Nat.blt t n=true)
  (k:∀ c',l'.length<=c'->AL P ops rest ⟨n,(t,.bsl b 0 l'.length c')::tm2,bx2 c',fr,ee⟩ Q):AL P ops (⟨some t,.call { callee:=.builtin .append,args := #[x,y],argTypes := #[st,st] },ty,pos,after,none⟩::rest) ⟨n,tm,bx,fr,ee⟩ Q:=
 Xm hT ht hk hte (by rw[hx];rfl) (Src.sl hy) hpos hU' hne hlen hby hb hge htm hbx htd k
def W6 (l:List E)(o:Nat)(es:List E):List E:=l.take o++(es++l.drop (o+es.length))
theorem Jc [Known][Dfr](hT:chk P T=true){x y:Operand}{lt b o z:Nat}{l es l2:List E}{d:D}{ti:Ti}(hx:ev tm x=.ptr b o)(hy:nf (ev tm y)=some d)(hes:D.toEs d.cellsOf=some es)(ht:tl T lt=some ti)(hs:Nat.beq es.length ti.size=true)(hb:bx[b]?=some [.row z l])
  (hle:o+es.length<=l.length) (hl2:W6 l o es=l2) (hb':nfb (bx.set b [.row z l2])=some bx')
  (k:AL P ops rest ⟨n,tm,bx',fr,ee⟩ Q):AL P ops (⟨none,.store lt x y,ty,pos,after,none⟩::rest) ⟨n,tm,bx,fr,ee⟩ Q:=
 Kl (fun g a w hi=>by
  have h1:V w g fr (ev tm x) (a.eval x):=hi.ev x
  rw[hx]at h1
  obtain⟨blk,h2,h3⟩:=VC h1
  have hv:V w g fr (ev tm y) (a.eval y):=hi.ev y
  rw[Yj hy]at hv
  have hlen:=(V5 hes).1
  have ho:D.ones d.cellsOf=true:=by
   have:∀ {ds:List D} {es:List E},D.toEs ds=some es->D.ones ds=true:=by
    intro ds
    induction ds with
    | nil=>intros;rfl
    | cons d0 ds ih=>
     intro es h
     cases hd0:d0.toE1 with
     | none=>simp[D.toEs,hd0]at h
     | some e0=>
      cases hds:D.toEs ds with
      | none=>simp[D.toEs,hd0,hds]at h
      | some es0=>
       have:d0.one=true:=by cases d0<;>first|rfl|(simp[D.toE1]at hd0)
       simp only[D.ones,this]
       exact ih hds
   exact this hes
  obtain⟨vs,q2,q3,q4⟩:=hv.cells ho
  have hm:=hi.mem
  obtain⟨us,ut,r1,r2,r0,r3⟩:=hm.rowc h2 hb
  have hs':=Nat.eq_of_beq_eq_true hs
  have hvs1:∀ v ∈ vs,v.oneCell'=true:=fun v hv=>by
   obtain⟨j,hj⟩:=List.getElem?_of_mem hv
   have hlt:j<d.cellsOf.length:=by rw[<- q3];exact(List.getElem?_eq_some_iff.1 hj).1
   exact(q4 j _ v (List.getElem?_eq_getElem hlt) hj).one (Wx ho (List.getElem?_eq_getElem hlt))
  have hrun:=run_storeCells_at (P:=P) blk o ut vs 0 us w r1 (by omega) hvs1
  have hag:=(ZF hT ht)
  obtain⟨w',hw'⟩:∃ w',w'=w.setRow blk (us.toList.take (o+0)++vs++us.toList.drop (o+0+vs.length)).toArray:=⟨_,rfl⟩
  have hheap:w'.heap[blk]?=some (.cells (us.toList.take (o+0)++vs++us.toList.drop (o+0+vs.length)).toArray ut (0,0)):=by
   rw[hw'];exact setRow_heap w blk us _ ut _ r1
  have hfar:∀ k,k ≠ blk->w'.heap[k]?=w.heap[k]? := fun k hk=>by
   rw[hw'];simp only[World.setRow,Array.getElem?_modify];rw[if_neg (fun e=>hk e.symm)]
  have hsize:w'.heap.size=w.heap.size:=by rw[hw'];simp[World.setRow]
  have hcell:∀ k p,g.C k p->w'.cell? ⟨k,p,none⟩=w.cell? ⟨k,p,none⟩:=fun k p hC=>World.cell?_of_block (w:=w) (hfar k fun e=>by
   subst e;exact hm.bC k p (List.mem_of_getElem? h2) hC)
  have hevo:Evo ⟨g,fr,w⟩ ⟨g,fr,w'⟩:=⟨by rw[hw'];rfl,by rw[hw'];rfl,by rw[hw'];rfl,by rw[hsize];exact Nat.le_refl _,fun k hk hn=>hfar k fun e=>hn (.inl (e ▸ List.mem_of_getElem? h2)),fun _ _ h=>h,hcell,fun _ _ h=>.inl h,fun _ _ h=>h,fun _ h=>.inl h,fun _ c h=>.inl ⟨c,h⟩,YK.refl _ _⟩
  refine⟨w',g,?_,hevo,?_⟩
  ·rw[<- hw']at hrun
   have hsz:(sizeOf lt).run P w=.ok vs.length w:=Z1 (by rw[hag.tSize,q3,hlen,hs']) w
   simp[execOp,h3,Instr.storeAt,Instr.sureAddr,storeVar,Sem.run_bind,q2,hsz,hrun]
  ·rw[<- Yv hb']
   have hl2l:l2.length=l.length:=by rw[<- hl2];simp[W6];omega
   constructor
   ·simp[hm.bl]
   ·intro i k cs' e1 e2
    by_cases hib:i=b
    ·subst hib
     rw[h2]at e1
     injection e1 with e1
     subst e1
     have hlt:i<bx.length:=(List.getElem?_eq_some_iff.1 hb).1
     rw[List.getElem?_set_self hlt]at e2
     injection e2 with e2
     subst e2
     obtain⟨us2,ut2,p1,p2,_⟩:=hm.bat i blk _ h2 hb
     rw[r1]at p1
     injection p1 with p1
     injection p1 with p1 p4
     subst p1 p4
     have hz1:1<=us.size:=p2.1
     have hsz2:(us.toList.take (o+0)++vs++us.toList.drop (o+0+vs.length)).toArray.size=us.size:=by simp;omega
     refine⟨_,ut,hheap,by rw[hsz2];exact Jb (by omega) (by omega) r2,fun j c u hc hu=>?_⟩
     rw[VW]at hc
     obtain⟨x2,hx2,rfl⟩:=VM hc
     ·have hu:(us.toList.take o++vs++us.toList.drop (o+vs.length))[j]?=some u:=by simpa using hu
      rw[<- hl2,W6]at hx2
      rw[List.append_assoc]at hu
      have hvl:vs.length=es.length:=by rw[q3,hlen]
      rcases Nat.lt_or_ge j o with hjo|hjo
      ·rw[List.getElem?_append_left (by simp;omega),List.getElem?_take,if_pos hjo]at hx2 hu
       exact V.ofC ((r3 j x2 u hx2 (by simpa using hu)).mono hevo.C hevo.cell)
      ·rw[List.getElem?_append_right (by simp;omega)]at hx2 hu
       simp only[List.length_take,Nat.min_eq_left (show o<=l.length by omega)]at hx2
       simp only[List.length_take,Nat.min_eq_left (show o<=us.toList.length by simp;omega)]at hu
       rcases Nat.lt_or_ge (j-o) vs.length with hj2|hj2
       ·rw[List.getElem?_append_left (by omega)]at hx2
        rw[List.getElem?_append_left hj2]at hu
        obtain⟨d0,hd0,hd1⟩:=(V5 hes).2 _ x2 hx2
        exact V.ofC (((q4 (j-o) d0 u hd0 hu).toE1 hd1).mono hevo.C hevo.cell)
       ·rw[List.getElem?_append_right (by omega),List.getElem?_drop]at hx2
        rw[List.getElem?_append_right hj2,List.getElem?_drop]at hu
        rw[hvl]at hu
        exact V.ofC ((r3 _ x2 u hx2 (by simpa using hu)).mono hevo.C hevo.cell)
    ·rw[List.getElem?_set_ne (Ne.symm hib)]at e2
     obtain⟨us',ut',t1,t2,t3⟩:=hm.bat i k cs' e1 e2
     have hne:k ≠ blk:=fun e=>by
      subst e
      exact hib (hm.bN i b k e1 h2)
     exact⟨us',ut',(hfar k hne).trans t1,t2,fun j c u hc hu=>(t3 j c u hc hu).evo hevo⟩
   ·exact hm.bC
   ·exact hm.bN
   ·exact hm.tl
   ·intro i k c f e1 e2
    have hTk:=hm.tat i k c f e1 e2
    obtain⟨cur,s1,s2⟩:=hTk.row
    have hne:k ≠ blk:=fun e=>by
     subst e
     exact hm.tρ k c (List.mem_of_getElem? e1) (List.mem_of_getElem? h2)
    exact⟨⟨cur,(hfar k hne).trans s1,s2⟩,hTk.le,hTk.max,hTk.pos,hTk.far⟩
   ·exact hm.tN
   ·exact hm.tρ
   ·intro k p hC
    rw[hsize];exact hm.Clt k p hC
   ·exact hm.gl.evo hevo) k
end
end Go.Av
end
