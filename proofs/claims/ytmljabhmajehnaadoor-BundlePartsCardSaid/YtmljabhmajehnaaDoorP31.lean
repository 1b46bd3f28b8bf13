/- Rows of one's own: slices whose elements are a variable's cells; they may be stored into, appended to, and lent to calls that answer without them. -/
import Derived.Test.YtmljabhmajehnaaDoorP09
import Derived.Test.YtmljabhmajehnaaDoorP15
import Derived.Test.YtmljabhmajehnaaDoorP28
import Derived.Test.YtmljabhmajehnaaDoorP30
import Derived.Test.YtmljabhmajehnaaDoorP22
set_option linter.unusedSimpArgs false
set_option linter.unusedVariables false
section
open Go.RowKit Go.Pl
namespace Go.Av
section
variable {P:Program} {Q:X->St->Prop} {n:Nat} {ee:Nat × Nat} {tm:List (Nat × D)} {bx bx':List (List D)} {fr fr':List Fr} {b0:Bs} {g:G} {w:World} {a:Act} {T:Tab}
variable {ops:Array Oper} {rest:List Oper} {t ty:Nat} {pos:String} {after:Array Edge}
theorem Gw {b o m c:Nat}{v:Value}(h:V w g fr (.bsl b o m c) v):∃ blk cap,g.ρ[b]?=some blk/\m<=cap/\cap<=maxLen/\v=.slice (some ⟨blk,o,none⟩) m cap/\(c=0\/c=cap):=by
 cases h;exact⟨_,_,‹_›,‹_›,‹_›,rfl,‹_›⟩
theorem Gx [Known][Dfr]{x:Operand}{st:Nat}{b o m c:Nat}{ti:Ti}{e:Nat}(hT:chk P T=true)(hx:ev tm x=.bsl b o m c)(ht:tl T st=some ti)(hk:ti.kd=.slice e)(htd:Nat.blt t n=true)
  (kk:AL P ops rest ⟨n,(t,.int .i64 (m:Int))::tm,bx,fr,ee⟩ Q):AL P ops (⟨some t,.call { callee:=.builtin .len,args := #[x],argTypes := #[st] },ty,pos,after,none⟩::rest) ⟨n,tm,bx,fr,ee⟩ Q:=
 ZR _ htd (fun g a w hi=>by
  have h1:V w g fr (ev tm x) (a.eval x):=hi.ev x
  rw[hx]at h1
  obtain⟨blk,cap0,_,_,_,hv,_⟩:=Gw h1
  refine⟨.int .i64 (m:Int),?_,.int _ _⟩
  simp[execOp,resolve,invoke,builtin,Builtin.len_,Sem.run_bind,hv,run_underlying ((ZJ hT ht).slice hk),goInt]) kk
theorem Gy [Known][Dfr](hT:chk P T=true){x y:Operand}{st e:Nat}{k:IntKind}{i:Int}{b m c o2:Nat}{ti te:Ti}(hx:ev tm x=.bsl b 0 m c)(hy:ev tm y=.int k i)(ht:tl T st=some ti)(hk:ti.kd=.slice e)(hte:tl T e=some te)(htd:Nat.blt t n=true)
  (h0:0<=i) (hi2:i<(m:Int)) (ho:i.toNat*te.size=o2)
  (kk:AL P ops rest ⟨n,(t,.ptr b o2)::tm,bx,fr,ee⟩ Q):AL P ops (⟨some t,.indexAddr st x y,ty,pos,after,none⟩::rest) ⟨n,tm,bx,fr,ee⟩ Q:=
 ZR _ htd (fun g a w hi=>by
  have h1:V w g fr (ev tm x) (a.eval x):=hi.ev x
  rw[hx]at h1
  have h2:V w g fr (ev tm y) (a.eval y):=hi.ev y
  rw[hy]at h2
  have h2:=h2.int_inv
  obtain⟨blk,cap0,hb,_,_,hv,_⟩:=Gw h1
  have hu:=(ZJ hT ht).slice hk
  have hsz:=Ye (P:=P) (t:=e) (ZJ hT hte).tSize w
  have hadd:(⟨blk,0,none⟩:Addr).add (i.toNat*te.size)=⟨blk,o2,none⟩:=by rw[Addr.add_mid,Nat.zero_add,ho]
  refine⟨.pointer (some ⟨blk,o2,none⟩),?_,.ptr _ _ _ hb⟩
  have hrun:(Instr.indexAt st (.slice (some ⟨blk,0,none⟩) m cap0) (.int k i)).run P w=.ok (.pointer (some ⟨blk,o2,none⟩)) w:=by
   simp[Instr.indexAt,asIntOf,Sem.run_bind,run_underlying hu,(⟨h0,hi2⟩:0<=i/\i<(m:Int)),hsz,hadd]
  simp[execOp,hv,h2,Sem.run_bind,hrun]) kk
theorem Mem.rowc [Known](hm:Mem g bx fr w){b blk z:Nat}{l:List E}(hb:g.ρ[b]?=some blk)(hx:bx[b]?=some [.row z l]):∃ vs ty,w.heap[blk]?=some (.cells vs ty (0,0))/\(z=0\/vs.size=z)/\l.length<=vs.size /\
  ∀(j:Nat) (e:E) (v:Value),l[j]?=some e->vs[j]?=some v->VE w g.C e v:=by
 obtain⟨vs,ty,h1,h2,h3⟩:=hm.bat b blk _ hb hx
 refine⟨vs,ty,h1,h2.2.2 z l rfl,by have:=h2.2.1;simpa[D.ex]using this,fun j e v he hv=>(h3 j _ v ?_ hv).offC⟩
 show(l.map D.ofC)[j]?=_
 rw[List.getElem?_map,he];rfl
theorem OZ (f:D->D)(hf:f .junk=.junk)(x:Nat):∀ tm:List (Nat × D),look (tm.map fun p=>(p.1,f p.2)) x=f (look tm x)
 | []=>hf.symm
 | p::tm=>by
  simp only[List.map_cons,look]
  split
  ·rfl
  ·exact OZ f hf x tm
def nft:List (Nat × D)->Option (List (Nat × D))
 | []=>some []
 | (k,d)::l=>match nf d,nft l with
  | some d',some l'=>some ((k,d')::l')
  | _,_=>none
theorem TZ:∀ {l l':List (Nat × D)},nft l=some l'->l=l'
 | [],l',h=>by simpa[nft]using h
 | (k,d)::l,l',h=>by
  cases hd:nf d with
  | none=>simp[nft,hd]at h
  | some d'=>
   cases hl:nft l with
   | none=>simp[nft,hd,hl]at h
   | some l''=>simp[nft,hd,hl]at h;rw[<- h,YC hd,TZ hl]
theorem IM [Known][Dfr]{o:Op}(h:∀ b0 g a w,Inv b0 ⟨n,tm,bx,fr,ee⟩ g a w->∃ v w' tm' bx' fr' g' d,(execOp a.eval ⟨some t,o,ty,pos,after,none⟩).run P w=.ok (.value v) w'/\Inv b0 ⟨n,tm',bx',fr',ee⟩ g' a w'/\V w' g' fr' d v/\AL P ops rest ⟨n,(t,d)::tm',bx',fr',ee⟩ Q)(htd:Nat.blt t n=true) :
  AL P ops (⟨some t,o,ty,pos,after,none⟩::rest) ⟨n,tm,bx,fr,ee⟩ Q:=⟨fun b0 g a w hi=>
 wpList_plain rfl fun K hK=>by
  obtain⟨v,w',tm',bx',fr',g',d,hr,hi2,hv,k⟩:=h b0 g a w hi
  unfold Oper.wp
  rw[hr]
  exact hK _ _ (k.run b0 g' _ w' (hi2.put htd hv))⟩
theorem IN (z:Nat)(l:List E):D.ex [.row z l]=l.map .ofC:=rfl
theorem Kn {z n:Nat}{l:List E}(h1:1<=n)(h2:l.length<=n)(h3:z=0\/n=z):D.fits [.row z l] n:=⟨h1,by rw[IN,List.length_map];exact h2,fun z' l' e=>by injection e with e _;injection e with e e2;rw[<- e];exact h3⟩
theorem JE {l:List E}{j:Nat}{d:D}(h:(l.map D.ofC)[j]?=some d):∃ x,l[j]?=some x/\d=D.ofC x:=by
 rw[List.getElem?_map]at h
 cases hj:l[j]? with
 | none=>rw[hj]at h;cases h
 | some x=>rw[hj]at h;exact⟨x,rfl,by injection h with h;exact h.symm⟩
theorem Jr [Known][Dfr](hT:chk P T=true){x y:Operand}{st e m k2:Nat}{l':List E}{ti te:Ti}{bx2:List (List D)}(ht:tl T st=some ti)(hk:ti.kd=.slice e)(hte:tl T e=some te)(hx:emp (ev tm x)=true)(hy:Src bx te.size (ev tm y) l')
  (hpos:Nat.blt 0 te.size=true) (hU':Uni te.size l') (hne:l' ≠ []) (hk2:l'.length=k2) (hlen:l'.length<=maxLen) (hby:l'.length*te.bytes<=140737488355328)
  (hm:bx.length=m) (hbx:nfb (bx++[[.row 0 (flat l')]])=some bx2) (htd:Nat.blt t n=true)
  (k:AL P ops rest ⟨n,(t,.bsl m 0 k2 0)::tm,bx2,fr,ee⟩ Q):AL P ops (⟨some t,.call { callee:=.builtin .append,args := #[x,y],argTypes := #[st,st] },ty,pos,after,none⟩::rest) ⟨n,tm,bx,fr,ee⟩ Q:=
 IM (fun b0 g a w hi=>by
  have h1:V w g fr (ev tm x) (a.eval x):=hi.ev x
  have h2:V w g fr (ev tm y) (a.eval y):=hi.ev y
  obtain⟨A0,hxv⟩:=IZ h1 hx
  obtain⟨ad,c,news,hyv,n1,n2,n3,n4⟩:=hy hi.mem h2 hU' hne
  have hpos':0<l'.length:=List.length_pos_iff.2 hne
  have hpos:0<te.size:=by simpa[Nat.blt_eq]using hpos
  have hu:=(ZJ hT ht).slice hk
  obtain⟨ie,ue,z,i1,i2,i3,i4,i5,i6,i7⟩:=(ZJ hT hte).out
  have hr:=VO (P:=P) A0 w st ty e ie z hu i1 i3 ad l'.length c news (by rw[<- i5];exact n1) n2 hpos' (by simp only[maxLen]at hlen;omega) (by rw[<- i6];omega)
  have hge:=grownCap_ge w l'.length 0 e
  have hcm:=grownCap_le_maxLen w l'.length 0 e hlen
  obtain⟨C2,hC2⟩:∃ C2,C2=grownCap w l'.length 0 e:=⟨_,rfl⟩
  rw[<- hC2]at hr hge hcm
  have hcurr:news.toArray++Builtin.zeroCells z.cells (C2-l'.length)=(news++(Builtin.zeroCells z.cells (C2-l'.length)).toList).toArray:=by simp
  rw[hcurr]at hr
  have hz:=(W6 (w:=w) (g:=g) (fr:=fr) i7).1
  have hzc:z.cells.size=ie.size:=by
   rw[<- Array.length_toList,hz,<- i5]
   exact(Kx hT hte).symm
  have hfl:=hU'.flat
  have hd:Mem g bx fr w.drew:=hi.mem.drew
  have hzl:(Builtin.zeroCells z.cells (C2-l'.length)).toList.length=(C2-l'.length)*te.size:=by rw[Array.length_toList,size_zeroCells,hzc,<- i5]
  have hmul:C2*te.size=l'.length*te.size+(C2-l'.length)*te.size:=by rw[<- Nat.add_mul];congr 1;omega
  obtain⟨k1,k2⟩:=hd.box0 (news++(Builtin.zeroCells z.cells (C2-l'.length)).toList) [.row 0 (flat l')] e (by
    rw[List.length_append,hzl,n1,<- hmul]
    exact Kn (by have:1<=l'.length*te.size:=Nat.mul_pos hpos' hpos;omega) (by rw[hfl];omega) (.inl rfl)) (fun j d u hd hu=>by
   rw[IN]at hd
   obtain⟨x2,hx2,rfl⟩:=JE hd
   have hj:=(List.getElem?_eq_some_iff.1 hx2).1
   rw[List.getElem?_append_left (by omega)]at hu
   exact V.ofC (n4 j x2 u hx2 hu).drew)
  have e1:=Wg hbx
  subst hm hk2
  rw[e1]at k2
  have hevo:=Evo.drew.trans k1
  refine⟨.slice (some ⟨w.heap.size,0,none⟩) l'.length C2,_,tm,bx2,fr,_,.bsl bx.length 0 l'.length 0,by simp only[execOp,resolve,invoke,builtin,Sem.run_bind,Sem.run_pure,Result.andThen_ok,List.map_toArray,List.map_cons,List.map_nil,hxv,hyv,hr],⟨hi.size,hi.defers,k2,fun t=>(hi.tm t).evo hevo,hi.evo.trans hevo,hi.bd⟩,.bsl _ 0 _ 0 w.heap.size C2 ?_ hge hcm (.inl rfl),k⟩
  have:=hi.mem.bl
  dsimp only at this
  show(g.ρ++[w.drew.heap.size])[bx.length]?=_
  rw[List.getElem?_append_right (by omega),this,Nat.sub_self]
  rfl) htd
def Uj (l:List E)(o:Nat)(es:List E):List E:=l.take o++(es++l.drop (o+es.length))
theorem Ko [Known][Dfr](hT:chk P T=true){x y:Operand}{lt b o z:Nat}{l es l2:List E}{d:D}{ti:Ti}(hx:ev tm x=.ptr b o)(hy:nf (ev tm y)=some d)(hes:D.toEs d.cellsOf=some es)(ht:tl T lt=some ti)(hs:Nat.beq es.length ti.size=true)(hb:bx[b]?=some [.row z l])
  (hle:o+es.length<=l.length) (hl2:Uj l o es=l2) (hb':nfb (bx.set b [.row z l2])=some bx')
  (k:AL P ops rest ⟨n,tm,bx',fr,ee⟩ Q):AL P ops (⟨none,.store lt x y,ty,pos,after,none⟩::rest) ⟨n,tm,bx,fr,ee⟩ Q:=
 IV (fun g a w hi=>by
  have h1:V w g fr (ev tm x) (a.eval x):=hi.ev x
  rw[hx]at h1
  obtain⟨blk,h2,h3⟩:=Jw h1
  have hv:V w g fr (ev tm y) (a.eval y):=hi.ev y
  rw[YC hy]at hv
  have hlen:=(Qr hes).1
  have ho:D.ones d.cellsOf=true:=by
   have:∀ {ds:List D} {es:List E},D.toEs ds=some es->D.ones ds=true:=by
    intro ds
    induction ds with
    | nil=>intros;rfl
    | cons d0 ds ih=>
     intro es h
     cases hd0:d0.toE1 with
     | none=>simp[D.toEs,hd0]at h
     | some e0=>
      cases hds:D.toEs ds with
      | none=>simp[D.toEs,hd0,hds]at h
      | some es0=>
       have:d0.one=true:=by cases d0<;>first|rfl|(simp[D.toE1]at hd0)
       simp only[D.ones,this]
       exact ih hds
   exact this hes
  obtain⟨vs,q2,q3,q4⟩:=hv.cells ho
  have hm:=hi.mem
  obtain⟨us,ut,r1,r2,r0,r3⟩:=hm.rowc h2 hb
  have hs':=Nat.eq_of_beq_eq_true hs
  have hvs1:∀ v ∈ vs,v.oneCell'=true:=fun v hv=>by
   obtain⟨j,hj⟩:=List.getElem?_of_mem hv
   have hlt:j<d.cellsOf.length:=by rw[<- q3];exact(List.getElem?_eq_some_iff.1 hj).1
   exact(q4 j _ v (List.getElem?_eq_getElem hlt) hj).one (VN ho (List.getElem?_eq_getElem hlt))
  have hrun:=run_storeCells_at (P:=P) blk o ut vs 0 us w r1 (by omega) hvs1
  have hag:=(ZJ hT ht)
  obtain⟨w',hw'⟩:∃ w',w'=w.setRow blk (us.toList.take (o+0)++vs++us.toList.drop (o+0+vs.length)).toArray:=⟨_,rfl⟩
  have hheap:w'.heap[blk]?=some (.cells (us.toList.take (o+0)++vs++us.toList.drop (o+0+vs.length)).toArray ut (0,0)):=by
   rw[hw'];exact setRow_heap w blk us _ ut _ r1
  have hfar:∀ k,k ≠ blk->w'.heap[k]?=w.heap[k]? := fun k hk=>by
   rw[hw'];simp only[World.setRow,Array.getElem?_modify];rw[if_neg (fun e=>hk e.symm)]
  have hsize:w'.heap.size=w.heap.size:=by rw[hw'];simp[World.setRow]
  have hcell:∀ k p,g.C k p->w'.cell? ⟨k,p,none⟩=w.cell? ⟨k,p,none⟩:=fun k p hC=>World.cell?_of_block (w:=w) (hfar k fun e=>by
   subst e;exact hm.bC k p (List.mem_of_getElem? h2) hC)
  have hevo:Evo ⟨g,fr,w⟩ ⟨g,fr,w'⟩:=⟨by rw[hw'];rfl,by rw[hw'];rfl,by rw[hw'];rfl,by rw[hsize];exact Nat.le_refl _,fun k hk hn=>hfar k fun e=>hn (.inl (e ▸ List.mem_of_getElem? h2)),fun _ _ h=>h,hcell,fun _ _ h=>.inl h,fun _ _ h=>h,fun _ h=>.inl h,fun _ c h=>.inl ⟨c,h⟩,We.refl _ _⟩
  refine⟨w',g,?_,hevo,?_⟩
  ·rw[<- hw']at hrun
   have hsz:(sizeOf lt).run P w=.ok vs.length w:=Ye (by rw[hag.tSize,q3,hlen,hs']) w
   simp[execOp,h3,Instr.storeAt,Instr.sureAddr,storeVar,Sem.run_bind,q2,hsz,hrun]
  ·rw[<- Wg hb']
   have hl2l:l2.length=l.length:=by rw[<- hl2];simp[Uj];omega
   constructor
   ·simp[hm.bl]
   ·intro i k cs' e1 e2
    by_cases hib:i=b
    ·subst hib
     rw[h2]at e1
     injection e1 with e1
     subst e1
     have hlt:i<bx.length:=(List.getElem?_eq_some_iff.1 hb).1
     rw[List.getElem?_set_self hlt]at e2
     injection e2 with e2
     subst e2
     obtain⟨us2,ut2,p1,p2,_⟩:=hm.bat i blk _ h2 hb
     rw[r1]at p1
     injection p1 with p1
     injection p1 with p1 p4
     subst p1 p4
     have hz1:1<=us.size:=p2.1
     have hsz2:(us.toList.take (o+0)++vs++us.toList.drop (o+0+vs.length)).toArray.size=us.size:=by simp;omega
     refine⟨_,ut,hheap,by rw[hsz2];exact Kn (by omega) (by omega) r2,fun j c u hc hu=>?_⟩
     rw[IN]at hc
     obtain⟨x2,hx2,rfl⟩:=JE hc
     ·have hu:(us.toList.take o++vs++us.toList.drop (o+vs.length))[j]?=some u:=by simpa using hu
      rw[<- hl2,Uj]at hx2
      rw[List.append_assoc]at hu
      have hvl:vs.length=es.length:=by rw[q3,hlen]
      rcases Nat.lt_or_ge j o with hjo|hjo
      ·rw[List.getElem?_append_left (by simp;omega),List.getElem?_take,if_pos hjo]at hx2 hu
       exact V.ofC ((r3 j x2 u hx2 (by simpa using hu)).mono hevo.C hevo.cell)
      ·rw[List.getElem?_append_right (by simp;omega)]at hx2 hu
       simp only[List.length_take,Nat.min_eq_left (show o<=l.length by omega)]at hx2
       simp only[List.length_take,Nat.min_eq_left (show o<=us.toList.length by simp;omega)]at hu
       rcases Nat.lt_or_ge (j-o) vs.length with hj2|hj2
       ·rw[List.getElem?_append_left (by omega)]at hx2
        rw[List.getElem?_append_left hj2]at hu
        obtain⟨d0,hd0,hd1⟩:=(Qr hes).2 _ x2 hx2
        exact V.ofC (((q4 (j-o) d0 u hd0 hu).toE1 hd1).mono hevo.C hevo.cell)
       ·rw[List.getElem?_append_right (by omega),List.getElem?_drop]at hx2
        rw[List.getElem?_append_right hj2,List.getElem?_drop]at hu
        rw[hvl]at hu
        exact V.ofC ((r3 _ x2 u hx2 (by simpa using hu)).mono hevo.C hevo.cell)
    ·rw[List.getElem?_set_ne (Ne.symm hib)]at e2
     obtain⟨us',ut',t1,t2,t3⟩:=hm.bat i k cs' e1 e2
     have hne:k ≠ blk:=fun e=>by
      subst e
      exact hib (hm.bN i b k e1 h2)
     exact⟨us',ut',(hfar k hne).trans t1,t2,fun j c u hc hu=>(t3 j c u hc hu).evo hevo⟩
   ·exact hm.bC
   ·exact hm.bN
   ·exact hm.tl
   ·intro i k c f e1 e2
    have hTk:=hm.tat i k c f e1 e2
    obtain⟨cur,s1,s2⟩:=hTk.row
    have hne:k ≠ blk:=fun e=>by
     subst e
     exact hm.tρ k c (List.mem_of_getElem? e1) (List.mem_of_getElem? h2)
    exact⟨⟨cur,(hfar k hne).trans s1,s2⟩,hTk.le,hTk.max,hTk.pos,hTk.far⟩
   ·exact hm.tN
   ·exact hm.tρ
   ·intro k p hC
    rw[hsize];exact hm.Clt k p hC
   ·exact hm.gl.evo hevo) k
end
end Go.Av
end
section
open Go.RowKit Go.Pl Go.Av
namespace Go.Proofs.YtmljabhmajehnaaDoor
theorem Kp:∀ {l pre:List BlkV} {c:BlkV},Us pre (l++[c])=true->Yh c=true/\∀ d ∈ pre++l,d.num ≠ c.num/\(d.ty ≠ c.ty\/QS c.ty=false)
 | [],pre,c,h=>by
  rw[List.nil_append,Us]at h
  simp only[Bool.and_eq_true,List.all_eq_true]at h
  refine⟨h.1,fun d hd=>?_⟩
  rw[List.append_nil]at hd
  have:=h.2.1 d hd
  simp only[bne_iff_ne,ne_eq,Bool.or_eq_true,Bool.not_eq_true']at this
  exact this
 | x::l,pre,c,h=>by
  rw[List.cons_append,Us]at h
  simp only[Bool.and_eq_true]at h
  obtain⟨h1,h2⟩:=Kp h.2.2
  refine⟨h1,fun d hd=>h2 d ?_⟩
  simpa using hd
theorem O0:∀ {l pre:List BlkV} {c:BlkV},Us pre (l++[c,c])=false
 | [],pre,c=>by
  rw[List.nil_append,Us,Us]
  simp[List.all_append]
 | x::l,pre,c=>by
  rw[List.cons_append,Us,O0]
  simp
theorem Ht {l:List BlkV}(h:U0 l=true):∃(init:List BlkV) (c:BlkV),l=init++[c]/\c.ty=1/\∀ d ∈ init,d.ty ≠ 1:=by
 unfold U0 at h
 split at h
 ·cases h
 ·rename_i c hc
  simp only[Bool.and_eq_true,decide_eq_true_eq,beq_iff_eq]at h
  obtain⟨init,rfl⟩:∃ init,l=init++[c]:=⟨l.dropLast,by
   have hne:l ≠ []:=fun e=>by subst e;simp at hc
   have:=List.dropLast_concat_getLast hne
   rw[List.getLast?_eq_some_getLast hne]at hc
   injection hc with hc
   rw[hc]at this
   exact this.symm⟩
  refine⟨init,c,rfl,h.2.1,fun d hd he=>?_⟩
  obtain⟨_,h2⟩:=Kp h.2.2.2
  have:=(h2 d (by simpa using hd)).2
  rcases this with h3|h3
  ·exact h3 (by rw[he,h.2.1])
  ·rw[h.2.1]at h3
   cases h3
theorem O1 {b:BunV}(h:Z8 b=true):∃(init:List BlkV) (c:BlkV),b.bl=init++[c]/\c.ty=1/\(∀ d ∈ init,d.ty ≠ 1)/\Z8 ⟨b.p,init++[c]++[c]⟩=false/\Z8 ⟨b.p,init⟩=false:=by
 have hf:U0 b.bl=true:=by
  unfold Z8 at h
  simp only[Bool.and_eq_true]at h
  exact h.1
 obtain⟨init,c,h1,h2,h3⟩:=Ht hf
 refine⟨init,c,h1,h2,h3,?_,?_⟩
 ·have:U0 (init++[c]++[c])=false:=by
   unfold U0
   rw[List.getLast?_append]
   simp only[List.getLast?_singleton,Option.some_or]
   rw[List.append_assoc,List.cons_append,List.nil_append,O0]
   simp
  unfold Z8
  rw[this]
  rfl
 ·have:U0 init=false:=by
   unfold U0
   split
   ·rfl
   ·rename_i d hd
    have:=h3 d (List.mem_of_getLast? hd)
    simp[this]
  unfold Z8
  rw[this]
  rfl
theorem T0 (p:PriV)(init:List BlkV)(c:BlkV):N2 ⟨p,init++[c]⟩=c.data:=by
 unfold N2
 simp
theorem T1 (init:List BlkV)(c:BlkV)(p:List UInt8):Uj (flat (Z0 (init++[c]))) (((init.length:Nat):Int).toNat*5+4) [.sl (p.map E.byte)]=flat (Z0 (init++[⟨c.ty,c.num,c.fl,c.sum,p⟩])):=by
 have e:(flat (Z0 init)).length=init.length*5:=by rw[(Xx init).flat,VC]
 have h:∀ d:List UInt8,flat (Z0 (init++[⟨c.ty,c.num,c.fl,c.sum,d⟩]))=flat (Z0 init)++[.int .u64 (c.ty:Int),.int .u64 (c.num:Int),.int .u64 (c.fl:Int),.int .i64 c.sum,.sl (d.map E.byte)]:=fun d=>by
  rw[Z0,List.map_append,Jf]
  rfl
 have hc:=h c.data
 rw[show(⟨c.ty,c.num,c.fl,c.sum,c.data⟩:BlkV)=c from rfl]at hc
 rw[hc,h p,Int.toNat_natCast]
 unfold Uj
 rw[<- e,List.take_append,List.drop_append]
 rw[List.take_of_length_le (by omega),List.drop_eq_nil_of_le (by simp only[List.length_cons,List.length_nil];omega)]
 simp only[List.length_cons,List.length_nil,Nat.add_sub_cancel_left]
 have e2:(flat (Z0 init)).length+4+(0+1)-(flat (Z0 init)).length=5:=by omega
 rw[e2]
 simp
theorem N3 {c:BlkV}(h:Yh c=true):c.data.length<=200:=by
 unfold Yh Xc at h
 simp only[Bool.and_eq_true,decide_eq_true_eq]at h
 have:=h.2.2.2.2.2
 omega
end Go.Proofs.YtmljabhmajehnaaDoor
end
section
open Go.RowKit Go.Pl
namespace Go.Av
mutual
def LJ (l:List E):D->D
 | .bsl _ _ _ _=>.sl .ext l
 | .sl _ l'=>.sl .ext l'
 | .agg ds=>.agg (T2 l ds)
 | .bool b=>.bool b
 | .int k n=>.int k n
 | .str s=>.str s
 | .nilp=>.nilp
 | .eptr cs o=>.eptr cs o
 | .gptr k o=>.gptr k o
 | .nilf=>.nilf
 | .nili=>.nili
 | _=>.junk
def T2 (l:List E):List D->List D
 | []=>[]
 | d::ds=>LJ l d::T2 l ds
end
mutual
def LOk (b n:Nat):D->Prop
 | .bsl b' o n' _=>b'=b/\o=0/\n'=n
 | .agg ds=>LK b n ds
 | _=>True
def LK (b n:Nat):List D->Prop
 | []=>True
 | d::ds=>LOk b n d/\LK b n ds
end
def G.lent (g:G):G:=⟨fun k o=>g.C k o\/k ∈ g.ρ,[],[]⟩
section
variable {P:Program} {Q:X->St->Prop} {n:Nat} {ee:Nat × Nat} {tm:List (Nat × D)} {bx bx':List (List D)} {fr fr':List Fr} {b0:Bs} {g g':G} {w w':World} {a:Act} {T:Tab}
variable {ops:Array Oper} {rest:List Oper} {t ty:Nat} {pos:String} {after:Array Edge}
mutual
def plD:D->D
 | .bool b=>.bool b
 | .int k n=>.int k n
 | .str s=>.str s
 | .nilp=>.nilp
 | .sl _ l=>match l with
  | []=>.sl .ext []
  | _::_=>.junk
 | .agg ds=>.agg (M2 ds)
 | .tup ds=>.tup (M2 ds)
 | .nilf=>.nilf
 | .nili=>.nili
 | _=>.junk
def M2:List D->List D
 | []=>[]
 | d::ds=>plD d::M2 ds
end
end
section
variable {P:Program} {Q:X->St->Prop} {n:Nat} {ee:Nat × Nat} {tm:List (Nat × D)} {bx:List (List D)} {fr:List Fr} {ops:Array Oper} {rest:List Oper} {ty:Nat} {pos:String} {after:Array Edge} {f:FuncId} {ars:Array Operand} {ats:Array TypeId}
end
end Go.Av
end
section
open Go.RowKit Go.Pl
namespace Go.Av
mutual
def stD (b:Nat)(l:List E):D->D
 | .bsl b' o n c=>match Nat.blt b' b with
  | true=>.bsl b' o n c
  | false=>match Nat.beq b' b with
   | true=>.sl .ext l
   | false=>.junk
 | .ptr b' o=>match Nat.blt b' b with
  | true=>.ptr b' o
  | false=>.junk
 | .sl t l'=>.sl t l'
 | .agg ds=>.agg (U1 b l ds)
 | .tup ds=>.tup (U1 b l ds)
 | .fn f ds=>.fn f (U1 b l ds)
 | .iface t d=>.iface t (stD b l d)
 | .bool b=>.bool b
 | .int k n=>.int k n
 | .str s=>.str s
 | .nilp=>.nilp
 | .eptr cs o=>.eptr cs o
 | .gptr k o=>.gptr k o
 | .nilf=>.nilf
 | .nili=>.nili
 | .junk=>.junk
 | .row z l=>.row z l
def U1 (b:Nat)(l:List E):List D->List D
 | []=>[]
 | d::ds=>stD b l d::U1 b l ds
end
theorem V4 (b:Nat)(l:List E)(ds:List D):U1 b l ds=ds.map (stD b l):=by
 induction ds with
 | nil=>rfl
 | cons d ds ih=>simp[U1,ih]
mutual
def SOk (b n:Nat):D->Prop
 | .bsl b' o n' _=>Nat.blt b' b=true\/Nat.blt b b'=true\/(b'=b/\o=0/\n'=n)
 | .agg ds=>Jv b n ds
 | .tup ds=>Jv b n ds
 | .fn _ ds=>Jv b n ds
 | .iface _ d=>SOk b n d
 | _=>True
def Jv (b n:Nat):List D->Prop
 | []=>True
 | d::ds=>SOk b n d/\Jv b n ds
end
def O2 (b n:Nat):List (Nat × D)->Prop
 | []=>True
 | p::l=>SOk b n p.2/\O2 b n l
def O3 (b n:Nat):List (List D)->Prop
 | []=>True
 | p::l=>Jv b n p/\O3 b n l
theorem Hu {b n k:Nat}{d:D}{tm:List (Nat × D)}(h:SOk b n d)(q:O2 b n tm):O2 b n ((k,d)::tm):=⟨h,q⟩
theorem Hv {b n:Nat}{d:List D}{bx:List (List D)}(h:Jv b n d)(q:O3 b n bx):O3 b n (d::bx):=⟨h,q⟩
theorem Xm {b n:Nat}:∀ {ds:List D} {j:Nat} {d:D},Jv b n ds->ds[j]?=some d->SOk b n d
 | [],j,d,_,h=>by simp at h
 | x::ds,0,d,h,hd=>by simp at hd;subst hd;exact h.1
 | x::ds,j+1,d,h,hd=>by simp at hd;exact Xm h.2 hd
theorem Kq {b n:Nat}:∀ {tm:List (Nat × D)} (t:Nat),O2 b n tm->SOk b n (look tm t)
 | [],_,_=>True.intro
 | p::tm,t,h=>by
  simp only[look]
  split
  ·exact h.1
  ·exact Kq t h.2
theorem O4 {b n:Nat}:∀ {bx:List (List D)} {j:Nat} {ds:List D},O3 b n bx->bx[j]?=some ds->Jv b n ds
 | [],j,d,_,h=>by simp at h
 | x::ds,0,d,h,hd=>by simp at hd;subst hd;exact h.1
 | x::ds,j+1,d,h,hd=>by simp at hd;exact O4 h.2 hd
section
variable {P:Program} {Q:X->St->Prop} {n:Nat} {ee:Nat × Nat} {tm:List (Nat × D)} {bx bx':List (List D)} {fr fr':List Fr} {b0:Bs} {g g':G} {w w':World} {a:Act} {T:Tab}
variable {ops:Array Oper} {rest:List Oper} {t ty:Nat} {pos:String} {after:Array Edge}
theorem V.st [Known]{b blk z:Nat}{l:List E}{d:D}{v:Value}(hm:Mem g bx fr w)(hr:g.ρ[b]?=some blk)(hb:bx[b]?=some [.row z (flat l)])(h:V w g fr d v){m:Nat}(hl:l.length=m)(ho:SOk b m d) :
  V w ⟨fun k o=>g.C k o\/k=blk,g.ρ.take b,g.τ⟩ fr (stD b l d) v:=by
 have hE:∀ {e v},VE w g.C e v->VE w (fun k o=>g.C k o\/k=blk) e v:=fun hv=>hv.mono (fun _ _ h=>.inl h) fun _ _ _=>rfl
 have key:∀ {ds:List D} {vs:List Value},(∀(j:Nat) (d:D) (v:Value),ds[j]?=some d->vs[j]?=some v->SOk b m d->V w ⟨fun k o=>g.C k o\/k=blk,g.ρ.take b,g.τ⟩ fr (stD b l d) v)->Jv b m ds ->
   ∀(j:Nat) (d:D) (v:Value),(U1 b l ds)[j]?=some d->vs[j]?=some v->V w ⟨fun k o=>g.C k o\/k=blk,g.ρ.take b,g.τ⟩ fr d v:=by
  intro ds vs h ho j d v hd hv
  rw[V4,List.getElem?_map]at hd
  cases hj:ds[j]? with
  | none=>rw[hj]at hd;cases hd
  | some d0=>
   rw[hj]at hd
   injection hd with hd
   subst hd
   exact h j d0 v hj hv (Xm ho hj)
 induction h with
 | bool b=>exact .bool b
 | int k n=>exact .int k n
 | str s h=>exact .str s h
 | sl t l v h hk=>exact .sl t l v (hE h) (hk.mono fun i f hf=>⟨f,hf,Nat.le_refl _,fun _=>rfl⟩)
 | nilp=>exact .nilp
 | ptr b' o blk' h=>
  simp only[stD]
  split
  ·rename_i hlt
   refine .ptr b' o blk' ?_
   show(g.ρ.take b)[b']?=_
   rw[List.getElem?_take,if_pos (by simpa[Nat.blt_eq]using hlt)];exact h
  ·exact .junk _
 | eptr cs o blk off us hc hw' hv=>exact .eptr cs o blk off us (fun j hj=>.inl (hc j hj)) hw' (fun j e he=>hE (hv j e he))
 | gptr k o=>exact .gptr k o
 | bsl b' o n c blk' cap h h1 h2 h3=>
  simp only[stD]
  split
  ·rename_i hlt
   refine .bsl b' o n c blk' cap ?_ h1 h2 h3
   show(g.ρ.take b)[b']?=_
   rw[List.getElem?_take,if_pos (by simpa[Nat.blt_eq]using hlt)];exact h
  ·rename_i hlt
   split
   ·rename_i heq
    have heq:=Nat.eq_of_beq_eq_true heq
    subst heq
    rcases ho with ho|ho|⟨_,h0,hn⟩
    ·rw[ho]at hlt;cases hlt
    ·simp[Nat.blt_eq]at ho
    subst h0 hn
    subst hl
    rw[hr]at h;injection h with h;subst h
    obtain⟨vs,ut,r1,r2,r3,r4⟩:=hm.rowc hr hb
    refine .sl .ext l _ ?_ trivial
    refine .slC l blk 0 cap (fun j=>vs.toList.getD j undef) h1 h2 (fun j hj=>.inr rfl) (fun j hj=>?_) (fun j x hx=>?_)
    ·rw[Nat.zero_add,cell_of_row w blk j vs ut (0,0) r1]
     have:j<vs.size:=by omega
     simp[List.getD,this]
    ·have hj:=(List.getElem?_eq_some_iff.1 hx).1
     have hlt:j<vs.size:=by omega
     exact hE (r4 j x _ hx (by simp[List.getD,hlt]))
   ·exact .junk _
 | agg ds vs hl' _ ih=>exact .agg _ vs (by rw[V4];simpa using hl') (key ih ho)
 | tup ds vs hl' _ ih=>exact .tup _ vs (by rw[V4];simpa using hl') (key ih ho)
 | fn f ds vs hl' _ ih=>exact .fn f _ vs (by rw[V4];simpa using hl') (key ih ho)
 | nilf=>exact .nilf
 | iface t d v _ ih=>exact .iface t _ v (ih ho)
 | nili=>exact .nili
 | junk v=>exact .junk v
 | row z l v=>exact .row z l v
theorem M3 (b:Nat)(l:List E)(e:E):stD b l (.ofC e)=.ofC e:=by cases e<;>rfl
theorem LM (b:Nat)(l:List E){cs:List D}(j:Nat){d:D}(h:(D.ex (U1 b l cs))[j]?=some d):∃ d0,(D.ex cs)[j]?=some d0/\d=stD b l d0:=by
 cases hr:D.isRow cs with
 | true=>
  obtain⟨z,l',rfl⟩:=VD hr
  have h:(l'.map D.ofC)[j]?=some d:=h
  refine⟨d,h,?_⟩
  obtain⟨x,_,rfl⟩:=JE h
  exact(M3 b l x).symm
 | false=>
  have hr2:D.isRow (U1 b l cs)=false:=by
   match cs,hr with
   | [],_=>rfl
   | [d],hr=>cases d<;>first|rfl|(simp only[U1,stD];repeat' split)<;>first|rfl|(simp[D.isRow]at hr)
   | _::_::_,_=>rfl
  rw[Vv hr2,V4,List.getElem?_map]at h
  rw[Vv hr]
  cases hj:cs[j]? with
  | none=>rw[hj]at h;cases h
  | some d0=>rw[hj]at h;injection h with h;exact⟨d0,rfl,h.symm⟩
theorem N4 (b:Nat)(l:List E){cs:List D}{m:Nat}(h:D.fits cs m):D.fits (U1 b l cs) m:=by
 cases hr:D.isRow cs with
 | true=>
  obtain⟨z,l',rfl⟩:=VD hr
  exact h
 | false=>
  have hr2:D.isRow (U1 b l cs)=false:=by
   match cs,hr with
   | [],_=>rfl
   | [d],hr=>cases d<;>first|rfl|(simp only[U1,stD];repeat' split)<;>first|rfl|(simp[D.isRow]at hr)
   | _::_::_,_=>rfl
  exact Ks (by rw[V4,List.length_map];exact h.1) hr2
theorem Inv.settle [Known][Dfr]{b z m:Nat}{l:List E}(hl:l.length=m)(hi:Inv b0 ⟨n,tm,bx,fr,ee⟩ g a w)(hb:bx[b]?=some [.row z (flat l)])(hge:ee.1<=b)(ho:O2 b m tm)(hob:O3 b m (bx.take b)) :
  ∃ blk,Inv b0 ⟨n,tm.map (fun p=>(p.1,stD b l p.2)),(bx.take b).map (U1 b l),fr,ee⟩ ⟨fun k o=>g.C k o\/k=blk,g.ρ.take b,g.τ⟩ a w:=by
 have hm:=hi.mem
 have hbl:=hm.bl
 dsimp only at hm hbl
 have hlt:b<g.ρ.length:=by rw[hbl];exact(List.getElem?_eq_some_iff.1 hb).1
 obtain⟨blk,hr⟩:∃ blk,g.ρ[b]?=some blk:=⟨_,List.getElem?_eq_getElem hlt⟩
 refine⟨blk,?_⟩
 have he:=hi.evo
 have hge':b0.g.ρ.length<=b:=Nat.le_trans hi.bd.1 hge
 have htk:∀(i k:Nat),(g.ρ.take b)[i]?=some k->i<b/\g.ρ[i]?=some k:=fun i k h=>by
  rw[List.getElem?_take]at h
  split at h
  ·exact⟨‹_›,h⟩
  ·cases h
 have hVd:∀ {d v},V w g fr d v->SOk b m d->V w ⟨fun k o=>g.C k o\/k=blk,g.ρ.take b,g.τ⟩ fr (stD b l d) v:=fun h ho=>h.st hm hr hb hl ho
 refine⟨hi.size,hi.defers,⟨?_,?_,?_,?_,hm.tl,?_,hm.tN,?_,?_,?_⟩,fun x=>?_,⟨he.os,he.tape,he.output,he.size,he.block,fun k o h=>.inl (he.C k o h),he.cell,fun k o h=>?_,fun i k h=>?_,fun k h=>he.ρn k (List.mem_of_mem_take h),he.τn,he.tok⟩,hi.bd⟩
 ·simp[hbl]
 ·intro i k cs h1 h2
  obtain⟨hib,h3⟩:=htk i k h1
  rw[List.getElem?_map]at h2
  cases hc:(bx.take b)[i]? with
  | none=>simp[hc]at h2
  | some cs0=>
   simp[hc]at h2
   subst h2
   have hc':=hc
   rw[List.getElem?_take,if_pos hib]at hc'
   obtain⟨us,ut,q1,q2,q3⟩:=hm.bat i k cs0 h3 hc'
   refine⟨us,ut,q1,N4 b l q2,fun j d v hd hv'=>?_⟩
   obtain⟨d0,hd0,rfl⟩:=LM b l j hd
   refine hVd (q3 j d0 v hd0 hv') ?_
   have hos:=O4 hob hc
   cases hrw:D.isRow cs0 with
   | true=>
    obtain⟨z',l',rfl⟩:=VD hrw
    obtain⟨x,_,rfl⟩:=JE (show(l'.map D.ofC)[j]?=some d0 from hd0)
    cases x<;>exact True.intro
   | false=>
    rw[Vv hrw]at hd0
    exact Xm hos hd0
 ·intro k o hk hC
  obtain⟨i,hi'⟩:=List.getElem?_of_mem hk
  obtain⟨hib,h3⟩:=htk i k hi'
  rcases hC with hC|rfl
  ·exact hm.bC k o (List.mem_of_getElem? h3) hC
  ·have:=hm.bN i b k h3 hr;omega
 ·intro i j k h1 h2
  exact hm.bN i j k (htk i k h1).2 (htk j k h2).2
 ·intro i k c f h1 h2
  have hT:=hm.tat i k c f h1 h2
  refine⟨hT.row,hT.le,hT.max,hT.pos,fun o ho hC=>?_⟩
  rcases hC with hC|rfl
  ·exact hT.far o ho hC
  ·exact hm.tρ k c (List.mem_of_getElem? h1) (List.mem_of_getElem? hr)
 ·intro k c hk h
  exact hm.tρ k c hk (List.mem_of_mem_take h)
 ·intro k o hC
  rcases hC with hC|rfl
  ·exact hm.Clt k o hC
  ·exact hm.lt (.inl (List.mem_of_getElem? hr))
 ·exact⟨fun k cs hk j v hv=>⟨.inl (hm.gl.1 k cs hk j v hv).1,(hm.gl.1 k cs hk j v hv).2⟩,fun k t hk=>⟨.inl (hm.gl.2 k t hk).1,(hm.gl.2 k t hk).2⟩⟩
 ·have hl:look (tm.map fun p=>(p.1,stD b l p.2)) x=stD b l (look tm x):=OZ (stD b l) rfl x tm
  dsimp only
  rw[hl]
  exact hVd (hi.tm x) (Kq x ho)
 ·rcases h with h|rfl
  ·exact he.newC k o h
  ·rcases he.ρn k (List.mem_of_getElem? hr) with h|h
   ·exact .inr (.inr (.inl h))
   ·exact .inr (.inl h)
 ·have:=(List.getElem?_eq_some_iff.1 h).1
  show(g.ρ.take b)[i]?=_
  rw[List.getElem?_take,if_pos (by omega)]
  exact he.ρp i k h
theorem Hw [Known][Dfr]{b z m:Nat}{l:List E}{tm2:List (Nat × D)}{bx2:List (List D)}(hb:bx[b]?=some [.row z (flat l)])(hge:Nat.ble ee.1 b=true)(hl:l.length=m)(ho:O2 b m tm)(hob:O3 b m (bx.take b))
  (htm:nft (tm.map fun p=>(p.1,stD b l p.2))=some tm2) (hbx:nfb ((bx.take b).map (U1 b l))=some bx2) (k:AL P ops rest ⟨n,tm2,bx2,fr,ee⟩ Q):AL P ops rest ⟨n,tm,bx,fr,ee⟩ Q:=⟨fun b0 g a w hi=>by
 obtain⟨blk,h⟩:=hi.settle hl hb (Nat.le_of_ble_eq_true hge) ho hob
 have e1:=TZ htm
 have e2:=Wg hbx
 subst e1 e2
 exact k.run b0 _ a w h⟩
theorem T3 [Known][Dfr](hT:chk P T=true){st e:Nat}{ti te:Ti}{parts:Array (Nat × Operand)}(ht:tl T st=some ti)(hk:ti.kd=.slice e)(hte:tl T e=some te)(hp:parts = #[])(hpos:Nat.blt 0 te.size=true)(htd:Nat.blt t n=true)
  (k:AL P ops rest ⟨n,(t,.sl .zero [])::tm,bx,fr,ee⟩ Q):AL P ops (⟨some t,.buildSlice st 0 parts,ty,pos,after,none⟩::rest) ⟨n,tm,bx,fr,ee⟩ Q:=
 IM (fun b0 g a w hi=>by
  obtain⟨cs,c1,c2,c3,c4,c5⟩:=Ii (t:=t) (ty:=ty) (pos:=pos) (after:=after) hT ht hk hte (parts:=parts) (xs:=[]) (ds:=[]) (es:=[]) (len:=0) (by rw[hp];rfl) rfl rfl rfl rfl hpos (by rw[Nat.zero_mul];rfl) hi
  have hev:Evo ⟨g,fr,w⟩ ⟨g,fr,w.alloc (.cells cs.toArray e)⟩:=Evo.al hi.mem _
  have hi2:Inv b0 ⟨n,tm,bx,fr,ee⟩ g a (w.alloc (.cells cs.toArray e)):=⟨hi.size,hi.defers,Mem.al hi.mem _,fun t=>(hi.tm t).evo hev,hi.evo.trans hev,hi.bd⟩
  exact⟨.slice (some ⟨w.heap.size,0,none⟩) 0 0,_,tm,bx,fr,g,.sl .zero [],c5,hi2,.sl _ _ _ (.slE _ _ (Nat.zero_le _)) ⟨_,rfl⟩,k⟩) htd
end
end Go.Av
end
