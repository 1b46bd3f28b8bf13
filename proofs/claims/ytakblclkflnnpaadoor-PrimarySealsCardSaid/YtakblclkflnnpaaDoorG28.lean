/- Rows of one's own, lent to calls that answer without them; functions that hand on a row of one's own. -/
import Derived.Test.YtakblclkflnnpaaDoorG23
import Derived.Test.YtakblclkflnnpaaDoorG21
import Derived.Test.YtakblclkflnnpaaDoorG15
import Derived.Test.YtakblclkflnnpaaDoorG01
import Derived.Test.YtakblclkflnnpaaDoorG07
import Derived.Test.YtakblclkflnnpaaDoorProg
import Derived.Test.YtakblclkflnnpaaDoorG22
import Derived.Test.YtakblclkflnnpaaDoorG27
import Derived.Test.YtakblclkflnnpaaDoorG24
set_option linter.unusedSimpArgs false
set_option linter.unusedVariables false
section
open Go.RowKit Go.Pl
namespace Go.Av
mutual
def ZlE (l:List E):D->D
 | .bsl _ _ _ _=>.sl .ext l
 | .sl _ l'=>.sl .ext l'
 | .agg ds=>.agg (Zgi l ds)
 | .bool b=>.bool b
 | .int k n=>.int k n
 | .str s=>.str s
 | .nilp=>.nilp
 | .eptr cs o=>.eptr cs o
 | .gptr k o=>.gptr k o
 | .nilf=>.nilf
 | .nili=>.nili
 | _=>.junk
def Zgi (l:List E):List D->List D
 | []=>[]
 | d::ds=>ZlE l d::Zgi l ds
end
mutual
def LOk (b n:Nat):D->Prop
 | .bsl b' o n' _=>b'=b/\o=0/\n'=n
 | .agg ds=>ZlF b n ds
 | _=>True
def ZlF (b n:Nat):List D->Prop
 | []=>True
 | d::ds=>LOk b n d/\ZlF b n ds
end
theorem Zex {b n:Nat}{d:D}{ds:List D}(h:LOk b n d)(k:ZlF b n ds):ZlF b n (d::ds):=⟨h,k⟩
theorem ZgK {b n:Nat}{ds:List D}(h:ZlF b n ds):LOk b n (.agg ds):=h
theorem ZgL (b n c:Nat):LOk b n (.bsl b 0 n c):=⟨rfl,rfl,rfl⟩
theorem Zc7 (l:List E)(ds:List D):Zgi l ds=ds.map (ZlE l):=by
 induction ds with
 | nil=>rfl
 | cons d ds ih=>simp[Zgi,ih]
theorem Zfr {b n:Nat}:∀ {ds:List D} {j:Nat} {d:D},ZlF b n ds->ds[j]?=some d->LOk b n d
 | [],j,d,_,h=>by simp at h
 | x::ds,0,d,h,hd=>by simp at hd;subst hd;exact h.1
 | x::ds,j+1,d,h,hd=>by simp at hd;exact Zfr h.2 hd
def G.lent (g:G):G:=⟨fun k o=>g.C k o\/k ∈ g.ρ,[],[]⟩
section
variable {P:Program} {Q:X->St->Prop} {n:Nat} {ee:Nat × Nat} {tm:List (Nat × D)} {bx bx':List (List D)} {fr fr':List Fr} {b0:Bs} {g g':G} {w w':World} {a:Act} {T:Tab}
variable {ops:Array Oper} {rest:List Oper} {t ty:Nat} {pos:String} {after:Array Edge}
theorem Mem.lent [Known](hm:Mem g bx fr w):Mem g.lent [] [] w where
 bl:=rfl
 bat i blk cs h:=by simp[G.lent]at h
 bC blk o h:=by simp[G.lent]at h
 bN i j b h:=by simp[G.lent]at h
 tl:=rfl
 tat i blk cap f h:=by simp[G.lent]at h
 tN i j b c c' h:=by simp[G.lent]at h
 tρ b c h:=by simp[G.lent]at h
 Clt b o h:=h.elim (hm.Clt b o) fun h=>hm.lt (.inl h)
 gl:=⟨fun k cs hk j v hv=>⟨.inl (hm.gl.1 k cs hk j v hv).1,(hm.gl.1 k cs hk j v hv).2⟩,fun k t hk=>⟨.inl (hm.gl.2 k t hk).1,(hm.gl.2 k t hk).2⟩⟩
theorem V.lend [Known]{b m z:Nat}{l:List E}{d:D}{v:Value}(hm:Mem g bx fr w)(hb:bx[b]?=some [.row z (flat l)])(hl:l.length=m)(h:V w g fr d v)(ho:LOk b m d):V w g.lent [] (ZlE l d) v:=by
 have hE:∀ {e v},VE w g.C e v->VE w g.lent.C e v:=fun hv=>hv.mono (fun _ _ h=>.inl h) fun _ _ _=>rfl
 induction h with
 | bool b=>exact .bool b
 | int k n=>exact .int k n
 | str s h=>exact .str s h
 | sl t l v h hk=>exact .sl .ext l v (hE h) trivial
 | nilp=>exact .nilp
 | ptr b o blk h=>exact .junk _
 | eptr cs o blk off us hc hw' hv=>exact .eptr cs o blk off us (fun j hj=>.inl (hc j hj)) hw' (fun j e he=>hE (hv j e he))
 | gptr k o=>exact .gptr k o
 | bsl b' o n c blk cap hr h1 h2 _=>
  obtain⟨rfl,rfl,rfl⟩:=ho
  obtain⟨vs,ut,r1,r2,r3,r4⟩:=hm.rowc hr hb
  subst hl
  refine .sl .ext l _ ?_ trivial
  refine .slC l blk 0 cap (fun j=>vs.toList.getD j undef) h1 h2 (fun j hj=>.inr (List.mem_of_getElem? hr)) (fun j hj=>?_) (fun j x hx=>?_)
  ·rw[Nat.zero_add,cell_of_row w blk j vs ut (0,0) r1]
   have:j<vs.size:=by omega
   simp[List.getD,this]
  ·have hj:=(List.getElem?_eq_some_iff.1 hx).1
   have hlt:j<vs.size:=by omega
   exact hE (r4 j x _ hx (by simp[List.getD,hlt]))
 | agg ds vs hl' _ ih=>
  refine .agg _ vs (by rw[Zc7];simpa using hl') fun j d v hd hv=>?_
  rw[Zc7,List.getElem?_map]at hd
  cases hj:ds[j]? with
  | none=>rw[hj]at hd;cases hd
  | some d0=>
   rw[hj]at hd
   injection hd with hd
   subst hd
   exact ih j d0 v hj hv (Zfr ho hj)
 | tup l vs hl _ ih=>exact .junk _
 | fn f l vs hl _ ih=>exact .junk _
 | nilf=>exact .nilf
 | iface t d v _ ih=>exact .junk _
 | nili=>exact .nili
 | junk v=>exact .junk v
 | row z l v=>exact .junk v
mutual
def plD:D->D
 | .bool b=>.bool b
 | .int k n=>.int k n
 | .str s=>.str s
 | .nilp=>.nilp
 | .sl _ l=>match l with
  | []=>.sl .ext []
  | _::_=>.junk
 | .agg ds=>.agg (ZlM ds)
 | .tup ds=>.tup (ZlM ds)
 | .nilf=>.nilf
 | .nili=>.nili
 | _=>.junk
def ZlM:List D->List D
 | []=>[]
 | d::ds=>plD d::ZlM ds
end
theorem Zfs (ds:List D):ZlM ds=ds.map plD:=by
 induction ds with
 | nil=>rfl
 | cons d ds ih=>simp[ZlM,ih]
theorem V.pl {d:D}{v:Value}(h:V w g fr d v)(g':G)(fr':List Fr):V w g' fr' (plD d) v:=by
 have key:∀ {ds:List D} {vs:List Value},(∀(j:Nat) (d:D) (v:Value),ds[j]?=some d->vs[j]?=some v->V w g' fr' (plD d) v)->∀(j:Nat) (d:D) (v:Value),(ZlM ds)[j]?=some d->vs[j]?=some v->V w g' fr' d v:=by
  intro ds vs h j d v hd hv
  rw[Zfs,List.getElem?_map]at hd
  cases hj:ds[j]? with
  | none=>rw[hj]at hd;cases hd
  | some d0=>
   rw[hj]at hd
   injection hd with hd
   subst hd
   exact h j d0 v hj hv
 induction h with
 | bool b=>exact .bool b
 | int k n=>exact .int k n
 | str s h=>exact .str s h
 | sl t l v h hk=>
  cases l with
  | cons x l=>exact .junk _
  | nil=>
   refine .sl .ext [] v ?_ trivial
   generalize hq:E.sl []=q at h
   cases h with
   | slE A cap h=>exact .slE A cap h
   | slC l' g off cap us h1 h2 hc hw hv=>
    injection hq with hq;subst hq
    exact .slE _ _ h2
   | _=>cases hq
 | nilp=>exact .nilp
 | ptr b o blk h=>exact .junk _
 | eptr cs o blk off us hc hw' hv=>exact .junk _
 | gptr k o=>exact .junk _
 | bsl b o n c blk cap hb h1 h2 _=>exact .junk _
 | agg ds vs hl' _ ih=>exact .agg _ vs (by rw[Zfs];simpa using hl') (key ih)
 | tup ds vs hl' _ ih=>exact .tup _ vs (by rw[Zfs];simpa using hl') (key ih)
 | fn f l vs hl _ ih=>exact .junk _
 | nilf=>exact .nilf
 | iface t d v _ ih=>exact .junk _
 | nili=>exact .nili
 | junk v=>exact .junk v
 | row z l v=>exact .junk v
theorem Mem.lentBack [Known](hm:Mem g bx fr w)(he:Evo ⟨g.lent,[],w⟩ ⟨g',fr',w'⟩)(hm':Mem g' bx' fr' w') :
  Evo ⟨g,fr,w⟩ ⟨⟨fun k o=>g'.C k o/\k ∉ g.ρ,g.ρ,g.τ⟩,fr,w'⟩/\Mem ⟨fun k o=>g'.C k o/\k ∉ g.ρ,g.ρ,g.τ⟩ bx fr w':=by
 have hnM:∀ k,¬ M g.lent k:=fun k h=>by
  rcases h with h|⟨c,h⟩
  ·simp[G.lent]at h
  ·simp[G.lent]at h
 have hblk:∀ k,k<w.heap.size->w'.heap[k]?=w.heap[k]? := fun k hk=>he.block k hk (hnM k)
 have hcell:∀ k o,g.C k o->w'.cell? ⟨k,o,none⟩=w.cell? ⟨k,o,none⟩:=fun k o h=>he.cell k o (.inl h)
 have hevo:Evo ⟨g,fr,w⟩ ⟨⟨fun k o=>g'.C k o/\k ∉ g.ρ,g.ρ,g.τ⟩,fr,w'⟩:=by
  refine⟨he.os,he.tape,he.output,he.size,fun k hk _=>hblk k hk,fun k o h=>⟨he.C k o (.inl h),fun hk=>hm.bC k o hk h⟩,hcell,fun k o h=>?_,fun _ _ h=>h,fun _ h=>.inl h,fun k c h=>.inl ⟨c,h⟩,Zcb.refl _ _⟩
  rcases he.newC k o h.1 with h1|h1|h1
  ·exact h1.elim .inl fun h2=>(h.2 h2).elim
  ·exact .inr (.inl h1)
  ·exact(hnM k h1).elim
 refine⟨hevo,⟨hm.bl,fun i blk cs h1 h2=>?_,fun k o hk h=>h.2 hk,hm.bN,hm.tl,fun i k c f h1 h2=>?_,hm.tN,hm.tρ,fun k o h=>hm'.Clt k o h.1,hm.gl.evo hevo⟩⟩
 ·obtain⟨us,ty,k1,k2,k3⟩:=hm.bat i blk cs h1 h2
  exact⟨us,ty,(hblk blk (Array.getElem?_eq_some_iff.1 k1).1).trans k1,k2,fun j d v hd hv=>(k3 j d v hd hv).evo hevo⟩
 ·have hT:=hm.tat i k c f h1 h2
  obtain⟨cur,r1,r2⟩:=hT.row
  have hlt:=(Array.getElem?_eq_some_iff.1 r1).1
  refine⟨⟨cur,(hblk k hlt).trans r1,r2⟩,hT.le,hT.max,hT.pos,fun o ho h=>?_⟩
  rcases he.newC k o h.1 with h3|h3|h3
  ·exact h3.elim (hT.far o ho) fun h4=>h.2 h4
  ·exact absurd hlt (Nat.not_lt.2 h3)
  ·exact hnM k h3
theorem Zft [Known][Dfr]{f:FuncId}{ars:Array Operand}{ats:Array TypeId}{cds:List D}{d d':D}{b m z:Nat}{l:List E}(hAC:AP P f cds d [])(hf:Zjz P f=true)
  (hb:bx[b]?=some [.row z (flat l)]) (ho:ZlF b m (ars.toList.map (ev tm))) (hc:Zgi l (ars.toList.map (ev tm))=cds) (htd:Nat.blt t n=true) (hd:nf (plD d)=some d') (hl:l.length=m)
  (k:AL P ops rest ⟨n,(t,d')::tm,bx,fr,ee⟩ Q):AL P ops (⟨some t,.call { callee:=.value (.func f),args:=ars,argTypes:=ats },ty,pos,after,none⟩::rest) ⟨n,tm,bx,fr,ee⟩ Q:=by
 refine⟨fun b0 g a w hi=>?_⟩
 refine wpList_plain rfl fun K hK=>?_
 have hrun:(execOp a.eval ⟨some t,.call { callee:=.value (.func f),args:=ars,argTypes:=ats },ty,pos,after,none⟩).run P w=.ok (.enter f (ars.toList.map a.eval).toArray) w:=by
  have e:ars.map a.eval=(ars.toList.map a.eval).toArray:=by rw[<- Array.toList_map,Array.toArray_toList]
  have hz:=ZcA hf (ars.toList.map a.eval).toArray w
  rw[<- e]at hz ⊢
  simpa[execOp,resolve,Act.eval,Deferred.ofValue,invoke,Sem.run_bind]using hz
 unfold Oper.wp
 rw[hrun]
 have hm:=hi.mem
 have hcall:=hAC.run g.lent w (ars.toList.map a.eval) hm.lent (by rw[<- hc,Zc7];simp) (fun j d v hd hv=>by
  rw[<- hc,Zc7,List.getElem?_map]at hd
  cases hj:(ars.toList.map (ev tm))[j]? with
  | none=>simp only[hj,Option.map_none]at hd;cases hd
  | some d0=>
   simp only[hj,Option.map_some,Option.some.injEq]at hd
   subst hd
   exact(evs hi ars j d0 v hj hv).lend hm hb hl (Zfr ho hj))
 refine hcall.mono fun e w' ⟨g',bx',fr',r,he,hm',hr,h1,h2,h3⟩=>?_
 subst h1
 obtain⟨q1,q2⟩:=hm.lentBack he hm'
 obtain⟨v,rfl,hv⟩:=hr
 rw[<- ZbD hd]at k
 have hi2:Inv b0 ⟨n,tm,bx,fr,ee⟩ ⟨fun k o=>g'.C k o/\k ∉ g.ρ,g.ρ,g.τ⟩ a w':=⟨hi.size,hi.defers,q2,fun t=>(hi.tm t).evo q1,hi.evo.trans q1,hi.bd⟩
 exact hK _ _ (k.run b0 _ _ w' (hi2.put htd (hv.pl _ _)))
end
def AF [Known](P:Program)(f:FuncId)(args:List D)(m:Nat)(d:Nat->D)(bx':Nat->List (List D)):Prop:=AC P f args [] [] fun r b fr=>∃ c,m<=c/\r=.ret (d c)/\b=bx' c/\fr=[]
theorem AF.weak [Known]{P:Program}{f:FuncId}{args:List D}{m:Nat}{d:Nat->D}{bx':Nat->List (List D)}(h:AC P f args [] [] fun r b fr=>∃ c,m<=c/\∃ d0,r=.ret d0/\d0.wk=d c/\b.map D.wks=bx' c/\fr=[]):AF P f args m d bx':=by
 refine⟨fun g w vs hm hl hv=>(h.run g w vs hm hl hv).mono fun e w' ⟨g',b',fr',r,h1,h2,h3,c,hc,d0,h4,h5,h6,h7⟩=>?_⟩
 subst h4 h7
 obtain⟨v,rfl,hv⟩:=h3
 exact⟨g',_,[],.ret d0.wk,h1,h2.wk,⟨v,rfl,hv.wk⟩,c,hc,by rw[h5],h6,rfl⟩
theorem ZkJ {P:Program}{rs:List ResultVar}{S:St}{m:Nat}{d:Nat->D}{d':D}{ds:List D}{bx':Nat->List (List D)}{B:List (List D)}(bs:List Nat)(c:Nat)(hm:m<=c)(h:ResL P S rs ds)(hb:Zfd bs S.bx.length=true)(hn:nf (((Zkz ds).ren (idx bs) (idx [])).wk)=some d')(hB:nfb ((Zij bs [] S.bx).map D.wks)=some B)(hd:d'=d c)(hB':B=bx' c) :
  Zd2 P rs 0 0 (fun r b fr=>∃ c,m<=c/\∃ d0,r=.ret d0/\d0.wk=d c/\b.map D.wks=bx' c/\fr=[]) .ret S:=
 ⟨ds,bs,[],h,ZcC hb,Za2 _,fun i h=>by omega,fun i h=>by omega,c,hm,_,rfl,by rw[ZbD hn,hd],by rw[ZbV hB,hB'],rfl⟩
section
variable {P:Program} {Q:X->St->Prop} {n:Nat} {ee:Nat × Nat} {tm:List (Nat × D)} {bx:List (List D)} {fr:List Fr} {ops:Array Oper} {rest:List Oper} {ty:Nat} {pos:String} {after:Array Edge} {f:FuncId} {ars:Array Operand} {ats:Array TypeId}
theorem Zfu [Known][Dfr]{t m:Nat}{cds:List D}{d d':Nat->D}{bx1 bx2:Nat->List (List D)}(hAC:AF P f cds m d bx1)(hf:Zjz P f=true)
  (hc:D.wks ((ars.toList.map (ev tm)).map (D.ren (idx []) (idx [])))=cds) (htd:Nat.blt t n=true) (hd:∀ c,nf ((d c).ren (upN [] bx.length) (upN [] fr.length))=some (d' c)) (hB:∀ c,nfb (ZhK [] [] bx fr.length (bx1 c))=some (bx2 c))
  (k:∀ c,m<=c->AL P ops rest ⟨n,(t,d' c)::tm,bx2 c,fr,ee⟩ Q):AL P ops (⟨some t,.call { callee:=.value (.func f),args:=ars,argTypes:=ats },ty,pos,after,none⟩::rest) ⟨n,tm,bx,fr,ee⟩ Q:=by
 subst hc
 refine Zgu [] [] hf (AC.unwk hAC) rfl (Za2 _) (Za2 _) rfl rfl htd (fun _ _ _ h=>by obtain⟨_,_,h,_⟩:=h;cases h) fun d0 bx' fr' h=>?_
 obtain⟨c,hc,h1,rfl,rfl⟩:=h
 injection h1 with h1
 subst h1
 refine⟨Nat.zero_le _,?_⟩
 have e1:=ZbD (hd c)
 have e2:=ZbV (hB c)
 have:=k c hc
 rw[<- e1,<- e2]at this
 simpa[St.aft,ZeK,ZcJ]using this
end
end Go.Av
end
section
open Go.RowKit Go.Pl Go.Av
namespace Go.Proofs.YtakblclkflnnpaaDoor
set_option maxHeartbeats 4000000
theorem Zkq [Known](l:List It)(hne:l ≠ [])(hl:l.length<=2199023255488)(hws:wfs l):AF Tryd.prog 31 [.sl .ext (Zan l)] (Zan l).length (fun c=>.agg [.int .i64 4,.int .u64 0,.sl .ext [],.bsl 0 0 (Zan l).length c]) (fun c=>[[.row (c*4) (flat (Zan l))]]):=by
 have ih':∀ y ∈ l,AP Tryd.prog 57 [itD y] (itD y) []:=fun y hy=>Zek y (ZaM hws y hy)
 have hlen:=Zal l
 refine AF.weak ?_
 refine Zao Tryd.func31 rfl Tryd.ntmps31 rfl rfl ?_
 repeat'(first|(apply Zaj Zab;exact Z)|(apply Zah Zab;exact Z)|(apply Zak Zab;(iterate 4 exact Z)))
 refine ZaC (fun k' tm bx fr=>∃(i c:Nat) (L:List E),k'+i=l.length/\L.length<=c/\L=Zan (l.take i)/\tm=[(3,.ptr 1 0),(2,.ptr 0 0),(7,.sl .ext (Zan l)),(8,.int .i64 ((Zan l).length:Int)),(9,.int .i64 (i:Int))]/\fr=[] /\
  ((i=0/\bx=[[.int .i64 0,.int .u64 0,.sl .nil [],.sl .nil []],[.int .i64 4,.int .u64 0,.sl .nil [],.sl .nil []]]) \/
  (0<c/\bx=[[.int .i64 0,.int .u64 0,.sl .nil [],.sl .nil []],[.int .i64 4,.int .u64 0,.sl .nil [],.bsl 2 0 L.length c],[.row (c*4) (flat L)]]))) (l.length+1) (Lands.mk' (m:=l.length) (Nat.lt_succ_self _) ⟨0,0,[],rfl,Nat.zero_le _,rfl,rfl,rfl,.inl ⟨rfl,rfl⟩⟩ ?_ rfl rfl rfl rfl rfl rfl) ?_
 ·exact .cons rfl (.cons rfl (.cons rfl (.cons rfl (.cons rfl .nil))))
 rintro k' tm bx fr ⟨i,c,L,hi,hc,hL,rfl,rfl,⟨rfl,rfl⟩ | ⟨hc0,rfl⟩⟩
 ·cases l with
  | nil=>exact absurd rfl hne
  | cons y l=>
   have hcp:=ih' y (List.mem_cons_self ..)
   have hU:=Zbs (y::l)
   have hd:decide (((0:Nat):Int)<((Zan (y::l)).length:Int))=true:=decide_eq_true (by rw[Zan];simp)
   obtain⟨k1,n1,b1,l1⟩:=y
   repeat'(first|(apply ZhT (b:=2) Zab;(iterate 6 exact Z);(first|exact Zag rfl|with_reducible assumption|rotate_left);(first|exact Qb|rotate_left);(first|exact Qb|rotate_left);(first|exact Qb|rotate_left);(iterate 3 exact Z);exact(fun _=>rfl);exact Z;intro c2 hc2)|(apply Zaa (hcp);kernel_rfl;(iterate 4 exact Z))|(apply Zaj Zab;exact Z)|(apply Zah Zab;exact Z)|(apply Zay Zab;exact Z)|(apply Zac;exact Z;exact Qt)|(apply Za0 Zab;(iterate 12 exact Z))|(apply Zap 5 ZaY;decide +kernel;kernel_rfl;kernel_rfl;kernel_rfl;exact Z;exact Z)|(apply Zas;(iterate 4 exact Z))|exact AE.nil _ _ _ _|(apply Zau;exact Z)|(apply ZaA;exact Z;exact Z;decide +kernel;exact Z)|(apply ZaB;exact Z)|exact AO.nil _ _ _|(apply Zar;(decide +kernel))|exact AOs.nil|exact ZaN rfl rfl|exact Zc9 rfl rfl rfl rfl rfl|(apply Zat Zab;(iterate 6 exact Z);(first|exact Qt|rotate_left);(first|with_reducible assumption|decide +kernel|exact Z);(first|exact Zag rfl|with_reducible assumption|decide +kernel|rotate_left)))
   refine Lands.mk' (m:=k'-1) (by simp at hi;omega) ⟨1,c2,Zan [It.mk k1 n1 b1 l1],by simp at hi ⊢;omega,hc2,rfl,rfl,rfl,.inr ⟨Nat.lt_of_lt_of_le (Nat.succ_pos _) hc2,rfl⟩⟩ ?_ rfl rfl rfl rfl rfl rfl
   exact .cons rfl (.cons rfl (.cons rfl (.cons rfl (.cons rfl .nil))))
 ·have hU:=Zbs l
  have hU2:Uni 4 L:=hL ▸ Zbs (l.take i)
  have el:=Zal (l.take i)
  rw[<- hL]at el
  rcases Nat.lt_or_ge i l.length with hlt|hge
  ·have hd:decide ((i:Int)<((Zan l).length:Int))=true:=decide_eq_true (by omega)
   obtain⟨⟨k1,n1,b1,l1⟩,hy⟩:∃ y,l[i]?=some y:=⟨_,List.getElem?_eq_getElem hlt⟩
   have hv:(Zan l)[((i:Nat):Int).toNat]?=some (.agg [.int .i64 k1,.int .u64 (n1:Int),.sl (b1.map E.byte),.sl (Zan l1)]):=by
    rw[Int.toNat_natCast,Zax,List.getElem?_map,hy];rfl
   have hcp:=ih' _ (List.mem_of_getElem? hy)
   have ei:IntKind.i64.wrap ((i:Int)+1)=((i+1:Nat):Int):=by rw[IntWalk.i64_in _ (by omega)];omega
   have hs:L++[E.agg [.int .i64 k1,.int .u64 (n1:Int),.sl (b1.map E.byte),.sl (Zan l1)]]=Zan (l.take (i+1)):=by
    rw[hL,List.take_add_one,hy];exact(Zbz _ [It.mk k1 n1 b1 l1]).symm
   have hl1:(L++[E.agg [.int .i64 k1,.int .u64 (n1:Int),.sl (b1.map E.byte),.sl (Zan l1)]]).length=L.length+1:=by simp
   rw[List.length_take]at el
   repeat'(first|(apply ZeU Zab;(iterate 8 exact Z);(first|with_reducible assumption|exact Nat.lt_of_lt_of_le (Nat.succ_pos _) (by assumption)|omega|rotate_left);exact Z;(first|exact Zag rfl|with_reducible assumption|rotate_left);(first|exact Zag rfl|with_reducible assumption|rotate_left);(first|exact Qb|rotate_left);(first|exact Qb|rotate_left);(first|exact Qb|rotate_left);exact Z;exact Z;exact(fun _=>rfl);exact Z;intro c2 hc2)|(apply Zaa (hcp);kernel_rfl;(iterate 4 exact Z))|rw[ei]|(apply Zaj Zab;exact Z)|(apply Zah Zab;exact Z)|(apply Zay Zab;exact Z)|(apply Zac;exact Z;exact Qt)|(apply Za0 Zab;(iterate 12 exact Z))|(apply Zap 5 ZaY;decide +kernel;kernel_rfl;kernel_rfl;kernel_rfl;exact Z;exact Z)|(apply Zas;(iterate 4 exact Z))|exact AE.nil _ _ _ _|(apply Zau;exact Z)|(apply ZaA;exact Z;exact Z;decide +kernel;exact Z)|(apply ZaB;exact Z)|exact AO.nil _ _ _|(apply Zar;(decide +kernel))|exact AOs.nil|exact ZaN rfl rfl|exact Zc9 rfl rfl rfl rfl rfl|(apply Zat Zab;(iterate 6 exact Z);(first|exact Qt|rotate_left);(first|with_reducible assumption|decide +kernel|exact Z);(first|exact Zag rfl|with_reducible assumption|decide +kernel|rotate_left)))
   ·refine Lands.mk' (m:=k'-1) (by omega) ⟨i+1,c2,_,by omega,by rw[hl1];exact hc2,hs,rfl,rfl,.inr ⟨Nat.lt_of_lt_of_le (Nat.succ_pos _) hc2,by rw[hl1]⟩⟩ ?_ rfl rfl rfl rfl rfl rfl
    exact .cons rfl (.cons rfl (.cons rfl (.cons rfl (.cons rfl .nil))))
   all_goals(first|rfl|(simp only[List.length_append,List.length_cons,List.length_nil,List.length_map,Zal];done)|(simp only[List.length_append,List.length_cons,List.length_nil,List.length_map,Zal]at *;(try unfold maxLen);(try simp only[Nat.add_mul]);omega))
  ·have hd:decide ((i:Int)<((Zan l).length:Int))=false:=decide_eq_false (by omega)
   rw[List.take_of_length_le hge]at hL
   subst hL
   repeat'(first|(apply Zah Zab;exact Z)|(apply Zae;exact Z;exact Qt))
   all_goals(apply ZkJ [2] c hc;(apply Zad Zab;exact Z);(iterate 5 exact Z))
theorem Zkr [Known][KnownU8](l:List It)(a:Int)(s:Nat)(hs:s=1\/s=2)(es:ZaU l a=(s:Int))(h0:0<=a)(hal:a<(l.length:Int))(hws:wfs l)(hl:l.length<=1000000)(hlim:(ZaX (ZaK s l)).length<=1000000000)
  (hA:l.all Zaw=true) (hz:Zaw (ZaK s l)=true) (hr:Zaw (Zdh s l)=true) :
  AF Tryd.prog 8 [.sl .ext (Zan l),.int .i64 a] ((Zan l).length+1) (fun c=>.tup [.agg [.int .i64 4,.int .u64 0,.sl .ext [],.bsl 0 0 ((Zan l).length+1) c],.int .i64 0]) (fun c=>[[.row (c*4) (flat (Zan l++[.agg [.int .i64 2,.int .u64 0,.sl ((Zdu s (ZaX (ZaK s l))).map E.byte),.sl []]]))]]):=by
 have hlen:=Zal l
 have hU:=Zbs l
 have hC:=Zhf l hws hl
 have hT:=Zem l hws a
 have hne:l ≠ []:=by rintro rfl;simp at hal;omega
 have t1:decide (a<0)=false:=decide_eq_false (by omega)
 have t2:decide (a ≥ ((Zan l).length:Int))=false:=decide_eq_false (by omega)
 rw[hA]at hC
 replace hC:AP Tryd.prog 30 _ (.bool false) []:=hC
 rw[es]at hT
 have hS:=Zfk l s hs hne hws hl hlim
 have hL:=Zkq l hne (by omega) hws
 have hsl:=Zfi s (ZaX (ZaK s l)) hs
 have hB:=ZdT (Zdu s (ZaX (ZaK s l))) (by omega)
 have hR:=ZbJ (Zdh s l) (Zjc hs hws hl)
 have hmx:(Zan l).length<=1000000:=by omega
 have hlp:0<(Zan l).length:=by rw[hlen];exact List.length_pos_iff.2 hne
 have d1:decide ((s:Int)<0)=false:=decide_eq_false (by omega)
 have d2:decide ((s:Int)>0)=true:=decide_eq_true (by omega)
 have d3:decide ((s:Int) ≥ 0)=true:=decide_eq_true (by omega)
 rw[hz]at hS
 dsimp only at hS ⊢
 have eO:itD (Zdh s l)=.agg [.int .i64 4,.int .u64 0,.sl .ext [],.sl .ext (Zan l++[.agg [.int .i64 2,.int .u64 0,.sl ((Zdu s (ZaX (ZaK s l))).map E.byte),.sl []]])]:=by
  show D.agg [.int .i64 4,.int .u64 0,.sl .ext [],.sl .ext (Zan (l++[.mk 2 0 (Zdu s (ZaX (ZaK s l))) []]))]=_
  rw[Zbz]
  rfl
 rw[hr,eO]at hR
 generalize Zdu s (ZaX (ZaK s l))=SB at *
 have hl1:(Zan l++[E.agg [.int .i64 2,.int .u64 0,.sl (SB.map E.byte),.sl []]]).length=(Zan l).length+1:=by simp
 refine AF.weak ?_
 refine Zao Tryd.func8 rfl Tryd.ntmps8 rfl rfl ?_
 repeat'(first|(apply ZeU Zab;(iterate 8 exact Z);(first|with_reducible assumption|exact Nat.lt_of_lt_of_le (Nat.succ_pos _) (by assumption)|omega|rotate_left);exact Z;(first|exact Zag rfl|with_reducible assumption|rotate_left);(first|exact Zag rfl|with_reducible assumption|rotate_left);(first|exact Qb|rotate_left);(first|exact Qb|rotate_left);(first|exact Qb|rotate_left);exact Z;exact Z;exact(fun _=>rfl);exact Z;intro c2 hc2)|(apply Zaa (hC);kernel_rfl;(iterate 4 exact Z))|(apply Zaa (hT);kernel_rfl;(iterate 4 exact Z))|(apply Zfu (hL);kernel_rfl;exact Z;exact Z;exact(fun _=>rfl);exact(fun _=>rfl);intro c1 hc1)|(apply Zaa (hS);kernel_rfl;(iterate 4 exact Z))|(apply Zaa (hB);kernel_rfl;(iterate 4 exact Z))|(apply Zft (b:=1) (hR);kernel_rfl;exact Z;(repeat (first|exact True.intro|exact ZgL _ _ _|apply ZgK|apply Zex));(iterate 3 exact Z);(first|exact Z|with_reducible assumption|rotate_left))|(apply Zaj Zab;exact Z)|(apply Zah Zab;exact Z)|(apply Zay Zab;exact Z)|(apply Zaf;(iterate 3 exact Z);exact Qt)|(apply Zai;exact Z;exact Qt;exact Z;exact Z)|(apply Zac;exact Z;exact Qt)|(apply Zae;exact Z;exact Qt)|(apply Zak Zab;(iterate 4 exact Z))|(apply Za0 Zab;(iterate 12 exact Z))|(apply Zap 5 ZaY;decide +kernel;kernel_rfl;kernel_rfl;kernel_rfl;exact Z;exact Z)|(apply Zas;(iterate 4 exact Z))|exact AE.nil _ _ _ _|(apply Zau;exact Z)|(apply ZaA;exact Z;exact Z;decide +kernel;exact Z)|(apply ZaB;exact Z)|exact AO.nil _ _ _|(apply Zar;(decide +kernel))|exact AOs.nil|exact ZaN rfl rfl|exact Zc9 rfl rfl rfl rfl rfl)
 all_goals first|((apply ZkJ [1] c2 (hl1 ▸ hc2);(apply Zad Zab;exact Z);(iterate 5 exact Z)))|skip
 all_goals first|rfl|(first|rfl|(simp only[List.length_append,List.length_cons,List.length_nil,List.length_map,Zal];done)|(simp only[List.length_append,List.length_cons,List.length_nil,List.length_map,Zal]at *;(try unfold maxLen);(try simp only[Nat.add_mul]);omega))|(simp;done)|(simp;omega)|(simp;unfold maxLen;omega)
abbrev iC (x:EidV)(t q:Nat):List D:=[.bool x.i,.int .u64 (x.n:Int),.int .u64 (x.s:Int),.str x.h,.str x.d,.int .u64 (t:Int),.int .u64 (q:Int)]
def Zcl (x:EidV)(t q:Nat):Bool:=Zbh x&&decide ((t:Int)<=1099511627776)&&decide ((q:Int)<=1099511627776)
theorem Zgj [Known](x:EidV)(t q:Nat):AP Tryd.prog 80 [.agg (iC x t q)] (.bool (Zcl x t q)) []:=by
 refine AP.ofA ?_
 refine Zao Tryd.func80 rfl Tryd.ntmps80 rfl rfl ?_
 repeat'(first|(apply Zaa (Zcu x);kernel_rfl;(iterate 4 exact Z))|(apply Zaj Zab;exact Z)|(apply Zah Zab;exact Z)|(apply Zaf;(iterate 3 exact Z);(first|with_reducible assumption|(solve|simp only[bn])))|(apply Zav;(iterate 3 exact Z);(first|with_reducible assumption|(solve|simp only[bn])))|(apply ZcQ;exact Z;exact Z;all_goals intro hb)|(apply Zam;exact Z;(first|with_reducible assumption|(solve|simp only[bn]));exact Z;exact Z)|(apply Zai;exact Z;(first|with_reducible assumption|(solve|simp only[bn]));exact Z;exact Z))
 all_goals(apply Zaz [];(apply Zad Zab;exact Z);(iterate 4 exact Z))
 all_goals first|rfl|(unfold Zcl;simp only[*];done)|(unfold Zcl;simp only[*];simp only[Bool.and_true,Bool.true_and,Bool.and_false,Bool.false_and];done)
end Go.Proofs.YtakblclkflnnpaaDoor
end
section
open Go.RowKit Go.Pl
namespace Go.Pl
variable {P:Program} {t:TypeId}
abbrev RE:Rep (Bool × Nat × Nat × List UInt8 × List UInt8):=Rep.bool.prod (Rep.u64.prod (Rep.u64.prod (Rep.str.prod Rep.str)))
abbrev RI:Rep ((Bool × Nat × Nat × List UInt8 × List UInt8) × Nat × Nat):=RE.prod (Rep.u64.prod Rep.u64)
end Go.Pl
end
section
open Go.RowKit Go.Pl
namespace Go.Proofs.YtakblclkflnnpaaDoor
end Go.Proofs.YtakblclkflnnpaaDoor
end
section
open Go.RowKit Go.Pl Go.Av
namespace Go.Proofs.YtakblclkflnnpaaDoor
set_option maxHeartbeats 4000000
abbrev XE:=Bool × Nat × Nat × List UInt8 × List UInt8
def XE.v (x:XE):EidV:=⟨x.1,x.2.1,x.2.2.1,x.2.2.2.1,x.2.2.2.2⟩
structure PriV where
 fl:Nat
 sum:Int
 dest:EidV
 rep:EidV
 src:EidV
 t:Nat
 q:Nat
 life:Nat
abbrev prC (p:PriV):List D:=[.int .u64 (p.fl:Int),.int .i64 p.sum,.bool p.dest.i,.int .u64 (p.dest.n:Int),.int .u64 (p.dest.s:Int),.str p.dest.h,.str p.dest.d,.bool p.rep.i,.int .u64 (p.rep.n:Int),.int .u64 (p.rep.s:Int),.str p.rep.h,.str p.rep.d,.bool p.src.i,.int .u64 (p.src.n:Int),.int .u64 (p.src.s:Int),.str p.src.h,.str p.src.d,.int .u64 (p.t:Int),.int .u64 (p.q:Int),.int .u64 (p.life:Int)]
def ZcG (p:PriV):Bool:=(bits .andNot .u64 (p.fl:Int) 409638==0)&&(decide (p.sum ≥ 0)&&(decide (p.sum<=2)&&(Zbh p.dest&&(Zbh p.rep&&(Zcl p.src p.t p.q&&decide ((p.life:Int)<=1099511627776))))))
theorem Zey [Known](p:PriV):AP Tryd.prog 50 [.agg (prC p)] (.bool (ZcG p)) []:=by
 have hD:=Zcu p.dest
 have hR:=Zcu p.rep
 have hI:=Zgj p.src p.t p.q
 unfold ZcG
 generalize Zbh p.dest=e1 at *
 generalize Zbh p.rep=e2 at *
 generalize Zcl p.src p.t p.q=e3 at *
 obtain⟨fl,sum,⟨di,dn,ds,dh,dd⟩,⟨ri,rn,rs,rh,rd⟩,⟨xi,xn,xs,xh,xd⟩,t,q,life⟩:=p
 dsimp only at *
 cases t1:(bits .andNot .u64 (fl:Int) 409638==0) with
 | false=>
  refine AP.ofA ?_
  refine Zao Tryd.func50 rfl Tryd.ntmps50 rfl rfl ?_
  repeat'(first|(apply Zaj Zab;exact Z)|(apply Zah Zab;exact Z)|(apply Zav;(iterate 3 exact Z);exact Qt)|(apply Zai;exact Z;exact Qt;exact Z;exact Z))
  all_goals(apply Zaz [];(apply Zad Zab;exact Z);(iterate 4 exact Z))
  all_goals rfl
 | true=>
 cases t2:decide (sum ≥ 0) with
 | false=>
  refine AP.ofA ?_
  refine Zao Tryd.func50 rfl Tryd.ntmps50 rfl rfl ?_
  repeat'(first|(apply Zaj Zab;exact Z)|(apply Zah Zab;exact Z)|(apply Zaf;(iterate 3 exact Z);exact Qt)|(apply Zav;(iterate 3 exact Z);exact Qt)|(apply Zam;exact Z;exact Qt;exact Z;exact Z)|(apply Zai;exact Z;exact Qt;exact Z;exact Z))
  all_goals(apply Zaz [];(apply Zad Zab;exact Z);(iterate 4 exact Z))
  all_goals rfl
 | true=>
 cases t3:decide (sum<=2) with
 | false=>
  refine AP.ofA ?_
  refine Zao Tryd.func50 rfl Tryd.ntmps50 rfl rfl ?_
  repeat'(first|(apply Zaj Zab;exact Z)|(apply Zah Zab;exact Z)|(apply Zaf;(iterate 3 exact Z);exact Qt)|(apply Zav;(iterate 3 exact Z);exact Qt)|(apply Zam;exact Z;exact Qt;exact Z;exact Z)|(apply Zai;exact Z;exact Qt;exact Z;exact Z))
  all_goals(apply Zaz [];(apply Zad Zab;exact Z);(iterate 4 exact Z))
  all_goals rfl
 | true=>
 cases e1
 ·refine AP.ofA ?_
  refine Zao Tryd.func50 rfl Tryd.ntmps50 rfl rfl ?_
  repeat'(first|(apply Zaa (hD);kernel_rfl;(iterate 4 exact Z))|(apply Zaj Zab;exact Z)|(apply Zah Zab;exact Z)|(apply Zaf;(iterate 3 exact Z);exact Qt)|(apply Zav;(iterate 3 exact Z);exact Qt)|(apply Zam;exact Z;exact Qt;exact Z;exact Z)|(apply Zai;exact Z;exact Qt;exact Z;exact Z))
  all_goals(apply Zaz [];(apply Zad Zab;exact Z);(iterate 4 exact Z))
  all_goals rfl
 cases e2
 ·refine AP.ofA ?_
  refine Zao Tryd.func50 rfl Tryd.ntmps50 rfl rfl ?_
  repeat'(first|(apply Zaa (hD);kernel_rfl;(iterate 4 exact Z))|(apply Zaa (hR);kernel_rfl;(iterate 4 exact Z))|(apply Zaj Zab;exact Z)|(apply Zah Zab;exact Z)|(apply Zaf;(iterate 3 exact Z);exact Qt)|(apply Zav;(iterate 3 exact Z);exact Qt)|(apply Zam;exact Z;exact Qt;exact Z;exact Z)|(apply Zai;exact Z;exact Qt;exact Z;exact Z))
  all_goals(apply Zaz [];(apply Zad Zab;exact Z);(iterate 4 exact Z))
  all_goals rfl
 cases e3
 ·refine AP.ofA ?_
  refine Zao Tryd.func50 rfl Tryd.ntmps50 rfl rfl ?_
  repeat'(first|(apply Zaa (hD);kernel_rfl;(iterate 4 exact Z))|(apply Zaa (hR);kernel_rfl;(iterate 4 exact Z))|(apply Zaa (hI);kernel_rfl;(iterate 4 exact Z))|(apply Zaj Zab;exact Z)|(apply Zah Zab;exact Z)|(apply Zaf;(iterate 3 exact Z);exact Qt)|(apply Zav;(iterate 3 exact Z);exact Qt)|(apply Zam;exact Z;exact Qt;exact Z;exact Z)|(apply Zai;exact Z;exact Qt;exact Z;exact Z))
  all_goals(apply Zaz [];(apply Zad Zab;exact Z);(iterate 4 exact Z))
  all_goals rfl
 refine AP.ofA ?_
 refine Zao Tryd.func50 rfl Tryd.ntmps50 rfl rfl ?_
 repeat'(first|(apply Zaa (hD);kernel_rfl;(iterate 4 exact Z))|(apply Zaa (hR);kernel_rfl;(iterate 4 exact Z))|(apply Zaa (hI);kernel_rfl;(iterate 4 exact Z))|(apply Zaj Zab;exact Z)|(apply Zah Zab;exact Z)|(apply Zaf;(iterate 3 exact Z);exact Qt)|(apply Zam;exact Z;exact Qt;exact Z;exact Z))
 all_goals(apply Zaz [];(apply Zad Zab;exact Z);(iterate 4 exact Z))
 all_goals rfl
def ZgM (x:EidV)(t q:Nat):It:=.mk 4 0 [] [ZcL x,.mk 4 0 [] [.mk 0 t [] [],.mk 0 q [] []]]
theorem Zc8 {x:EidV}{t q:Nat}:Zcl x t q=true ↔ Zbh x=true/\t<=1099511627776/\q<=1099511627776:=by
 unfold Zcl
 simp only[Bool.and_eq_true,decide_eq_true_eq]
 rw[and_assoc]
 exact and_congr Iff.rfl (and_congr (by omega) (by omega))
theorem Zks {x:EidV}{t q:Nat}(h:Zcl x t q=true):wfI (ZgM x t q):=by
 obtain⟨h1,h2,h3⟩:=Zc8.1 h
 have hw:=Zdy h1
 unfold ZgM
 generalize ZcL x=y at *
 simp[wfI,wfs,hw]
 omega
theorem Zez [Known](x:EidV)(t q:Nat):AP Tryd.prog 52 [.agg (iC x t q)] (.tup [itD (if Zcl x t q then ZgM x t q else .mk 0 0 [] []),.int .i64 (if Zcl x t q then 0 else 3)]) []:=by
 have hR:=Zgj x t q
 cases hr:Zcl x t q with
 | false=>
  rw[hr]at hR
  refine AP.ofA ?_
  refine Zao Tryd.func52 rfl Tryd.ntmps52 rfl rfl ?_
  repeat'(first|(apply Zaa (hR);kernel_rfl;(iterate 4 exact Z))|(apply Zaj Zab;exact Z)|(apply Zah Zab;exact Z)|(apply Zay Zab;exact Z)|(apply Zac;exact Z;exact Qt))
  all_goals(apply Zaz [];(apply Zad Zab;exact Z);(iterate 4 exact Z))
  all_goals rfl
 | true=>
  rw[hr]at hR
  rw[if_pos rfl,if_pos rfl]
  obtain⟨h1,h2,h3⟩:=Zc8.1 hr
  have hE:=ZcX x
  rw[h1,if_pos rfl,if_pos rfl]at hE
  have hw:=Zdy h1
  have nt:=ZbI t
  have nq:=ZbI q
  unfold ZgM
  generalize ZcL x=y at *
  have hL1:=Zb9 [.mk 0 t [] [],.mk 0 q [] []] (by simp) (by simp[wfI,wfs];omega)
  have hL:=Zb9 [y,.mk 4 0 [] [.mk 0 t [] [],.mk 0 q [] []]] (by simp) (by simp[wfI,wfs,hw];omega)
  obtain⟨k,n,b,l⟩:=y
  replace nt:AP Tryd.prog _ [.int .u64 (t:Int)] (.agg [.int .i64 0,.int .u64 (t:Int),.sl .ext [],.sl .ext []]) []:=nt
  replace nq:AP Tryd.prog _ [.int .u64 (q:Int)] (.agg [.int .i64 0,.int .u64 (q:Int),.sl .ext [],.sl .ext []]) []:=nq
  replace hE:AP Tryd.prog _ [.agg (eC x)] (.tup [.agg [.int .i64 k,.int .u64 (n:Int),byE b,.sl .ext (Zan l)],.int .i64 0]) []:=hE
  replace hL1:AP Tryd.prog _ _ (.agg [.int .i64 4,.int .u64 0,.sl .ext [],.sl .ext [.agg [.int .i64 0,.int .u64 (t:Int),.sl [],.sl []],.agg [.int .i64 0,.int .u64 (q:Int),.sl [],.sl []]]]) []:=hL1
  refine AP.ofA ?_
  refine Zao Tryd.func52 rfl Tryd.ntmps52 rfl rfl ?_
  repeat'(first|(apply Zaa (hR);kernel_rfl;(iterate 4 exact Z))|(apply Zaa (hE);kernel_rfl;(iterate 4 exact Z))|(apply Zaa (nt);kernel_rfl;(iterate 4 exact Z))|(apply Zaa (nq);kernel_rfl;(iterate 4 exact Z))|(apply Zaa (hL1);kernel_rfl;(iterate 4 exact Z))|(apply Zaa (hL);kernel_rfl;(iterate 4 exact Z))|(apply Zaj Zab;exact Z)|(apply Zah Zab;exact Z)|(apply Zay Zab;exact Z)|(apply Zae;exact Z;exact Qt)|(apply Za0 Zab;(iterate 12 exact Z))|(apply Zap 13 ZaY;decide +kernel;kernel_rfl;kernel_rfl;kernel_rfl;exact Z;exact Z)|(apply Zas;(iterate 4 exact Z))|exact AE.nil _ _ _ _|(apply Zau;exact Z)|(apply Zee;exact Z)|(apply ZaA;exact Z;exact Z;decide +kernel;exact Z)|(apply ZaB;exact Z)|(apply Zgy;exact Z)|exact AO.nil _ _ _|(apply Zar;(decide +kernel))|(apply Za3;(iterate 3 exact Z))|exact AOs.nil|exact ZaN rfl rfl|exact Zc9 rfl rfl rfl rfl rfl|exact ZeO rfl)
  all_goals(apply Zaz [];(apply Zad Zab;exact Z);(iterate 4 exact Z))
  all_goals rfl
def Zby (p:PriV):List It:=[.mk 0 7 [] [],.mk 0 p.fl [] [],.mk 0 p.sum.toNat [] [],ZcL p.dest,ZcL p.src,ZcL p.rep,.mk 4 0 [] [.mk 0 p.t [] [],.mk 0 p.q [] []],.mk 0 p.life [] []]
def ZcH (p:PriV):It × Int:=match ZcG p with
 | true=>Zdf (Zby p) 2
 | false=>(z0,3)
theorem ZdW {p:PriV}(h:ZcG p=true):0<=p.sum/\p.sum<=2/\Zbh p.dest=true/\Zbh p.rep=true/\Zcl p.src p.t p.q=true/\p.life<=1099511627776:=by
 unfold ZcG at h
 simp only[Bool.and_eq_true,decide_eq_true_eq]at h
 obtain⟨_,h1,h2,h3,h4,h5,h6⟩:=h
 exact⟨h1,h2,h3,h4,h5,by omega⟩
theorem ZlG {p:PriV}(h:ZcG p=true)(hfl:p.fl<18446744073709551616):wfs (Zby p):=by
 obtain⟨h1,h2,h3,h4,h5,h6⟩:=ZdW h
 obtain⟨i1,i2,i3⟩:=Zc8.1 h5
 refine⟨?_,?_,?_,Zdy h3,Zdy i1,Zdy h4,?_,?_,trivial⟩
 all_goals first|(simp[wfI,wfs];done)|(simp[wfI,wfs];omega)
theorem Zjr [Known][KnownU8](p:PriV)(hfl:p.fl<18446744073709551616)(hlim:∀ s,s=1\/s=2->(ZaX (ZaK s (Zby p))).length<=1000000000):AP Tryd.prog 24 [.agg (prC p)] (ZhW (ZcH p)) []:=by
 have hR:=Zey p
 unfold ZcH
 cases hr:ZcG p with
 | false=>
  rw[hr]at hR
  obtain⟨fl,sum,⟨di,dn,ds,dh,dd⟩,⟨ri,rn,rs,rh,rd⟩,⟨xi,xn,xs,xh,xd⟩,t,q,life⟩:=p
  dsimp only[z0]at *
  refine AP.ofA ?_
  refine Zao Tryd.func24 rfl Tryd.ntmps24 rfl rfl ?_
  repeat'(first|(apply Zaa (hR);kernel_rfl;(iterate 4 exact Z))|(apply Zaj Zab;exact Z)|(apply Zah Zab;exact Z)|(apply Zay Zab;exact Z)|(apply Zac;exact Z;exact Qt))
  all_goals(apply Zaz [];(apply Zad Zab;exact Z);(iterate 4 exact Z))
  all_goals rfl
 | true=>
  rw[hr]at hR
  obtain⟨h1,h2,h3,h4,h5,h6⟩:=ZdW hr
  have hS:=Zjd (Zby p) 2 (ZlG hr hfl) (by simp[Zby]) hlim
  have hD:=ZcX p.dest
  have hP:=ZcX p.rep
  have hI:=Zez p.src p.t p.q
  rw[if_pos h3,if_pos h3]at hD
  rw[if_pos h4,if_pos h4]at hP
  rw[if_pos h5,if_pos h5]at hI
  have hN:=ZbI 7
  have hF:=ZbI p.fl
  have hM:=ZbI p.sum.toNat
  have hL:=ZbI p.life
  dsimp only
  generalize Zdf (Zby p) 2=r at *
  unfold Zby at hS
  unfold ZgM at hI
  obtain⟨fl,sum,⟨di,dn,ds,dh,dd⟩,⟨ri,rn,rs,rh,rd⟩,⟨xi,xn,xs,xh,xd⟩,t,q,life⟩:=p
  dsimp only at *
  generalize ZcL ⟨di,dn,ds,dh,dd⟩=I1 at *
  generalize ZcL ⟨ri,rn,rs,rh,rd⟩=I2 at *
  generalize ZcL ⟨xi,xn,xs,xh,xd⟩=I3 at *
  obtain⟨ak,an,ab,al⟩:=I1
  obtain⟨bk,bn,bb,bl⟩:=I2
  obtain⟨ck,cn,cb,cl⟩:=I3
  obtain⟨⟨k,n,b,l⟩,e⟩:=r
  have es:IntKind.u64.wrap sum=((sum.toNat:Nat):Int):=by rw[IntWalk.u64_in _ (by omega)];omega
  have hU:=Zbs [It.mk ck cn cb cl,.mk 4 0 [] [.mk 0 t [] [],.mk 0 q [] []]]
  have hv0:(Zan [It.mk ck cn cb cl,.mk 4 0 [] [.mk 0 t [] [],.mk 0 q [] []]])[(0:Int).toNat]?=some (.agg [.int .i64 ck,.int .u64 (cn:Int),.sl (cb.map E.byte),.sl (Zan cl)]):=rfl
  have hv1:(Zan [It.mk ck cn cb cl,.mk 4 0 [] [.mk 0 t [] [],.mk 0 q [] []]])[(1:Int).toNat]?=some (.agg [.int .i64 4,.int .u64 0,.sl [],.sl [nmE t,nmE q]]):=rfl
  generalize hLe:Zan [It.mk ck cn cb cl,.mk 4 0 [] [.mk 0 t [] [],.mk 0 q [] []]]=LL at *
  replace hI:AP Tryd.prog 52 [.agg (iC ⟨xi,xn,xs,xh,xd⟩ t q)] (.tup [.agg [.int .i64 4,.int .u64 0,.sl .ext [],.sl .ext LL],.int .i64 0]) []:=by rw[<- hLe];exact hI
  replace hS:AP Tryd.prog 8 [.sl .ext [nmE 7,nmE fl,nmE sum.toNat,.agg [.int .i64 ak,.int .u64 (an:Int),.sl (ab.map E.byte),.sl (Zan al)],.agg [.int .i64 ck,.int .u64 (cn:Int),.sl (cb.map E.byte),.sl (Zan cl)],.agg [.int .i64 bk,.int .u64 (bn:Int),.sl (bb.map E.byte),.sl (Zan bl)],.agg [.int .i64 4,.int .u64 0,.sl [],.sl [nmE t,nmE q]],nmE life],.int .i64 2] (ZhW (.mk k n b l,e)) []:=hS
  refine AP.ofA ?_
  refine Zao Tryd.func24 rfl Tryd.ntmps24 rfl rfl ?_
  repeat'(first|(apply Zaa (hR);kernel_rfl;(iterate 4 exact Z))|rw[es]|(apply Zaa (hD);kernel_rfl;(iterate 4 exact Z))|(apply Zaa (hP);kernel_rfl;(iterate 4 exact Z))|(apply Zaa (hI);kernel_rfl;(iterate 4 exact Z))|(apply Zaa (hN);kernel_rfl;(iterate 4 exact Z))|(apply Zaa (hF);kernel_rfl;(iterate 4 exact Z))|(apply Zaa (hM);kernel_rfl;(iterate 4 exact Z))|(apply Zaa (hL);kernel_rfl;(iterate 4 exact Z))|(apply Zaa (hS);kernel_rfl;(iterate 4 exact Z))|(apply Zaj Zab;exact Z)|(apply Zah Zab;exact Z)|(apply Zay Zab;exact Z)|(apply Zae;exact Z;exact Qt)|(apply Za0 Zab;(iterate 12 exact Z))|(apply Zap 21 ZaY;decide +kernel;kernel_rfl;kernel_rfl;kernel_rfl;exact Z;exact Z)|(apply Zas;(iterate 4 exact Z))|exact AE.nil _ _ _ _|(apply Zau;exact Z)|(apply ZaA;exact Z;exact Z;decide +kernel;exact Z)|(apply ZaB;exact Z)|exact AO.nil _ _ _|(apply Zar;(decide +kernel))|exact AOs.nil|exact ZaN rfl rfl|(apply Zat Zab;(iterate 6 exact Z);(first|exact Qt|rotate_left);(first|with_reducible assumption|decide +kernel|exact Z);(first|exact Zag rfl|with_reducible assumption|decide +kernel|rotate_left)))
  all_goals(apply Zaz [];(apply Zad Zab;exact Z);(iterate 4 exact Z))
  all_goals rfl
theorem Znl [Known][KnownU8](k:Int)(n:Nat)(b:List UInt8)(xl:List E)(L:List E)(e:Int)
  (hO:AP Tryd.prog 11 [.agg [.int .i64 k,.int .u64 (n:Int),byE b,.sl .ext xl],.int .i64 2] (.tup [.sl .ext L,.int .i64 e]) []) (t1:(e != 0)=true) :
  AP Tryd.prog 25 [.agg [.int .i64 k,.int .u64 (n:Int),byE b,.sl .ext xl]] (.tup [.agg [.int .u64 0,.int .i64 0,.bool false,.int .u64 0,.int .u64 0,.str [],.str [],.bool false,.int .u64 0,.int .u64 0,.str [],.str [],.bool false,.int .u64 0,.int .u64 0,.str [],.str [],.int .u64 0,.int .u64 0,.int .u64 0],.int .i64 e]) []:=by
 refine AP.ofA ?_
 refine Zao Tryd.func25 rfl Tryd.ntmps25 rfl rfl ?_
 repeat'(first|(apply Zaa (hO);kernel_rfl;(iterate 4 exact Z))|(apply Zaj Zab;exact Z)|(apply Zah Zab;exact Z)|(apply Zay Zab;exact Z)|(apply Zac;exact Z;exact Qt))
 all_goals(apply Zaz [];(apply Zad Zab;exact Z);(iterate 4 exact Z))
 all_goals rfl
theorem Znm [Known][KnownU8](k:Int)(n:Nat)(b:List UInt8)(xl:List E)(L:List E)(e:Int)
  (hO:AP Tryd.prog 11 [.agg [.int .i64 k,.int .u64 (n:Int),byE b,.sl .ext xl],.int .i64 2] (.tup [.sl .ext L,.int .i64 e]) []) (t1:(e != 0)=false) (t2:((L.length:Int) != 8)=true) :
  AP Tryd.prog 25 [.agg [.int .i64 k,.int .u64 (n:Int),byE b,.sl .ext xl]] (.tup [.agg [.int .u64 0,.int .i64 0,.bool false,.int .u64 0,.int .u64 0,.str [],.str [],.bool false,.int .u64 0,.int .u64 0,.str [],.str [],.bool false,.int .u64 0,.int .u64 0,.str [],.str [],.int .u64 0,.int .u64 0,.int .u64 0],.int .i64 3]) []:=by
 refine AP.ofA ?_
 refine Zao Tryd.func25 rfl Tryd.ntmps25 rfl rfl ?_
 repeat'(first|(apply Zaa (hO);kernel_rfl;(iterate 4 exact Z))|(apply Zaj Zab;exact Z)|(apply Zah Zab;exact Z)|(apply Zay Zab;exact Z)|(apply Zac;exact Z;exact Qt)|(apply Zae;exact Z;exact Qt)|(apply Zak Zab;(iterate 4 exact Z)))
 all_goals(apply Zaz [];(apply Zad Zab;exact Z);(iterate 4 exact Z))
 all_goals rfl
end Go.Proofs.YtakblclkflnnpaaDoor
end
