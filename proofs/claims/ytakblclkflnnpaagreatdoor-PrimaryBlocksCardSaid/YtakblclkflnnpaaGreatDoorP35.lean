/- Rows of one's own, lent to calls that answer without them; functions that hand on a row of one's own. -/
import Derived.Test.YtakblclkflnnpaaGreatDoorP25
import Derived.Test.YtakblclkflnnpaaGreatDoorP18
import Derived.Test.YtakblclkflnnpaaGreatDoorP29
import Derived.Test.YtakblclkflnnpaaGreatDoorP30
import Derived.Test.YtakblclkflnnpaaGreatDoorP31
import Derived.Test.YtakblclkflnnpaaGreatDoorP19
import Derived.Test.YtakblclkflnnpaaGreatDoorP21
import Derived.Test.YtakblclkflnnpaaGreatDoorP34
import Derived.Test.YtakblclkflnnpaaGreatDoorP01
import Derived.Test.YtakblclkflnnpaaGreatDoorP20
set_option linter.unusedSimpArgs false
set_option linter.unusedVariables false
section
open Go.RowKit Go.Pl
namespace Go.Av
mutual
def Zn1 (l:List E):D->D
 | .bsl _ _ _ _=>.sl .ext l
 | .sl _ l'=>.sl .ext l'
 | .agg ds=>.agg (ZhK l ds)
 | .bool b=>.bool b
 | .int k n=>.int k n
 | .str s=>.str s
 | .nilp=>.nilp
 | .eptr cs o=>.eptr cs o
 | .gptr k o=>.gptr k o
 | .nilf=>.nilf
 | .nili=>.nili
 | _=>.junk
def ZhK (l:List E):List D->List D
 | []=>[]
 | d::ds=>Zn1 l d::ZhK l ds
end
mutual
def LOk (b n:Nat):D->Prop
 | .bsl b' o n' _=>b'=b/\o=0/\n'=n
 | .agg ds=>Zn2 b n ds
 | _=>True
def Zn2 (b n:Nat):List D->Prop
 | []=>True
 | d::ds=>LOk b n d/\Zn2 b n ds
end
theorem ZfI {b n:Nat}{d:D}{ds:List D}(h:LOk b n d)(k:Zn2 b n ds):Zn2 b n (d::ds):=⟨h,k⟩
theorem Ziq {b n:Nat}{ds:List D}(h:Zn2 b n ds):LOk b n (.agg ds):=h
theorem Zir (b n c:Nat):LOk b n (.bsl b 0 n c):=⟨rfl,rfl,rfl⟩
theorem ZdN (l:List E)(ds:List D):ZhK l ds=ds.map (Zn1 l):=by
 induction ds with
 | nil=>rfl
 | cons d ds ih=>simp[ZhK,ih]
theorem ZgJ {b n:Nat}:∀ {ds:List D} {j:Nat} {d:D},Zn2 b n ds->ds[j]?=some d->LOk b n d
 | [],j,d,_,h=>by simp at h
 | x::ds,0,d,h,hd=>by simp at hd;subst hd;exact h.1
 | x::ds,j+1,d,h,hd=>by simp at hd;exact ZgJ h.2 hd
def G.lent (g:G):G:=⟨fun k o=>g.C k o\/k ∈ g.ρ,[],[]⟩
section
variable {P:Program} {Q:X->St->Prop} {n:Nat} {ee:Nat × Nat} {tm:List (Nat × D)} {bx bx':List (List D)} {fr fr':List Fr} {b0:Bs} {g g':G} {w w':World} {a:Act} {T:Tab}
variable {ops:Array Oper} {rest:List Oper} {t ty:Nat} {pos:String} {after:Array Edge}
theorem Mem.lent [Known](hm:Mem g bx fr w):Mem g.lent [] [] w where
 bl:=rfl
 bat i blk cs h:=by simp[G.lent]at h
 bC blk o h:=by simp[G.lent]at h
 bN i j b h:=by simp[G.lent]at h
 tl:=rfl
 tat i blk cap f h:=by simp[G.lent]at h
 tN i j b c c' h:=by simp[G.lent]at h
 tρ b c h:=by simp[G.lent]at h
 Clt b o h:=h.elim (hm.Clt b o) fun h=>hm.lt (.inl h)
 gl:=⟨fun k cs hk j v hv=>⟨.inl (hm.gl.1 k cs hk j v hv).1,(hm.gl.1 k cs hk j v hv).2⟩,fun k t hk=>⟨.inl (hm.gl.2 k t hk).1,(hm.gl.2 k t hk).2⟩⟩
theorem V.lend [Known]{b m z:Nat}{l:List E}{d:D}{v:Value}(hm:Mem g bx fr w)(hb:bx[b]?=some [.row z (flat l)])(hl:l.length=m)(h:V w g fr d v)(ho:LOk b m d):V w g.lent [] (Zn1 l d) v:=by
 have hE:∀ {e v},VE w g.C e v->VE w g.lent.C e v:=fun hv=>hv.mono (fun _ _ h=>.inl h) fun _ _ _=>rfl
 induction h with
 | bool b=>exact .bool b
 | int k n=>exact .int k n
 | str s h=>exact .str s h
 | sl t l v h hk=>exact .sl .ext l v (hE h) trivial
 | nilp=>exact .nilp
 | ptr b o blk h=>exact .junk _
 | eptr cs o blk off us hc hw' hv=>exact .eptr cs o blk off us (fun j hj=>.inl (hc j hj)) hw' (fun j e he=>hE (hv j e he))
 | gptr k o=>exact .gptr k o
 | bsl b' o n c blk cap hr h1 h2 _=>
  obtain⟨rfl,rfl,rfl⟩:=ho
  obtain⟨vs,ut,r1,r2,r3,r4⟩:=hm.rowc hr hb
  subst hl
  refine .sl .ext l _ ?_ trivial
  refine .slC l blk 0 cap (fun j=>vs.toList.getD j undef) h1 h2 (fun j hj=>.inr (List.mem_of_getElem? hr)) (fun j hj=>?_) (fun j x hx=>?_)
  ·rw[Nat.zero_add,cell_of_row w blk j vs ut (0,0) r1]
   have:j<vs.size:=by omega
   simp[List.getD,this]
  ·have hj:=(List.getElem?_eq_some_iff.1 hx).1
   have hlt:j<vs.size:=by omega
   exact hE (r4 j x _ hx (by simp[List.getD,hlt]))
 | agg ds vs hl' _ ih=>
  refine .agg _ vs (by rw[ZdN];simpa using hl') fun j d v hd hv=>?_
  rw[ZdN,List.getElem?_map]at hd
  cases hj:ds[j]? with
  | none=>rw[hj]at hd;cases hd
  | some d0=>
   rw[hj]at hd
   injection hd with hd
   subst hd
   exact ih j d0 v hj hv (ZgJ ho hj)
 | tup l vs hl _ ih=>exact .junk _
 | fn f l vs hl _ ih=>exact .junk _
 | nilf=>exact .nilf
 | iface t d v _ ih=>exact .junk _
 | nili=>exact .nili
 | junk v=>exact .junk v
 | row z l v=>exact .junk v
mutual
def plD:D->D
 | .bool b=>.bool b
 | .int k n=>.int k n
 | .str s=>.str s
 | .nilp=>.nilp
 | .sl _ l=>match l with
  | []=>.sl .ext []
  | _::_=>.junk
 | .agg ds=>.agg (Zn8 ds)
 | .tup ds=>.tup (Zn8 ds)
 | .nilf=>.nilf
 | .nili=>.nili
 | _=>.junk
def Zn8:List D->List D
 | []=>[]
 | d::ds=>plD d::Zn8 ds
end
theorem ZgK (ds:List D):Zn8 ds=ds.map plD:=by
 induction ds with
 | nil=>rfl
 | cons d ds ih=>simp[Zn8,ih]
theorem V.pl {d:D}{v:Value}(h:V w g fr d v)(g':G)(fr':List Fr):V w g' fr' (plD d) v:=by
 have key:∀ {ds:List D} {vs:List Value},(∀(j:Nat) (d:D) (v:Value),ds[j]?=some d->vs[j]?=some v->V w g' fr' (plD d) v)->∀(j:Nat) (d:D) (v:Value),(Zn8 ds)[j]?=some d->vs[j]?=some v->V w g' fr' d v:=by
  intro ds vs h j d v hd hv
  rw[ZgK,List.getElem?_map]at hd
  cases hj:ds[j]? with
  | none=>rw[hj]at hd;cases hd
  | some d0=>
   rw[hj]at hd
   injection hd with hd
   subst hd
   exact h j d0 v hj hv
 induction h with
 | bool b=>exact .bool b
 | int k n=>exact .int k n
 | str s h=>exact .str s h
 | sl t l v h hk=>
  cases l with
  | cons x l=>exact .junk _
  | nil=>
   refine .sl .ext [] v ?_ trivial
   generalize hq:E.sl []=q at h
   cases h with
   | slE A cap h=>exact .slE A cap h
   | slC l' g off cap us h1 h2 hc hw hv=>
    injection hq with hq;subst hq
    exact .slE _ _ h2
   | _=>cases hq
 | nilp=>exact .nilp
 | ptr b o blk h=>exact .junk _
 | eptr cs o blk off us hc hw' hv=>exact .junk _
 | gptr k o=>exact .junk _
 | bsl b o n c blk cap hb h1 h2 _=>exact .junk _
 | agg ds vs hl' _ ih=>exact .agg _ vs (by rw[ZgK];simpa using hl') (key ih)
 | tup ds vs hl' _ ih=>exact .tup _ vs (by rw[ZgK];simpa using hl') (key ih)
 | fn f l vs hl _ ih=>exact .junk _
 | nilf=>exact .nilf
 | iface t d v _ ih=>exact .junk _
 | nili=>exact .nili
 | junk v=>exact .junk v
 | row z l v=>exact .junk v
theorem Mem.lentBack [Known](hm:Mem g bx fr w)(he:Evo ⟨g.lent,[],w⟩ ⟨g',fr',w'⟩)(hm':Mem g' bx' fr' w') :
  Evo ⟨g,fr,w⟩ ⟨⟨fun k o=>g'.C k o/\k ∉ g.ρ,g.ρ,g.τ⟩,fr,w'⟩/\Mem ⟨fun k o=>g'.C k o/\k ∉ g.ρ,g.ρ,g.τ⟩ bx fr w':=by
 have hnM:∀ k,¬ M g.lent k:=fun k h=>by
  rcases h with h|⟨c,h⟩
  ·simp[G.lent]at h
  ·simp[G.lent]at h
 have hblk:∀ k,k<w.heap.size->w'.heap[k]?=w.heap[k]? := fun k hk=>he.block k hk (hnM k)
 have hcell:∀ k o,g.C k o->w'.cell? ⟨k,o,none⟩=w.cell? ⟨k,o,none⟩:=fun k o h=>he.cell k o (.inl h)
 have hevo:Evo ⟨g,fr,w⟩ ⟨⟨fun k o=>g'.C k o/\k ∉ g.ρ,g.ρ,g.τ⟩,fr,w'⟩:=by
  refine⟨he.os,he.tape,he.output,he.size,fun k hk _=>hblk k hk,fun k o h=>⟨he.C k o (.inl h),fun hk=>hm.bC k o hk h⟩,hcell,fun k o h=>?_,fun _ _ h=>h,fun _ h=>.inl h,fun k c h=>.inl ⟨c,h⟩,ZcI.refl _ _⟩
  rcases he.newC k o h.1 with h1|h1|h1
  ·exact h1.elim .inl fun h2=>(h.2 h2).elim
  ·exact .inr (.inl h1)
  ·exact(hnM k h1).elim
 refine⟨hevo,⟨hm.bl,fun i blk cs h1 h2=>?_,fun k o hk h=>h.2 hk,hm.bN,hm.tl,fun i k c f h1 h2=>?_,hm.tN,hm.tρ,fun k o h=>hm'.Clt k o h.1,hm.gl.evo hevo⟩⟩
 ·obtain⟨us,ty,k1,k2,k3⟩:=hm.bat i blk cs h1 h2
  exact⟨us,ty,(hblk blk (Array.getElem?_eq_some_iff.1 k1).1).trans k1,k2,fun j d v hd hv=>(k3 j d v hd hv).evo hevo⟩
 ·have hT:=hm.tat i k c f h1 h2
  obtain⟨cur,r1,r2⟩:=hT.row
  have hlt:=(Array.getElem?_eq_some_iff.1 r1).1
  refine⟨⟨cur,(hblk k hlt).trans r1,r2⟩,hT.le,hT.max,hT.pos,fun o ho h=>?_⟩
  rcases he.newC k o h.1 with h3|h3|h3
  ·exact h3.elim (hT.far o ho) fun h4=>h.2 h4
  ·exact absurd hlt (Nat.not_lt.2 h3)
  ·exact hnM k h3
theorem ZgL [Known][Dfr]{f:FuncId}{ars:Array Operand}{ats:Array TypeId}{cds:List D}{d d':D}{b m z:Nat}{l:List E}(hAC:AP P f cds d [])(hf:ZlG P f=true)
  (hb:bx[b]?=some [.row z (flat l)]) (ho:Zn2 b m (ars.toList.map (ev tm))) (hc:ZhK l (ars.toList.map (ev tm))=cds) (htd:Nat.blt t n=true) (hd:nf (plD d)=some d') (hl:l.length=m)
  (k:AL P ops rest ⟨n,(t,d')::tm,bx,fr,ee⟩ Q):AL P ops (⟨some t,.call { callee:=.value (.func f),args:=ars,argTypes:=ats },ty,pos,after,none⟩::rest) ⟨n,tm,bx,fr,ee⟩ Q:=by
 refine⟨fun b0 g a w hi=>?_⟩
 refine wpList_plain rfl fun K hK=>?_
 have hrun:(execOp a.eval ⟨some t,.call { callee:=.value (.func f),args:=ars,argTypes:=ats },ty,pos,after,none⟩).run P w=.ok (.enter f (ars.toList.map a.eval).toArray) w:=by
  have e:ars.map a.eval=(ars.toList.map a.eval).toArray:=by rw[<- Array.toList_map,Array.toArray_toList]
  have hz:=Zc8 hf (ars.toList.map a.eval).toArray w
  rw[<- e]at hz ⊢
  simpa[execOp,resolve,Act.eval,Deferred.ofValue,invoke,Sem.run_bind]using hz
 unfold Oper.wp
 rw[hrun]
 have hm:=hi.mem
 have hcall:=hAC.run g.lent w (ars.toList.map a.eval) hm.lent (by rw[<- hc,ZdN];simp) (fun j d v hd hv=>by
  rw[<- hc,ZdN,List.getElem?_map]at hd
  cases hj:(ars.toList.map (ev tm))[j]? with
  | none=>simp only[hj,Option.map_none]at hd;cases hd
  | some d0=>
   simp only[hj,Option.map_some,Option.some.injEq]at hd
   subst hd
   exact(evs hi ars j d0 v hj hv).lend hm hb hl (ZgJ ho hj))
 refine hcall.mono fun e w' ⟨g',bx',fr',r,he,hm',hr,h1,h2,h3⟩=>?_
 subst h1
 obtain⟨q1,q2⟩:=hm.lentBack he hm'
 obtain⟨v,rfl,hv⟩:=hr
 rw[<- ZbY hd]at k
 have hi2:Inv b0 ⟨n,tm,bx,fr,ee⟩ ⟨fun k o=>g'.C k o/\k ∉ g.ρ,g.ρ,g.τ⟩ a w':=⟨hi.size,hi.defers,q2,fun t=>(hi.tm t).evo q1,hi.evo.trans q1,hi.bd⟩
 exact hK _ _ (k.run b0 _ _ w' (hi2.put htd (hv.pl _ _)))
end
def AF [Known](P:Program)(f:FuncId)(args:List D)(m:Nat)(d:Nat->D)(bx':Nat->List (List D)):Prop:=AC P f args [] [] fun r b fr=>∃ c,m<=c/\r=.ret (d c)/\b=bx' c/\fr=[]
theorem AF.weak [Known]{P:Program}{f:FuncId}{args:List D}{m:Nat}{d:Nat->D}{bx':Nat->List (List D)}(h:AC P f args [] [] fun r b fr=>∃ c,m<=c/\∃ d0,r=.ret d0/\d0.wk=d c/\b.map D.wks=bx' c/\fr=[]):AF P f args m d bx':=by
 refine⟨fun g w vs hm hl hv=>(h.run g w vs hm hl hv).mono fun e w' ⟨g',b',fr',r,h1,h2,h3,c,hc,d0,h4,h5,h6,h7⟩=>?_⟩
 subst h4 h7
 obtain⟨v,rfl,hv⟩:=h3
 exact⟨g',_,[],.ret d0.wk,h1,h2.wk,⟨v,rfl,hv.wk⟩,c,hc,by rw[h5],h6,rfl⟩
theorem Zm2 {P:Program}{rs:List ResultVar}{S:St}{m:Nat}{d:Nat->D}{d':D}{ds:List D}{bx':Nat->List (List D)}{B:List (List D)}(bs:List Nat)(c:Nat)(hm:m<=c)(h:ResL P S rs ds)(hb:Zgl bs S.bx.length=true)(hn:nf (((ZmN ds).ren (idx bs) (idx [])).wk)=some d')(hB:nfb ((Zka bs [] S.bx).map D.wks)=some B)(hd:d'=d c)(hB':B=bx' c) :
  Ze2 P rs 0 0 (fun r b fr=>∃ c,m<=c/\∃ d0,r=.ret d0/\d0.wk=d c/\b.map D.wks=bx' c/\fr=[]) .ret S:=
 ⟨ds,bs,[],h,Zdb hb,Zbe _,fun i h=>by omega,fun i h=>by omega,c,hm,_,rfl,by rw[ZbY hn,hd],by rw[Zco hB,hB'],rfl⟩
section
variable {P:Program} {Q:X->St->Prop} {n:Nat} {ee:Nat × Nat} {tm:List (Nat × D)} {bx:List (List D)} {fr:List Fr} {ops:Array Oper} {rest:List Oper} {ty:Nat} {pos:String} {after:Array Edge} {f:FuncId} {ars:Array Operand} {ats:Array TypeId}
theorem ZgM [Known][Dfr]{t m:Nat}{cds:List D}{d d':Nat->D}{bx1 bx2:Nat->List (List D)}(hAC:AF P f cds m d bx1)(hf:ZlG P f=true)
  (hc:D.wks ((ars.toList.map (ev tm)).map (D.ren (idx []) (idx [])))=cds) (htd:Nat.blt t n=true) (hd:∀ c,nf ((d c).ren (upN [] bx.length) (upN [] fr.length))=some (d' c)) (hB:∀ c,nfb (Zjv [] [] bx fr.length (bx1 c))=some (bx2 c))
  (k:∀ c,m<=c->AL P ops rest ⟨n,(t,d' c)::tm,bx2 c,fr,ee⟩ Q):AL P ops (⟨some t,.call { callee:=.value (.func f),args:=ars,argTypes:=ats },ty,pos,after,none⟩::rest) ⟨n,tm,bx,fr,ee⟩ Q:=by
 subst hc
 refine ZhW [] [] hf (AC.unwk hAC) rfl (Zbe _) (Zbe _) rfl rfl htd (fun _ _ _ h=>by obtain⟨_,_,h,_⟩:=h;cases h) fun d0 bx' fr' h=>?_
 obtain⟨c,hc,h1,rfl,rfl⟩:=h
 injection h1 with h1
 subst h1
 refine⟨Nat.zero_le _,?_⟩
 have e1:=ZbY (hd c)
 have e2:=Zco (hB c)
 have:=k c hc
 rw[<- e1,<- e2]at this
 simpa[St.aft,ZfQ,Zdi]using this
end
end Go.Av
end
section
open Go.RowKit Go.Pl Go.Av
namespace Go.Proofs.YtakblclkflnnpaaGreatDoor
set_option maxHeartbeats 4000000
theorem ZmH [Known](l:List It)(hne:l ≠ [])(hl:l.length<=2199023255488)(hws:wfs l):AF Tryz.prog 87 [.sl .ext (Zas l)] (Zas l).length (fun c=>.agg [.int .i64 4,.int .u64 0,.sl .ext [],.bsl 0 0 (Zas l).length c]) (fun c=>[[.row (c*4) (flat (Zas l))]]):=by
 have ih':∀ y ∈ l,AP Tryz.prog 145 [itD y] (itD y) []:=fun y hy=>Zfj y (ZaP hws y hy)
 have hlen:=Zan l
 refine AF.weak ?_
 refine Zap Tryz.func87 rfl Tryz.ntmps87 rfl rfl ?_
 repeat'(first|(apply Zaj Zab;exact Z)|(apply Zai Zab;exact Z)|(apply Zal Zab;(iterate 4 exact Z)))
 refine ZaC (fun k' tm bx fr=>∃(i c:Nat) (L:List E),k'+i=l.length/\L.length<=c/\L=Zas (l.take i)/\tm=[(3,.ptr 1 0),(2,.ptr 0 0),(7,.sl .ext (Zas l)),(8,.int .i64 ((Zas l).length:Int)),(9,.int .i64 (i:Int))]/\fr=[] /\
  ((i=0/\bx=[[.int .i64 0,.int .u64 0,.sl .nil [],.sl .nil []],[.int .i64 4,.int .u64 0,.sl .nil [],.sl .nil []]]) \/
  (0<c/\bx=[[.int .i64 0,.int .u64 0,.sl .nil [],.sl .nil []],[.int .i64 4,.int .u64 0,.sl .nil [],.bsl 2 0 L.length c],[.row (c*4) (flat L)]]))) (l.length+1) (Lands.mk' (m:=l.length) (Nat.lt_succ_self _) ⟨0,0,[],rfl,Nat.zero_le _,rfl,rfl,rfl,.inl ⟨rfl,rfl⟩⟩ ?_ rfl rfl rfl rfl rfl rfl) ?_
 ·exact .cons rfl (.cons rfl (.cons rfl (.cons rfl (.cons rfl .nil))))
 rintro k' tm bx fr ⟨i,c,L,hi,hc,hL,rfl,rfl,⟨rfl,rfl⟩ | ⟨hc0,rfl⟩⟩
 ·cases l with
  | nil=>exact absurd rfl hne
  | cons y l=>
   have hcp:=ih' y (List.mem_cons_self ..)
   have hU:=ZbG (y::l)
   have hd:decide (((0:Nat):Int)<((Zas (y::l)).length:Int))=true:=decide_eq_true (by rw[Zas];simp)
   obtain⟨k1,n1,b1,l1⟩:=y
   repeat'(first|(apply ZjJ (b:=2) Zab;(iterate 6 exact Z);(first|exact Zag rfl|with_reducible assumption|rotate_left);(first|exact Go.Zqo|rotate_left);(first|exact Go.Zqo|rotate_left);(first|exact Go.Zqo|rotate_left);(iterate 3 exact Z);exact(fun _=>rfl);exact Z;intro c2 hc2)|(apply Zaa (hcp);kernel_rfl;(iterate 4 exact Z))|(apply Zaj Zab;exact Z)|(apply Zai Zab;exact Z)|(apply Zay Zab;exact Z)|(apply Zac;exact Z;exact Go.Zqn)|(apply Za5 Zab;(iterate 12 exact Z))|(apply Zam 5 ZaR;decide +kernel;kernel_rfl;kernel_rfl;kernel_rfl;exact Z;exact Z)|(apply Zar;(iterate 4 exact Z))|exact AE.nil _ _ _ _|(apply Zav;exact Z)|(apply Zaz;exact Z;exact Z;decide +kernel;exact Z)|(apply ZaA;exact Z)|exact AO.nil _ _ _|(apply Zaq;(decide +kernel))|exact AOs.nil|exact ZaI rfl rfl|exact ZdO rfl rfl rfl rfl rfl|(apply Zat Zab;(iterate 6 exact Z);(first|exact Go.Zqn|rotate_left);(first|with_reducible assumption|decide +kernel|exact Z);(first|exact Zag rfl|with_reducible assumption|decide +kernel|rotate_left)))
   refine Lands.mk' (m:=k'-1) (by simp at hi;omega) ⟨1,c2,Zas [It.mk k1 n1 b1 l1],by simp at hi ⊢;omega,hc2,rfl,rfl,rfl,.inr ⟨Nat.lt_of_lt_of_le (Nat.succ_pos _) hc2,rfl⟩⟩ ?_ rfl rfl rfl rfl rfl rfl
   exact .cons rfl (.cons rfl (.cons rfl (.cons rfl (.cons rfl .nil))))
 ·have hU:=ZbG l
  have hU2:Uni 4 L:=hL ▸ ZbG (l.take i)
  have el:=Zan (l.take i)
  rw[<- hL]at el
  rcases Nat.lt_or_ge i l.length with hlt|hge
  ·have hd:decide ((i:Int)<((Zas l).length:Int))=true:=decide_eq_true (by omega)
   obtain⟨⟨k1,n1,b1,l1⟩,hy⟩:∃ y,l[i]?=some y:=⟨_,List.getElem?_eq_getElem hlt⟩
   have hv:(Zas l)[((i:Nat):Int).toNat]?=some (.agg [.int .i64 k1,.int .u64 (n1:Int),.sl (b1.map E.byte),.sl (Zas l1)]):=by
    rw[Int.toNat_natCast,ZaB,List.getElem?_map,hy];rfl
   have hcp:=ih' _ (List.mem_of_getElem? hy)
   have ei:IntKind.i64.wrap ((i:Int)+1)=((i+1:Nat):Int):=by rw[IntWalk.i64_in _ (by omega)];omega
   have hs:L++[E.agg [.int .i64 k1,.int .u64 (n1:Int),.sl (b1.map E.byte),.sl (Zas l1)]]=Zas (l.take (i+1)):=by
    rw[hL,List.take_add_one,hy];exact(Zb5 _ [It.mk k1 n1 b1 l1]).symm
   have hl1:(L++[E.agg [.int .i64 k1,.int .u64 (n1:Int),.sl (b1.map E.byte),.sl (Zas l1)]]).length=L.length+1:=by simp
   rw[List.length_take]at el
   repeat'(first|(apply Zf2 Zab;(iterate 8 exact Z);(first|with_reducible assumption|exact Nat.lt_of_lt_of_le (Nat.succ_pos _) (by assumption)|omega|rotate_left);exact Z;(first|exact Zag rfl|with_reducible assumption|rotate_left);(first|exact Zag rfl|with_reducible assumption|rotate_left);(first|exact Go.Zqo|rotate_left);(first|exact Go.Zqo|rotate_left);(first|exact Go.Zqo|rotate_left);exact Z;exact Z;exact(fun _=>rfl);exact Z;intro c2 hc2)|(apply Zaa (hcp);kernel_rfl;(iterate 4 exact Z))|rw[ei]|(apply Zaj Zab;exact Z)|(apply Zai Zab;exact Z)|(apply Zay Zab;exact Z)|(apply Zac;exact Z;exact Go.Zqn)|(apply Za5 Zab;(iterate 12 exact Z))|(apply Zam 5 ZaR;decide +kernel;kernel_rfl;kernel_rfl;kernel_rfl;exact Z;exact Z)|(apply Zar;(iterate 4 exact Z))|exact AE.nil _ _ _ _|(apply Zav;exact Z)|(apply Zaz;exact Z;exact Z;decide +kernel;exact Z)|(apply ZaA;exact Z)|exact AO.nil _ _ _|(apply Zaq;(decide +kernel))|exact AOs.nil|exact ZaI rfl rfl|exact ZdO rfl rfl rfl rfl rfl|(apply Zat Zab;(iterate 6 exact Z);(first|exact Go.Zqn|rotate_left);(first|with_reducible assumption|decide +kernel|exact Z);(first|exact Zag rfl|with_reducible assumption|decide +kernel|rotate_left)))
   ·refine Lands.mk' (m:=k'-1) (by omega) ⟨i+1,c2,_,by omega,by rw[hl1];exact hc2,hs,rfl,rfl,.inr ⟨Nat.lt_of_lt_of_le (Nat.succ_pos _) hc2,by rw[hl1]⟩⟩ ?_ rfl rfl rfl rfl rfl rfl
    exact .cons rfl (.cons rfl (.cons rfl (.cons rfl (.cons rfl .nil))))
   all_goals(first|rfl|(simp only[List.length_append,List.length_cons,List.length_nil,List.length_map,Zan];done)|(simp only[List.length_append,List.length_cons,List.length_nil,List.length_map,Zan]at *;(try unfold maxLen);(try simp only[Nat.add_mul]);omega))
  ·have hd:decide ((i:Int)<((Zas l).length:Int))=false:=decide_eq_false (by omega)
   rw[List.take_of_length_le hge]at hL
   subst hL
   repeat'(first|(apply Zai Zab;exact Z)|(apply Zae;exact Z;exact Go.Zqn))
   all_goals(apply Zm2 [2] c hc;(apply Zad Zab;exact Z);(iterate 5 exact Z))
theorem ZmI [Known][KnownU8](l:List It)(a:Int)(s:Nat)(hs:s=1\/s=2)(es:ZaM l a=(s:Int))(h0:0<=a)(hal:a<(l.length:Int))(hws:wfs l)(hl:l.length<=1000000)(hlim:(Za1 (ZaJ s l)).length<=1000000000)
  (hA:l.all Zaw=true) (hz:Zaw (ZaJ s l)=true) (hr:Zaw (ZdR s l)=true) :
  AF Tryz.prog 83 [.sl .ext (Zas l),.int .i64 a] ((Zas l).length+1) (fun c=>.tup [.agg [.int .i64 4,.int .u64 0,.sl .ext [],.bsl 0 0 ((Zas l).length+1) c],.int .i64 0]) (fun c=>[[.row (c*4) (flat (Zas l++[.agg [.int .i64 2,.int .u64 0,.sl ((ZdP s (Za1 (ZaJ s l))).map E.byte),.sl []]]))]]):=by
 have hlen:=Zan l
 have hU:=ZbG l
 have hC:=ZiV l hws hl
 have hT:=Zfn l hws a
 have hne:l ≠ []:=by rintro rfl;simp at hal;omega
 have t1:decide (a<0)=false:=decide_eq_false (by omega)
 have t2:decide (a ≥ ((Zas l).length:Int))=false:=decide_eq_false (by omega)
 rw[hA]at hC
 replace hC:AP Tryz.prog 140 _ (.bool false) []:=hC
 rw[es]at hT
 have hS:=Zgt l s hs hne hws hl hlim
 have hL:=ZmH l hne (by omega) hws
 have hsl:=ZeV s (Za1 (ZaJ s l)) hs
 have hB:=ZeS (ZdP s (Za1 (ZaJ s l))) (by omega)
 have hR:=Zb7 (ZdR s l) (ZkU hs hws hl)
 have hmx:(Zas l).length<=1000000:=by omega
 have hlp:0<(Zas l).length:=by rw[hlen];exact List.length_pos_iff.2 hne
 have d1:decide ((s:Int)<0)=false:=decide_eq_false (by omega)
 have d2:decide ((s:Int)>0)=true:=decide_eq_true (by omega)
 have d3:decide ((s:Int) ≥ 0)=true:=decide_eq_true (by omega)
 rw[hz]at hS
 dsimp only at hS ⊢
 have eO:itD (ZdR s l)=.agg [.int .i64 4,.int .u64 0,.sl .ext [],.sl .ext (Zas l++[.agg [.int .i64 2,.int .u64 0,.sl ((ZdP s (Za1 (ZaJ s l))).map E.byte),.sl []]])]:=by
  show D.agg [.int .i64 4,.int .u64 0,.sl .ext [],.sl .ext (Zas (l++[.mk 2 0 (ZdP s (Za1 (ZaJ s l))) []]))]=_
  rw[Zb5]
  rfl
 rw[hr,eO]at hR
 generalize ZdP s (Za1 (ZaJ s l))=SB at *
 have hl1:(Zas l++[E.agg [.int .i64 2,.int .u64 0,.sl (SB.map E.byte),.sl []]]).length=(Zas l).length+1:=by simp
 refine AF.weak ?_
 refine Zap Tryz.func83 rfl Tryz.ntmps83 rfl rfl ?_
 repeat'(first|(apply Zf2 Zab;(iterate 8 exact Z);(first|with_reducible assumption|exact Nat.lt_of_lt_of_le (Nat.succ_pos _) (by assumption)|omega|rotate_left);exact Z;(first|exact Zag rfl|with_reducible assumption|rotate_left);(first|exact Zag rfl|with_reducible assumption|rotate_left);(first|exact Go.Zqo|rotate_left);(first|exact Go.Zqo|rotate_left);(first|exact Go.Zqo|rotate_left);exact Z;exact Z;exact(fun _=>rfl);exact Z;intro c2 hc2)|(apply Zaa (hC);kernel_rfl;(iterate 4 exact Z))|(apply Zaa (hT);kernel_rfl;(iterate 4 exact Z))|(apply ZgM (hL);kernel_rfl;exact Z;exact Z;exact(fun _=>rfl);exact(fun _=>rfl);intro c1 hc1)|(apply Zaa (hS);kernel_rfl;(iterate 4 exact Z))|(apply Zaa (hB);kernel_rfl;(iterate 4 exact Z))|(apply ZgL (b:=1) (hR);kernel_rfl;exact Z;(repeat (first|exact True.intro|exact Zir _ _ _|apply Ziq|apply ZfI));(iterate 3 exact Z);(first|exact Z|with_reducible assumption|rotate_left))|(apply Zaj Zab;exact Z)|(apply Zai Zab;exact Z)|(apply Zay Zab;exact Z)|(apply Zaf;(iterate 3 exact Z);exact Go.Zqn)|(apply Zah;exact Z;exact Go.Zqn;exact Z;exact Z)|(apply Zac;exact Z;exact Go.Zqn)|(apply Zae;exact Z;exact Go.Zqn)|(apply Zal Zab;(iterate 4 exact Z))|(apply Za5 Zab;(iterate 12 exact Z))|(apply Zam 5 ZaR;decide +kernel;kernel_rfl;kernel_rfl;kernel_rfl;exact Z;exact Z)|(apply Zar;(iterate 4 exact Z))|exact AE.nil _ _ _ _|(apply Zav;exact Z)|(apply Zaz;exact Z;exact Z;decide +kernel;exact Z)|(apply ZaA;exact Z)|exact AO.nil _ _ _|(apply Zaq;(decide +kernel))|exact AOs.nil|exact ZaI rfl rfl|exact ZdO rfl rfl rfl rfl rfl)
 all_goals first|((apply Zm2 [1] c2 (hl1 ▸ hc2);(apply Zad Zab;exact Z);(iterate 5 exact Z)))|skip
 all_goals first|rfl|(first|rfl|(simp only[List.length_append,List.length_cons,List.length_nil,List.length_map,Zan];done)|(simp only[List.length_append,List.length_cons,List.length_nil,List.length_map,Zan]at *;(try unfold maxLen);(try simp only[Nat.add_mul]);omega))|(simp;done)|(simp;omega)|(simp;unfold maxLen;omega)
theorem ZjY [Known][KnownU8](p:PriV)(hfl:p.fl<18446744073709551616)(s:Nat)(hs:s=1\/s=2)(hps:p.sum=(s:Int))(hr:Zbc p=true)(hlim:(Za1 (ZaJ s (Za6 p))).length<=1000000000)
  (hA:(Za6 p).all Zaw=true) (hz:Zaw (ZaJ s (Za6 p))=true) (hro:Zaw (ZdR s (Za6 p))=true) :
  AF Tryz.prog 16 [.agg (prC p)] 9 (fun c=>.tup [.agg [.int .i64 4,.int .u64 0,.sl .ext [],.bsl 0 0 9 c],.int .i64 0]) (fun c=>[[.row (c*4) (flat (Zas (ZdR s (Za6 p)).l))]]):=by
 have hR:=Zeg p
 rw[hr]at hR
 obtain⟨h1,h2,h3,h4,h5,h6⟩:=ZbT hr
 have hty:ZaM (Za6 p) 2=(s:Int):=by
  have e:p.sum.toNat=s:=by omega
  unfold Za6 ZaM
  rcases hs with rfl|rfl<;>rw[e]<;>rfl
 have hS:=ZmI (Za6 p) 2 s hs hty (by decide) (by show(2:Int)<8;decide) (Zlm hr hfl) (by simp[Za6]) hlim hA hz hro
 have hD:=Zdv p.dest
 have hP:=Zdv p.rep
 have hI:=Zfx p.src p.t p.q
 rw[if_pos h3,if_pos h3]at hD
 rw[if_pos h4,if_pos h4]at hP
 rw[if_pos h5,if_pos h5]at hI
 have hN:=Zb6 7
 have hF:=Zb6 p.fl
 have hM:=Zb6 p.sum.toNat
 have hL:=Zb6 p.life
 have hrow:flat (Zas (ZdR s (Za6 p)).l)=flat (Zas (Za6 p)++[.agg [.int .i64 2,.int .u64 0,.sl ((ZdP s (Za1 (ZaJ s (Za6 p)))).map E.byte),.sl []]]):=by
  show flat (Zas (Za6 p++[.mk 2 0 (ZdP s (Za1 (ZaJ s (Za6 p)))) []]))=_
  rw[Zb5]
  rfl
 rw[hrow]
 clear hrow hA hz hro hty
 generalize ZdP s (Za1 (ZaJ s (Za6 p)))=SB at *
 unfold Za6 at hS ⊢
 unfold ZfO at hI
 obtain⟨fl,sum,⟨di,dn,ds,dh,dd⟩,⟨ri,rn,rs,rh,rd⟩,⟨xi,xn,xs,xh,xd⟩,t,q,life⟩:=p
 dsimp only at *
 clear hlim
 generalize Za2 ⟨di,dn,ds,dh,dd⟩=I1 at *
 generalize Za2 ⟨ri,rn,rs,rh,rd⟩=I2 at *
 generalize Za2 ⟨xi,xn,xs,xh,xd⟩=I3 at *
 obtain⟨ak,an,ab,al⟩:=I1
 obtain⟨bk,bn,bb,bl⟩:=I2
 obtain⟨ck,cn,cb,cl⟩:=I3
 have es:IntKind.u64.wrap sum=((sum.toNat:Nat):Int):=by rw[IntWalk.u64_in _ (by omega)];omega
 have hU:=ZbG [It.mk ck cn cb cl,.mk 4 0 [] [.mk 0 t [] [],.mk 0 q [] []]]
 have hv0:(Zas [It.mk ck cn cb cl,.mk 4 0 [] [.mk 0 t [] [],.mk 0 q [] []]])[(0:Int).toNat]?=some (.agg [.int .i64 ck,.int .u64 (cn:Int),.sl (cb.map E.byte),.sl (Zas cl)]):=rfl
 have hv1:(Zas [It.mk ck cn cb cl,.mk 4 0 [] [.mk 0 t [] [],.mk 0 q [] []]])[(1:Int).toNat]?=some (.agg [.int .i64 4,.int .u64 0,.sl [],.sl [nmE t,nmE q]]):=rfl
 generalize hLe:Zas [It.mk ck cn cb cl,.mk 4 0 [] [.mk 0 t [] [],.mk 0 q [] []]]=LL at *
 replace hI:AP Tryz.prog 82 [.agg (iC ⟨xi,xn,xs,xh,xd⟩ t q)] (.tup [.agg [.int .i64 4,.int .u64 0,.sl .ext [],.sl .ext LL],.int .i64 0]) []:=by rw[<- hLe];exact hI
 replace hS:AF Tryz.prog 83 [.sl .ext [nmE 7,nmE fl,nmE sum.toNat,.agg [.int .i64 ak,.int .u64 (an:Int),.sl (ab.map E.byte),.sl (Zas al)],.agg [.int .i64 ck,.int .u64 (cn:Int),.sl (cb.map E.byte),.sl (Zas cl)],.agg [.int .i64 bk,.int .u64 (bn:Int),.sl (bb.map E.byte),.sl (Zas bl)],.agg [.int .i64 4,.int .u64 0,.sl [],.sl [nmE t,nmE q]],nmE life],.int .i64 2] 9
  (fun c=>.tup [.agg [.int .i64 4,.int .u64 0,.sl .ext [],.bsl 0 0 9 c],.int .i64 0]) (fun c=>[[.row (c*4) (flat ([nmE 7,nmE fl,nmE sum.toNat,.agg [.int .i64 ak,.int .u64 (an:Int),.sl (ab.map E.byte),.sl (Zas al)],.agg [.int .i64 ck,.int .u64 (cn:Int),.sl (cb.map E.byte),.sl (Zas cl)],.agg [.int .i64 bk,.int .u64 (bn:Int),.sl (bb.map E.byte),.sl (Zas bl)],.agg [.int .i64 4,.int .u64 0,.sl [],.sl [nmE t,nmE q]],nmE life]++[.agg [.int .i64 2,.int .u64 0,.sl (SB.map E.byte),.sl []]]))]]):=hS
 refine AF.weak ?_
 refine Zap Tryz.func16 rfl Tryz.ntmps16 rfl rfl ?_
 repeat'(first|(apply Zaa (hR);kernel_rfl;(iterate 4 exact Z))|rw[es]|(apply Zaa (hD);kernel_rfl;(iterate 4 exact Z))|(apply Zaa (hP);kernel_rfl;(iterate 4 exact Z))|(apply Zaa (hI);kernel_rfl;(iterate 4 exact Z))|(apply Zaa (hN);kernel_rfl;(iterate 4 exact Z))|(apply Zaa (hF);kernel_rfl;(iterate 4 exact Z))|(apply Zaa (hM);kernel_rfl;(iterate 4 exact Z))|(apply Zaa (hL);kernel_rfl;(iterate 4 exact Z))|(apply ZgM (hS);kernel_rfl;exact Z;exact Z;exact(fun _=>rfl);exact(fun _=>rfl);intro c1 hc1)|(apply Zaj Zab;exact Z)|(apply Zai Zab;exact Z)|(apply Zay Zab;exact Z)|(apply Zae;exact Z;exact Go.Zqn)|(apply Za5 Zab;(iterate 12 exact Z))|(apply Zam 21 ZaR;decide +kernel;kernel_rfl;kernel_rfl;kernel_rfl;exact Z;exact Z)|(apply Zar;(iterate 4 exact Z))|exact AE.nil _ _ _ _|(apply Zav;exact Z)|(apply Zaz;exact Z;exact Z;decide +kernel;exact Z)|(apply ZaA;exact Z)|exact AO.nil _ _ _|(apply Zaq;(decide +kernel))|exact AOs.nil|exact ZaI rfl rfl|(apply Zat Zab;(iterate 6 exact Z);(first|exact Go.Zqn|rotate_left);(first|with_reducible assumption|decide +kernel|exact Z);(first|exact Zag rfl|with_reducible assumption|decide +kernel|rotate_left)))
 all_goals first|((apply Zm2 [5] c1 hc1;(apply Zad Zab;exact Z);(iterate 5 exact Z)))|((apply Zm2 [4] c1 hc1;(apply Zad Zab;exact Z);(iterate 5 exact Z)))|((apply Zm2 [3] c1 hc1;(apply Zad Zab;exact Z);(iterate 5 exact Z)))|((apply Zm2 [6] c1 hc1;(apply Zad Zab;exact Z);(iterate 5 exact Z)))|((apply Zm2 [2] c1 hc1;(apply Zad Zab;exact Z);(iterate 5 exact Z)))|((apply Zm2 [1] c1 hc1;(apply Zad Zab;exact Z);(iterate 5 exact Z)))
def fp1:PriV:=⟨131072,1,Zcf,Zcf,Zcf,0,0,9⟩
def fp3:PriV:=⟨1,0,Zcf,Zcf,Zcf,0,0,0⟩
abbrev fe0:It:=.mk 4 0 [] [.mk 0 1 [] [],.mk 0 0 [] []]
abbrev fx0:List It:=[.mk 0 7 [] [],.mk 0 0 [] [],.mk 0 0 [] [],fe0,fe0,fe0,.mk 4 0 [] [.mk 0 0 [] [],.mk 0 0 [] []],.mk 0 0 [] []]
abbrev fy1:List It:=[.mk 0 7 [] [],.mk 0 131072 [] [],.mk 0 1 [] [],fe0,fe0,fe0,.mk 4 0 [] [.mk 0 0 [] [],.mk 0 0 [] []],.mk 0 9 [] [],.mk 2 0 [125,221] []]
abbrev fy2:List It:=[.mk 0 7 [] [],.mk 0 131072 [] [],.mk 0 1 [] [],fe0,fe0,fe0,.mk 4 0 [] [.mk 0 0 [] [],.mk 0 0 [] []],.mk 0 8 [] [],.mk 2 0 [125,221] []]
theorem fa1:ZbF pr0=(.mk 4 0 [] fx0,0):=by kernel_rfl
theorem fa2:Zdw (.mk 4 0 [] fx0)=(pr0,0):=by kernel_rfl
theorem fa3:(ZdR 1 (Za6 fp1)).l=fy1:=by kernel_rfl
theorem fa4:Zdw (.mk 4 0 [] fy1)=(fp1,0):=by kernel_rfl
theorem fa5:Zdw (.mk 4 0 [] fy2)=(pr0,10):=by kernel_rfl
theorem fa6:ZbF fp3=(z0,3):=by kernel_rfl
theorem fa7:Zbc fp1=true:=by kernel_rfl
theorem fa8:(Za6 fp1).all Zaw=true:=by kernel_rfl
theorem fa9:Zaw (ZaJ 1 (Za6 fp1))=true:=by kernel_rfl
theorem Zqk:Zaw (ZdR 1 (Za6 fp1))=true:=by kernel_rfl
theorem ZpB {l:List It}(h1:l.length<=9)(h2:wfs l):wfI (.mk 4 0 [] l):=⟨by decide,by simp,by omega,h2⟩
theorem ZlA [Known][KnownU8]:AP Tryz.prog 14 [] (.bool true) []:=by
 have h1:=ZdM pr0 (by decide)
 rw[fa1]at h1
 have h2:=ZeW (.mk 4 0 [] fx0) (ZpB (by decide) (by simp[wfs,wfI])) (by decide) (Zig (by decide +kernel))
 rw[fa2]at h2
 have h3:=ZjY fp1 (by decide) 1 (.inl rfl) rfl fa7 (by decide +kernel) fa8 fa9 Zqk
 rw[fa3]at h3
 have h4:=ZeW (.mk 4 0 [] fy1) (ZpB (by decide) (by simp[wfs,wfI])) (by decide) (Zig (by decide +kernel))
 rw[fa4]at h4
 have h5:=ZeW (.mk 4 0 [] fy2) (ZpB (by decide) (by simp[wfs,wfI])) (by decide) (Zig (by decide +kernel))
 rw[fa5]at h5
 have h6:=ZdM fp3 (by decide)
 rw[fa6]at h6
 have hN:=Zb6 8
 have hst:Zgx (flat (Zas fy1)) 28 [.int .i64 0,.int .u64 8,.sl [],.sl []]=flat (Zas fy2):=rfl
 refine AP.ofA ?_
 refine Zap Tryz.func14 rfl Tryz.ntmps14 rfl rfl ?_
 repeat'(first|(apply Zk6 Zab;(iterate 6 exact Z);exact Nat.le_of_ble_eq_true rfl;exact hst;exact Z)|(apply Zaa (h1);kernel_rfl;(iterate 4 exact Z))|(apply Zaa (h2);kernel_rfl;(iterate 4 exact Z))|(apply ZgM (h3);kernel_rfl;exact Z;exact Z;exact(fun _=>rfl);exact(fun _=>rfl);intro c1 hc1)|(apply ZgL (b:=2) (h4);kernel_rfl;exact Z;(repeat (first|exact True.intro|exact Zir _ _ _|apply Ziq|apply ZfI));(iterate 3 exact Z);(first|exact Z|with_reducible assumption|rotate_left))|(apply ZgL (b:=2) (h5);kernel_rfl;exact Z;(repeat (first|exact True.intro|exact Zir _ _ _|apply Ziq|apply ZfI));(iterate 3 exact Z);(first|exact Z|with_reducible assumption|rotate_left))|(apply Zaa (h6);kernel_rfl;(iterate 4 exact Z))|(apply Zaa (hN);kernel_rfl;(iterate 4 exact Z))|(apply ZnI Zab;(iterate 4 exact Z))|(apply ZnJ Zab;(iterate 6 exact Z);(first|exact Go.Zqo|rotate_left);(first|exact Go.Zqo|rotate_left);exact Z)|(apply Zk4 Zab;(iterate 7 exact Z))|(apply Zaj Zab;exact Z)|(apply Zai Zab;exact Z)|(apply Zay Zab;exact Z)|(apply Zaf;(iterate 3 exact Z);exact Go.Zqn)|(apply Zak;exact Z;exact Go.Zqn;exact Z;exact Z)|(apply Zah;exact Z;exact Go.Zqn;exact Z;exact Z)|(apply Zae;exact Z;exact Go.Zqn)|(apply Zal Zab;(iterate 4 exact Z))|(apply ZdQ Zab;(iterate 4 exact Z);kernel_rfl;kernel_rfl;(iterate 3 exact Z))|(apply Zam 3 ZaR;decide +kernel;kernel_rfl;kernel_rfl;kernel_rfl;exact Z;exact Z)|(apply Zar;(iterate 4 exact Z))|exact AE.nil _ _ _ _|(apply Zav;exact Z)|(apply Zaz;exact Z;exact Z;decide +kernel;exact Z)|(apply ZaA;exact Z)|exact AO.nil _ _ _|(apply Zaq;(decide +kernel))|exact AOs.nil|exact ZaI rfl rfl)
 all_goals first|((apply Zax [];(apply Zad Zab;exact Z);(iterate 4 exact Z)))|skip
 all_goals first|rfl
def ZlB (p:PriV):Bool:=decide (IntKind.i64.wrap (IntKind.i64.wrap (IntKind.i64.wrap ((p.dest.h.length:Int)+(p.dest.d.length:Int))+(p.rep.h.length:Int))+(p.rep.d.length:Int))>300)||decide (IntKind.i64.wrap ((p.src.h.length:Int)+(p.src.d.length:Int))>300)
theorem ZlC [Known](p:PriV):AP Tryz.prog 12 [.agg (prC p)] (.bool (ZlB p)) []:=by
 have hI:=ZkV p.src p.t p.q
 unfold ZlB
 obtain⟨fl,sum,⟨di,dn,ds,dh,dd⟩,⟨ri,rn,rs,rh,rd⟩,⟨xi,xn,xs,xh,xd⟩,t,q,life⟩:=p
 try dsimp only at *
 generalize (IntKind.i64.wrap ((xh.length:Int)+(xd.length:Int)))=w2 at *
 cases t1:decide (IntKind.i64.wrap (IntKind.i64.wrap (IntKind.i64.wrap ((dh.length:Int)+(dd.length:Int))+(rh.length:Int))+(rd.length:Int))>300)<;>cases t2:decide (w2>300)
 all_goals
  rw[t2]at hI
  refine AP.ofA ?_
  refine Zap Tryz.func12 rfl Tryz.ntmps12 rfl rfl ?_
  repeat'(first|(apply Zaa (hI);kernel_rfl;(iterate 4 exact Z))|(apply Zaj Zab;exact Z)|(apply Zai Zab;exact Z)|(apply Zaf;(iterate 3 exact Z);exact Go.Zqn)|(apply Zao;(iterate 3 exact Z);exact Go.Zqn)|(apply Zak;exact Z;exact Go.Zqn;exact Z;exact Z)|(apply Zah;exact Z;exact Go.Zqn;exact Z;exact Z)|(apply Zbb Zab;(iterate 4 exact Z)))
  all_goals(apply Zax [];(apply Zad Zab;exact Z);(iterate 4 exact Z))
  all_goals rfl
theorem ZhL {p:PriV}(h:Zbc p=true):Zbr (ZbA p) 10=true:=by
 obtain⟨_,h2,_⟩:=Zd0 h
 unfold ZbA Zbs
 have hh:∀ x:List It,ZbQ x 9=true->Zbr (.mk 4 0 [] (Za6 p++x)) 10=true:=fun x hx=>by
  rw[Zbr,Zdt,hx,Bool.and_true]
  have h3:=ZdH (.mk 4 0 [] (Za6 p)) 6 10 (by rw[Zbr];exact h2) (by omega)
  rw[Zbr]at h3
  exact h3
 split
 ·have:=hh [] rfl
  rw[List.append_nil]at this
  exact this
 ·split
  ·exact hh [_] (by simp[ZbQ,Zbr])
  ·rfl
theorem ZeO [Known][KnownU8](p:PriV)(x:It)(hfl:p.fl<18446744073709551616)(hd:Fit p.dest)(hr:Fit p.rep)(hs:Fit p.src)(hx:nI x):AP Tryz.prog 3 [.agg (prC p),itD x] (.bool true) []:=by
 have hA:=ZlA
 have hG:=ZlC p
 have hH:=Zmb x 1 300 (by omega) (by omega) (by omega)
 have hall:=fun h=>Zlz (x:=x) h hx
 have hbb:=fun h=>ZmG (x:=x) h
 cases hg:ZlB p with
 | true=>
  rw[hg]at hG
  obtain⟨fl,sum,⟨di,dn,ds,dh,dd⟩,⟨ri,rn,rs,rh,rd⟩,⟨xi,xn,xs,xh,xd⟩,t,q,life⟩:=p
  obtain⟨k,n,b,l⟩:=x
  exact Zqg fl dn ds rn rs xn xs t q life sum di ri xi dh dd rh rd xh xd k n b l hA hG
 | false=>
 rw[hg]at hG
 generalize Za3 x 1 300=g at *
 cases t0:decide (g<0) with
 | true=>
  obtain⟨fl,sum,⟨di,dn,ds,dh,dd⟩,⟨ri,rn,rs,rh,rd⟩,⟨xi,xn,xs,xh,xd⟩,t,q,life⟩:=p
  obtain⟨k,n,b,l⟩:=x
  exact Zqh fl dn ds rn rs xn xs t q life sum di ri xi dh dd rh rd xh xd k n b l g hA hG hH t0
 | false=>
 have hg0:0<=g:=by have:=of_decide_eq_false t0;omega
 obtain⟨hw,hxl,hsz,hb,hlim,hdeep⟩:=hall hg0
 have hSp:=Zm0 p
 have hSq:=Zm0 (Zdw x).1
 have hRd:=ZeW x hw hxl (fun s m hs=>hlim s m (by omega))
 have hAx:=ZoE x hw 10 hdeep (by omega)
 have hDd:=Zly x hw hxl hsz hlim (hbb hg0)
 have hSelf:=Zlp (Zdw x).1
 have hR1:=Zeg p
 have hR2:=Zf0 p hfl hd hr hs
 have hW:=ZdM p hfl
 have hY:∀ h:Zbc p=true,∃ y,ZbF p=(y,0)/\AP Tryz.prog 23 [.agg (prC p)] (itD y) []/\AP Tryz.prog 19 [itD y,.int .i64 9] (itD y) []/\AP Tryz.prog 22 [itD y,itD y] (.bool true) []:=fun h=>by
  have hwy:=Zf9 h hfl
  have hF:=ZbK (ZbA p) hwy (ZbA p) hwy
  rw[It.beq_iff.2 rfl]at hF
  exact⟨ZbA p,Zep h,Zgc p h hfl,ZoE (ZbA p) hwy 9 (ZhL h) (by omega),hF⟩
 clear hall hbb hlim hb hw hxl hsz hdeep hd hr hs
 generalize Zdw x=r at *
 obtain⟨⟨cfl,csum,⟨cdi,cdn,cds,cdh,cdd⟩,⟨cri,crn,crs,crh,crd⟩,⟨cxi,cxn,cxs,cxh,cxd⟩,ct,cq,clife⟩,f⟩:=r
 cases hr:Zbc p with
 | false=>
  have e:ZbF p=(z0,3):=by unfold ZbF;rw[hr]
  rw[e]at hW
  rw[hr]at hR1 hR2
  clear hY
  obtain⟨fl,sum,⟨di,dn,ds,dh,dd⟩,⟨ri,rn,rs,rh,rd⟩,⟨xi,xn,xs,xh,xd⟩,t,q,life⟩:=p
  obtain⟨k,n,b,l⟩:=x
  exact Zqi fl dn ds rn rs xn xs t q life sum di ri xi dh dd rh rd xh xd k n b l g f cfl cdn cds crn crs cxn cxs ct cq clife csum cdi cri cxi cdh cdd crh crd cxh cxd hA hG hH t0 hSp hSq hRd hAx hDd (by simp) hSelf hW hR1 hR2
 | true=>
  obtain⟨⟨yk,yn,yb,yl⟩,e,hWr,hAy,hFin⟩:=hY hr
  rw[e]at hW
  rw[hr]at hR1 hR2
  obtain⟨fl,sum,⟨di,dn,ds,dh,dd⟩,⟨ri,rn,rs,rh,rd⟩,⟨xi,xn,xs,xh,xd⟩,t,q,life⟩:=p
  obtain⟨k,n,b,l⟩:=x
  exact Zqj fl dn ds rn rs xn xs t q life sum di ri xi dh dd rh rd xh xd k n b l g f cfl cdn cds crn crs cxn cxs ct cq clife csum cdi cri cxi cdh cdd crh crd cxh cxd yk yn yb yl hA hG hH t0 hSp hSq hRd hAx hDd (by simp) hSelf hW hR1 hR2 hAy hWr hFin
end Go.Proofs.YtakblclkflnnpaaGreatDoor
end
section
open Go.RowKit Go.Pl
namespace Go.Pl
def Zjn {α:Type}(P:Program)(fs:Array Field)(i o:Nat)(R:Rep α):Prop:=
 ∀(H:Type) (enc:TypeId × Value->H) (W:World) (spare:Nat->Bool) (held:Bool) (n:Nat) (cs:List Value) (xs:List (DataW H × List MemPlace)),cs.length=o+R.n->xs.length=fs.size ->
  (∀(j:Nat) (f:Field),fs[j]?=some f->DataW.trod enc P W 0 spare held n f.type ((cs.drop f.offset).take (P.cellsOf f.type))=xs[j]?)->∃ x,R.ok W (· < W.heap.size) (cs.drop o) x
variable {P:Program} {t:TypeId} {fs:Array Field}
theorem ZhM {α:Type}{R:Rep α}{i o:Nat}{f:Field}(hf:fs[i]?=some f)(ho:f.offset=o)(hc:P.cellsOf f.type=R.n)(h:ZbW P f.type R){H:Type}{enc:TypeId × Value->H}{W:World}{spare:Nat->Bool}{held:Bool}{n:Nat}{cs:List Value}{xs:List (DataW H × List MemPlace)}(hl:xs.length=fs.size)
  (hg:∀(j:Nat) (f:Field),fs[j]?=some f->DataW.trod enc P W 0 spare held n f.type ((cs.drop f.offset).take (P.cellsOf f.type))=xs[j]?):∃ x,R.ok W (· < W.heap.size) ((cs.drop o).take R.n) x:=by
 have e:=hg i f hf
 rw[ho,hc]at e
 have hi:i<xs.length:=by
  rw[hl]
  exact(Array.getElem?_eq_some_iff.1 hf).1
 exact h H enc W spare held n _ _ (e.trans (List.getElem?_eq_getElem hi))
theorem ZjZ {α:Type}{R:Rep α}{i o:Nat}{f:Field}(hf:fs[i]?=some f)(ho:f.offset=o)(hc:P.cellsOf f.type=R.n)(h:ZbW P f.type R):Zjn P fs i o R:=by
 intro H enc W spare held n cs xs hcl hl hg
 obtain⟨x,hx⟩:=ZhM hf ho hc h hl hg
 rw[List.take_of_length_le (by rw[List.length_drop];omega)]at hx
 exact⟨x,hx⟩
theorem ZcH {α β:Type}{R:Rep α}{R':Rep β}{i o:Nat}{f:Field}(hf:fs[i]?=some f)(ho:f.offset=o)(hc:P.cellsOf f.type=R.n)(h:ZbW P f.type R)(h':Zjn P fs (i+1) (o+R.n) R'):Zjn P fs i o (R.prod R'):=by
 intro H enc W spare held n cs xs hcl hl hg
 obtain⟨x,hx⟩:=ZhM hf ho hc h hl hg
 have hn:(R.prod R').n=R.n+R'.n:=rfl
 obtain⟨x',hx'⟩:=h' H enc W spare held n cs xs (by rw[hn]at hcl;omega) hl hg
 refine⟨(x,x'),(cs.drop o).take R.n,(cs.drop o).drop R.n,(List.take_append_drop _ _).symm,hx,?_⟩
 rw[List.drop_drop]
 exact hx'
theorem ZhN {α:Type}{R:Rep α}(hs:P.underlying t=some (.struct fs))(hc:P.cellsOf t=R.n)(h:Zjn P fs 0 0 R):ZbW P t R:=by
 intro H enc W spare held fuel cs y hy
 obtain⟨xs,n,_,_,hl,hxl,hg⟩:=DataW.trod_struct hs hy
 exact h H enc W spare held n cs xs (by omega) hxl hg
end Go.Pl
end
section
open Go.RowKit Go.Pl Go.Av
namespace Go.Proofs.YtakblclkflnnpaaGreatDoor
set_option maxHeartbeats 4000000
abbrev RPr:Rep (Nat × Int × XE × XE × (XE × Nat × Nat) × Nat):=Rep.u64.prod (Rep.i64.prod (RE.prod (RE.prod (Go.Pl.RI.prod Rep.u64))))
theorem ZoS:ZbW Tryz.prog 28 RPr:=
 ZhN Tryz.underlying28 (by kernel_rfl) (ZcH rfl rfl (by kernel_rfl) (Zcx Tryz.underlying22) (ZcH rfl rfl (by kernel_rfl) (ZgQ Tryz.underlying3)
  (ZcH rfl rfl (by kernel_rfl) ZnF (ZcH rfl rfl (by kernel_rfl) ZnF (ZcH rfl rfl (by kernel_rfl) Zpp (ZjZ rfl rfl (by kernel_rfl) (Zcx Tryz.underlying22)))))))
abbrev XPr:=Nat × Int × XE × XE × (XE × Nat × Nat) × Nat
def XPr.v (x:XPr):PriV:=⟨x.1,x.2.1,x.2.2.1.v,x.2.2.2.1.v,x.2.2.2.2.1.1.v,x.2.2.2.2.1.2.1,x.2.2.2.2.1.2.2,x.2.2.2.2.2⟩
theorem Zql [Known]{W:World}{cs:List Value}{x:XPr}(h:RPr.ok W (· < W.heap.size) cs x):V W (g0 W) [] (.agg (prC x.v)) (.agg cs.toArray):=by
 obtain⟨fl,sum,⟨di,dn,ds,dh,dd⟩,⟨ri,rn,rs,rh,rd⟩,⟨⟨xi,xn,xs,xh,xd⟩,t,q⟩,life⟩:=x
 have te:=ToE.u64.prod (ToE.i64.prod (Zh5.prod (Zh5.prod ((Zh5.prod (ToE.u64.prod ToE.u64)).prod ToE.u64))))
 exact ToE.agg te (l:=[.int .u64 (fl:Int),.int .i64 sum,.bool di,.int .u64 (dn:Int),.int .u64 (ds:Int),.str dh,.str dd,.bool ri,.int .u64 (rn:Int),.int .u64 (rs:Int),.str rh,.str rd,.bool xi,.int .u64 (xn:Int),.int .u64 (xs:Int),.str xh,.str xd,.int .u64 (t:Int),.int .u64 (q:Int),.int .u64 (life:Int)]) rfl h
theorem ZpC {W:World}{cs:List Value}{x:XPr}(h:RPr.ok W (· < W.heap.size) cs x):x.v.fl<18446744073709551616:=by
 obtain⟨fl,r⟩:=x
 obtain⟨_,_,_,⟨_,h1⟩,_⟩:=h
 exact h1
theorem ZgN {W:World}{S:Nat->Prop}{cs:List Value}{x:XE}(h:RE.ok W S cs x):Fit x.v:=by
 obtain⟨i,n,s,hh,d⟩:=x
 obtain⟨c0,c1,rfl,h0,h1⟩:=h
 obtain⟨c2,c3,rfl,h2,h3⟩:=h1
 obtain⟨c4,c5,rfl,h4,h5⟩:=h3
 obtain⟨c6,c7,rfl,h6,h7⟩:=h5
 exact⟨h6.2,h7.2⟩
theorem Zis {W:World}{S:Nat->Prop}{cs:List Value}{x:XPr}(h:RPr.ok W S cs x):Fit x.v.dest/\Fit x.v.rep/\Fit x.v.src:=by
 obtain⟨fl,sum,d,r,⟨s,t,q⟩,life⟩:=x
 obtain⟨c0,c1,rfl,h0,h1⟩:=h
 obtain⟨c2,c3,rfl,h2,h3⟩:=h1
 obtain⟨c4,c5,rfl,h4,h5⟩:=h3
 obtain⟨c6,c7,rfl,h6,h7⟩:=h5
 obtain⟨c8,c9,rfl,h8,h9⟩:=h7
 obtain⟨ca,cb,rfl,ha,hb⟩:=h8
 exact⟨ZgN h4,ZgN h6,ZgN ha⟩
end Go.Proofs.YtakblclkflnnpaaGreatDoor
end
