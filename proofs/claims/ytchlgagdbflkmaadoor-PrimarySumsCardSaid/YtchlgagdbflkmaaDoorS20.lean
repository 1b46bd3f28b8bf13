/- Rows of one's own, lent to calls that answer without them; functions that hand on a row of one's own. -/
import Derived.Test.YtchlgagdbflkmaaDoorS19
import Derived.Test.YtchlgagdbflkmaaDoorS18
import Derived.Test.YtchlgagdbflkmaaDoorS12
set_option linter.unusedSimpArgs false
set_option linter.unusedVariables false
section
open Go.RowKit Go.Pl
namespace Go.Av
mutual
def Ig (l:List E):D->D
 | .bsl _ _ _ _=>.sl .ext l
 | .sl _ l'=>.sl .ext l'
 | .agg ds=>.agg (Qv l ds)
 | .bool b=>.bool b
 | .int k n=>.int k n
 | .str s=>.str s
 | .nilp=>.nilp
 | .eptr cs o=>.eptr cs o
 | .gptr k o=>.gptr k o
 | .nilf=>.nilf
 | .nili=>.nili
 | _=>.junk
def Qv (l:List E):List D->List D
 | []=>[]
 | d::ds=>Ig l d::Qv l ds
end
mutual
def LOk (b n:Nat):D->Prop
 | .bsl b' o n' _=>b'=b/\o=0/\n'=n
 | .agg ds=>X3 b n ds
 | _=>True
def X3 (b n:Nat):List D->Prop
 | []=>True
 | d::ds=>LOk b n d/\X3 b n ds
end
theorem UB {b n:Nat}{d:D}{ds:List D}(h:LOk b n d)(k:X3 b n ds):X3 b n (d::ds):=⟨h,k⟩
theorem Jz {b n:Nat}{ds:List D}(h:X3 b n ds):LOk b n (.agg ds):=h
theorem U3 (b n c:Nat):LOk b n (.bsl b 0 n c):=⟨rfl,rfl,rfl⟩
theorem W7 (l:List E)(ds:List D):Qv l ds=ds.map (Ig l):=by
 induction ds with
 | nil=>rfl
 | cons d ds ih=>simp[Qv,ih]
theorem Qw {b n:Nat}:∀ {ds:List D} {j:Nat} {d:D},X3 b n ds->ds[j]?=some d->LOk b n d
 | [],j,d,_,h=>by simp at h
 | x::ds,0,d,h,hd=>by simp at hd;subst hd;exact h.1
 | x::ds,j+1,d,h,hd=>by simp at hd;exact Qw h.2 hd
def G.lent (g:G):G:=⟨fun k o=>g.C k o\/k ∈ g.ρ,[],[]⟩
section
variable {P:Program} {Q:X->St->Prop} {n:Nat} {ee:Nat × Nat} {tm:List (Nat × D)} {bx bx':List (List D)} {fr fr':List Fr} {b0:Bs} {g g':G} {w w':World} {a:Act} {T:Tab}
variable {ops:Array Oper} {rest:List Oper} {t ty:Nat} {pos:String} {after:Array Edge}
theorem Mem.lent [Known](hm:Mem g bx fr w):Mem g.lent [] [] w where
 bl:=rfl
 bat i blk cs h:=by simp[G.lent]at h
 bC blk o h:=by simp[G.lent]at h
 bN i j b h:=by simp[G.lent]at h
 tl:=rfl
 tat i blk cap f h:=by simp[G.lent]at h
 tN i j b c c' h:=by simp[G.lent]at h
 tρ b c h:=by simp[G.lent]at h
 Clt b o h:=h.elim (hm.Clt b o) fun h=>hm.lt (.inl h)
 gl:=⟨fun k cs hk j v hv=>⟨.inl (hm.gl.1 k cs hk j v hv).1,(hm.gl.1 k cs hk j v hv).2⟩,fun k t hk=>⟨.inl (hm.gl.2 k t hk).1,(hm.gl.2 k t hk).2⟩⟩
theorem V.lend [Known]{b m z:Nat}{l:List E}{d:D}{v:Value}(hm:Mem g bx fr w)(hb:bx[b]?=some [.row z (flat l)])(hl:l.length=m)(h:V w g fr d v)(ho:LOk b m d):V w g.lent [] (Ig l d) v:=by
 have hE:∀ {e v},VE w g.C e v->VE w g.lent.C e v:=fun hv=>hv.mono (fun _ _ h=>.inl h) fun _ _ _=>rfl
 induction h with
 | bool b=>exact .bool b
 | int k n=>exact .int k n
 | str s h=>exact .str s h
 | sl t l v h hk=>exact .sl .ext l v (hE h) trivial
 | nilp=>exact .nilp
 | ptr b o blk h=>exact .junk _
 | eptr cs o blk off us hc hw' hv=>exact .eptr cs o blk off us (fun j hj=>.inl (hc j hj)) hw' (fun j e he=>hE (hv j e he))
 | gptr k o=>exact .gptr k o
 | bsl b' o n c blk cap hr h1 h2 _=>
  obtain⟨rfl,rfl,rfl⟩:=ho
  obtain⟨vs,ut,r1,r2,r3,r4⟩:=hm.rowc hr hb
  subst hl
  refine .sl .ext l _ ?_ trivial
  refine .slC l blk 0 cap (fun j=>vs.toList.getD j undef) h1 h2 (fun j hj=>.inr (List.mem_of_getElem? hr)) (fun j hj=>?_) (fun j x hx=>?_)
  ·rw[Nat.zero_add,cell_of_row w blk j vs ut (0,0) r1]
   have:j<vs.size:=by omega
   simp[List.getD,this]
  ·have hj:=(List.getElem?_eq_some_iff.1 hx).1
   have hlt:j<vs.size:=by omega
   exact hE (r4 j x _ hx (by simp[List.getD,hlt]))
 | agg ds vs hl' _ ih=>
  refine .agg _ vs (by rw[W7];simpa using hl') fun j d v hd hv=>?_
  rw[W7,List.getElem?_map]at hd
  cases hj:ds[j]? with
  | none=>rw[hj]at hd;cases hd
  | some d0=>
   rw[hj]at hd
   injection hd with hd
   subst hd
   exact ih j d0 v hj hv (Qw ho hj)
 | tup l vs hl _ ih=>exact .junk _
 | fn f l vs hl _ ih=>exact .junk _
 | nilf=>exact .nilf
 | iface t d v _ ih=>exact .junk _
 | nili=>exact .nili
 | yl l=>exact .junk _
 | mix l ds v vs hl _ ih=>exact .junk _
 | junk v=>exact .junk v
 | row z l v=>exact .junk v
mutual
def plD:D->D
 | .bool b=>.bool b
 | .int k n=>.int k n
 | .str s=>.str s
 | .nilp=>.nilp
 | .sl _ l=>match l with
  | []=>.sl .ext []
  | _::_=>.junk
 | .agg ds=>.agg (Ob ds)
 | .tup ds=>.tup (Ob ds)
 | .nilf=>.nilf
 | .nili=>.nili
 | _=>.junk
def Ob:List D->List D
 | []=>[]
 | d::ds=>plD d::Ob ds
end
theorem Qx (ds:List D):Ob ds=ds.map plD:=by
 induction ds with
 | nil=>rfl
 | cons d ds ih=>simp[Ob,ih]
theorem V.pl {d:D}{v:Value}(h:V w g fr d v)(g':G)(fr':List Fr):V w g' fr' (plD d) v:=by
 have key:∀ {ds:List D} {vs:List Value},(∀(j:Nat) (d:D) (v:Value),ds[j]?=some d->vs[j]?=some v->V w g' fr' (plD d) v)->∀(j:Nat) (d:D) (v:Value),(Ob ds)[j]?=some d->vs[j]?=some v->V w g' fr' d v:=by
  intro ds vs h j d v hd hv
  rw[Qx,List.getElem?_map]at hd
  cases hj:ds[j]? with
  | none=>rw[hj]at hd;cases hd
  | some d0=>
   rw[hj]at hd
   injection hd with hd
   subst hd
   exact h j d0 v hj hv
 induction h with
 | bool b=>exact .bool b
 | int k n=>exact .int k n
 | str s h=>exact .str s h
 | sl t l v h hk=>
  cases l with
  | cons x l=>exact .junk _
  | nil=>
   refine .sl .ext [] v ?_ trivial
   generalize hq:E.sl []=q at h
   cases h with
   | slE A cap h=>exact .slE A cap h
   | slC l' g off cap us h1 h2 hc hw hv=>
    injection hq with hq;subst hq
    exact .slE _ _ h2
   | _=>cases hq
 | nilp=>exact .nilp
 | ptr b o blk h=>exact .junk _
 | eptr cs o blk off us hc hw' hv=>exact .junk _
 | gptr k o=>exact .junk _
 | bsl b o n c blk cap hb h1 h2 _=>exact .junk _
 | agg ds vs hl' _ ih=>exact .agg _ vs (by rw[Qx];simpa using hl') (key ih)
 | tup ds vs hl' _ ih=>exact .tup _ vs (by rw[Qx];simpa using hl') (key ih)
 | fn f l vs hl _ ih=>exact .junk _
 | nilf=>exact .nilf
 | iface t d v _ ih=>exact .junk _
 | nili=>exact .nili
 | yl l=>exact .junk _
 | mix l ds v vs hl _ ih=>exact .junk _
 | junk v=>exact .junk v
 | row z l v=>exact .junk v
theorem Mem.lentBack [Known](hm:Mem g bx fr w)(he:Evo ⟨g.lent,[],w⟩ ⟨g',fr',w'⟩)(hm':Mem g' bx' fr' w') :
  Evo ⟨g,fr,w⟩ ⟨⟨fun k o=>g'.C k o/\k ∉ g.ρ,g.ρ,g.τ⟩,fr,w'⟩/\Mem ⟨fun k o=>g'.C k o/\k ∉ g.ρ,g.ρ,g.τ⟩ bx fr w':=by
 have hnM:∀ k,¬ M g.lent k:=fun k h=>by
  rcases h with h|⟨c,h⟩
  ·simp[G.lent]at h
  ·simp[G.lent]at h
 have hblk:∀ k,k<w.heap.size->w'.heap[k]?=w.heap[k]? := fun k hk=>he.block k hk (hnM k)
 have hcell:∀ k o,g.C k o->w'.cell? ⟨k,o,none⟩=w.cell? ⟨k,o,none⟩:=fun k o h=>he.cell k o (.inl h)
 have hevo:Evo ⟨g,fr,w⟩ ⟨⟨fun k o=>g'.C k o/\k ∉ g.ρ,g.ρ,g.τ⟩,fr,w'⟩:=by
  refine⟨he.os,he.tape,he.output,he.size,fun k hk _=>hblk k hk,fun k o h=>⟨he.C k o (.inl h),fun hk=>hm.bC k o hk h⟩,hcell,fun k o h=>?_,fun _ _ h=>h,fun _ h=>.inl h,fun k c h=>.inl ⟨c,h⟩,YK.refl _ _⟩
  rcases he.newC k o h.1 with h1|h1|h1
  ·exact h1.elim .inl fun h2=>(h.2 h2).elim
  ·exact .inr (.inl h1)
  ·exact(hnM k h1).elim
 refine⟨hevo,⟨hm.bl,fun i blk cs h1 h2=>?_,fun k o hk h=>h.2 hk,hm.bN,hm.tl,fun i k c f h1 h2=>?_,hm.tN,hm.tρ,fun k o h=>hm'.Clt k o h.1,hm.gl.evo hevo⟩⟩
 ·obtain⟨us,ty,k1,k2,k3⟩:=hm.bat i blk cs h1 h2
  exact⟨us,ty,(hblk blk (Array.getElem?_eq_some_iff.1 k1).1).trans k1,k2,fun j d v hd hv=>(k3 j d v hd hv).evo hevo⟩
 ·have hT:=hm.tat i k c f h1 h2
  obtain⟨cur,r1,r2⟩:=hT.row
  have hlt:=(Array.getElem?_eq_some_iff.1 r1).1
  refine⟨⟨cur,(hblk k hlt).trans r1,r2⟩,hT.le,hT.max,hT.pos,fun o ho h=>?_⟩
  rcases he.newC k o h.1 with h3|h3|h3
  ·exact h3.elim (hT.far o ho) fun h4=>h.2 h4
  ·exact absurd hlt (Nat.not_lt.2 h3)
  ·exact hnM k h3
theorem Qy [Known][Dfr]{f:FuncId}{ars:Array Operand}{ats:Array TypeId}{cds:List D}{d d':D}{b m z:Nat}{l:List E}(hAC:AP P f cds d [])(hf:Ur P f=true)
  (hb:bx[b]?=some [.row z (flat l)]) (ho:X3 b m (ars.toList.map (ev tm))) (hc:Qv l (ars.toList.map (ev tm))=cds) (htd:Nat.blt t n=true) (hd:nf (plD d)=some d') (hl:l.length=m)
  (k:AL P ops rest ⟨n,(t,d')::tm,bx,fr,ee⟩ Q):AL P ops (⟨some t,.call { callee:=.value (.func f),args:=ars,argTypes:=ats },ty,pos,after,none⟩::rest) ⟨n,tm,bx,fr,ee⟩ Q:=by
 refine⟨fun b0 g a w hi=>?_⟩
 refine wpList_plain rfl fun K hK=>?_
 have hrun:(execOp a.eval ⟨some t,.call { callee:=.value (.func f),args:=ars,argTypes:=ats },ty,pos,after,none⟩).run P w=.ok (.enter f (ars.toList.map a.eval).toArray) w:=by
  have e:ars.map a.eval=(ars.toList.map a.eval).toArray:=by rw[<- Array.toList_map,Array.toArray_toList]
  have hz:=We hf (ars.toList.map a.eval).toArray w
  rw[<- e]at hz ⊢
  simpa[execOp,resolve,Act.eval,Deferred.ofValue,invoke,Sem.run_bind]using hz
 unfold Oper.wp
 rw[hrun]
 have hm:=hi.mem
 have hcall:=hAC.run g.lent w (ars.toList.map a.eval) hm.lent (by rw[<- hc,W7];simp) (fun j d v hd hv=>by
  rw[<- hc,W7,List.getElem?_map]at hd
  cases hj:(ars.toList.map (ev tm))[j]? with
  | none=>simp only[hj,Option.map_none]at hd;cases hd
  | some d0=>
   simp only[hj,Option.map_some,Option.some.injEq]at hd
   subst hd
   exact(evs hi ars j d0 v hj hv).lend hm hb hl (Qw ho hj))
 refine hcall.mono fun e w' ⟨g',bx',fr',r,he,hm',hr,h1,h2,h3⟩=>?_
 subst h1
 obtain⟨q1,q2⟩:=hm.lentBack he hm'
 obtain⟨v,rfl,hv⟩:=hr
 rw[<- Yj hd]at k
 have hi2:Inv b0 ⟨n,tm,bx,fr,ee⟩ ⟨fun k o=>g'.C k o/\k ∉ g.ρ,g.ρ,g.τ⟩ a w':=⟨hi.size,hi.defers,q2,fun t=>(hi.tm t).evo q1,hi.evo.trans q1,hi.bd⟩
 exact hK _ _ (k.run b0 _ _ w' (hi2.put htd (hv.pl _ _)))
end
def AF [Known](P:Program)(f:FuncId)(args:List D)(m:Nat)(d:Nat->D)(bx':Nat->List (List D)):Prop:=AC P f args [] [] fun r b fr=>∃ c,m<=c/\r=.ret (d c)/\b=bx' c/\fr=[]
theorem AF.weak [Known]{P:Program}{f:FuncId}{args:List D}{m:Nat}{d:Nat->D}{bx':Nat->List (List D)}(h:AC P f args [] [] fun r b fr=>∃ c,m<=c/\∃ d0,r=.ret d0/\d0.wk=d c/\b.map D.wks=bx' c/\fr=[]):AF P f args m d bx':=by
 refine⟨fun g w vs hm hl hv=>(h.run g w vs hm hl hv).mono fun e w' ⟨g',b',fr',r,h1,h2,h3,c,hc,d0,h4,h5,h6,h7⟩=>?_⟩
 subst h4 h7
 obtain⟨v,rfl,hv⟩:=h3
 exact⟨g',_,[],.ret d0.wk,h1,h2.wk,⟨v,rfl,hv.wk⟩,c,hc,by rw[h5],h6,rfl⟩
theorem Xn {P:Program}{rs:List ResultVar}{S:St}{m:Nat}{d:Nat->D}{d':D}{ds:List D}{bx':Nat->List (List D)}{B:List (List D)}(bs:List Nat)(c:Nat)(hm:m<=c)(h:ResL P S rs ds)(hb:Vm bs S.bx.length=true)(hn:nf (((JM ds).ren (idx bs) (idx [])).wk)=some d')(hB:nfb ((Uo bs [] S.bx).map D.wks)=some B)(hd:d'=d c)(hB':B=bx' c) :
  VT P rs 0 0 (fun r b fr=>∃ c,m<=c/\∃ d0,r=.ret d0/\d0.wk=d c/\b.map D.wks=bx' c/\fr=[]) .ret S:=
 ⟨ds,bs,[],h,Wi hb,Z2 _,fun i h=>by omega,fun i h=>by omega,c,hm,_,rfl,by rw[Yj hn,hd],by rw[Yv hB,hB'],rfl⟩
section
variable {P:Program} {Q:X->St->Prop} {n:Nat} {ee:Nat × Nat} {tm:List (Nat × D)} {bx:List (List D)} {fr:List Fr} {ops:Array Oper} {rest:List Oper} {ty:Nat} {pos:String} {after:Array Edge} {f:FuncId} {ars:Array Operand} {ats:Array TypeId}
theorem Uk [Known][Dfr]{t m:Nat}{cds:List D}{d d':Nat->D}{bx1 bx2:Nat->List (List D)}(hAC:AF P f cds m d bx1)(hf:Ur P f=true)
  (hc:D.wks ((ars.toList.map (ev tm)).map (D.ren (idx []) (idx [])))=cds) (htd:Nat.blt t n=true) (hd:∀ c,nf ((d c).ren (upN [] bx.length) (upN [] fr.length))=some (d' c)) (hB:∀ c,nfb (VU [] [] bx fr.length (bx1 c))=some (bx2 c))
  (k:∀ c,m<=c->AL P ops rest ⟨n,(t,d' c)::tm,bx2 c,fr,ee⟩ Q):AL P ops (⟨some t,.call { callee:=.value (.func f),args:=ars,argTypes:=ats },ty,pos,after,none⟩::rest) ⟨n,tm,bx,fr,ee⟩ Q:=by
 subst hc
 refine UY [] [] hf (AC.unwk hAC) rfl (Z2 _) (Z2 _) rfl rfl htd (fun _ _ _ h=>by obtain⟨_,_,h,_⟩:=h;cases h) fun d0 bx' fr' h=>?_
 obtain⟨c,hc,h1,rfl,rfl⟩:=h
 injection h1 with h1
 subst h1
 refine⟨Nat.zero_le _,?_⟩
 have e1:=Yj (hd c)
 have e2:=Yv (hB c)
 have:=k c hc
 rw[<- e1,<- e2]at this
 simpa[St.aft,WK,YW]using this
end
end Go.Av
end
section
open Go.RowKit Go.Pl Go.Av
namespace Go.Proofs.YtchlgagdbflkmaaDoor
set_option maxHeartbeats 4000000
theorem Xo [Known](l:List It)(hne:l ≠ [])(hl:l.length<=2199023255488)(hws:wfs l):AF Tryd.prog 15 [.sl .ext (Zh l)] (Zh l).length (fun c=>.agg [.int .i64 4,.int .u64 0,.sl .ext [],.bsl 0 0 (Zh l).length c]) (fun c=>[[.row (c*4) (flat (Zh l))]]):=by
 have ih':∀ y ∈ l,AP Tryd.prog 28 [itD y] (itD y) []:=fun y hy=>Uz y (ZX hws y hy)
 have hlen:=Zl l
 refine AF.weak (Zm Tryd.func15 Z Tryd.ntmps15 Z Z ?_)
 repeat'(first|refine Zj Za Z ?_|refine Zg Za Z ?_|refine Zn Za Z Z Z Z ?_)
 refine ZT (fun k' tm bx fr=>∃(i c:Nat) (L:List E),k'+i=l.length/\L.length<=c/\L=Zh (l.take i)/\tm=[(3,.ptr 1 0),(2,.ptr 0 0),(7,.sl .ext (Zh l)),(8,.int .i64 ((Zh l).length:Int)),(9,.int .i64 (i:Int))]/\fr=[] /\
  ((i=0/\bx=[[.int .i64 0,.int .u64 0,.sl .nil [],.sl .nil []],[.int .i64 4,.int .u64 0,.sl .nil [],.sl .nil []]]) \/
  (0<c/\bx=[[.int .i64 0,.int .u64 0,.sl .nil [],.sl .nil []],[.int .i64 4,.int .u64 0,.sl .nil [],.bsl 2 0 L.length c],[.row (c*4) (flat L)]]))) (l.length+1) (Lands.mk' (m:=l.length) (Nat.lt_succ_self _) ⟨0,0,[],rfl,Nat.zero_le _,rfl,rfl,rfl,.inl ⟨rfl,rfl⟩⟩ ?_ rfl rfl rfl rfl rfl rfl) ?_
 ·exact .cons rfl (.cons rfl (.cons rfl (.cons rfl (.cons rfl .nil))))
 rintro k' tm bx fr ⟨i,c,L,hi,hc,hL,rfl,rfl,⟨rfl,rfl⟩ | ⟨hc0,rfl⟩⟩
 ·cases l with
  | nil=>exact absurd rfl hne
  | cons y l=>
   have hcp:=ih' y (List.mem_cons_self ..)
   have hU:=Yb (y::l)
   have hd:decide (((0:Nat):Int)<((Zh (y::l)).length:Int))=true:=decide_eq_true (by rw[Zh];simp)
   obtain⟨k1,n1,b1,l1⟩:=y
   repeat'(first|(apply X2 (b:=2) Za;(iterate 6 exact Z);(first|exact Zf rfl|with_reducible assumption|rotate_left);(first|exact Qb|rotate_left);(first|exact Qb|rotate_left);(first|exact Qb|rotate_left);(iterate 3 exact Z);exact(fun _=>rfl);exact Z;intro c2 hc2)|refine Zb hcp Qk Z Z Z Z ?_|refine Zj Za Z ?_|refine Zg Za Z ?_|refine Zv Za Z ?_|refine Zd Z Qt ?_|refine Yd Za Z Z Z Z Z Z Z Z Z Z Z Z ?_|(apply Zo 5 ZG;decide +kernel;kernel_rfl;kernel_rfl;kernel_rfl;exact Z;exact Z)|(apply Zr;(iterate 4 exact Z))|exact AE.nil _ _ _ _|(apply Zt;exact Z)|(apply Zx;exact Z;exact Z;decide +kernel;exact Z)|(apply Zz;exact Z)|exact AO.nil _ _ _|(apply Zq;(decide +kernel))|exact AOs.nil|exact ZM rfl rfl|exact WE rfl rfl rfl rfl rfl|(apply Zs Za;(iterate 6 exact Z);(first|exact Qt|rotate_left);(first|with_reducible assumption|decide +kernel|exact Z);(first|exact Zf rfl|with_reducible assumption|decide +kernel|rotate_left)))
   refine Lands.mk' (m:=k'-1) (by simp at hi;omega) ⟨1,c2,Zh [It.mk k1 n1 b1 l1],by simp at hi ⊢;omega,hc2,rfl,rfl,rfl,.inr ⟨Nat.lt_of_lt_of_le (Nat.succ_pos _) hc2,rfl⟩⟩ ?_ rfl rfl rfl rfl rfl rfl
   exact .cons rfl (.cons rfl (.cons rfl (.cons rfl (.cons rfl .nil))))
 ·have hU:=Yb l
  have hU2:Uni 4 L:=hL ▸ Yb (l.take i)
  have el:=Zl (l.take i)
  rw[<- hL]at el
  rcases Nat.lt_or_ge i l.length with hlt|hge
  ·have hd:decide ((i:Int)<((Zh l).length:Int))=true:=decide_eq_true (by omega)
   obtain⟨⟨k1,n1,b1,l1⟩,hy⟩:∃ y,l[i]?=some y:=⟨_,List.getElem?_eq_getElem hlt⟩
   have hv:(Zh l)[((i:Nat):Int).toNat]?=some (.agg [.int .i64 k1,.int .u64 (n1:Int),.sl (b1.map E.byte),.sl (Zh l1)]):=by
    rw[Int.toNat_natCast,ZD,List.getElem?_map,hy];rfl
   have hcp:=ih' _ (List.mem_of_getElem? hy)
   have ei:IntKind.i64.wrap ((i:Int)+1)=((i+1:Nat):Int):=by rw[IntWalk.i64_in _ (by omega)];omega
   have hs:L++[E.agg [.int .i64 k1,.int .u64 (n1:Int),.sl (b1.map E.byte),.sl (Zh l1)]]=Zh (l.take (i+1)):=by
    rw[hL,List.take_add_one,hy];exact(YS _ [It.mk k1 n1 b1 l1]).symm
   have hl1:(L++[E.agg [.int .i64 k1,.int .u64 (n1:Int),.sl (b1.map E.byte),.sl (Zh l1)]]).length=L.length+1:=by simp
   rw[List.length_take]at el
   repeat'(first|(apply Qu Za;(iterate 8 exact Z);(first|with_reducible assumption|exact Nat.lt_of_lt_of_le (Nat.succ_pos _) (by assumption)|omega|rotate_left);exact Z;(first|exact Zf rfl|with_reducible assumption|rotate_left);(first|exact Zf rfl|with_reducible assumption|rotate_left);(first|exact Qb|rotate_left);(first|exact Qb|rotate_left);(first|exact Qb|rotate_left);exact Z;exact Z;exact(fun _=>rfl);exact Z;intro c2 hc2)|refine Zb hcp Qk Z Z Z Z ?_|rw[ei]|refine Zj Za Z ?_|refine Zg Za Z ?_|refine Zv Za Z ?_|refine Zd Z Qt ?_|refine Yd Za Z Z Z Z Z Z Z Z Z Z Z Z ?_|(apply Zo 5 ZG;decide +kernel;kernel_rfl;kernel_rfl;kernel_rfl;exact Z;exact Z)|(apply Zr;(iterate 4 exact Z))|exact AE.nil _ _ _ _|(apply Zt;exact Z)|(apply Zx;exact Z;exact Z;decide +kernel;exact Z)|(apply Zz;exact Z)|exact AO.nil _ _ _|(apply Zq;(decide +kernel))|exact AOs.nil|exact ZM rfl rfl|exact WE rfl rfl rfl rfl rfl|(apply Zs Za;(iterate 6 exact Z);(first|exact Qt|rotate_left);(first|with_reducible assumption|decide +kernel|exact Z);(first|exact Zf rfl|with_reducible assumption|decide +kernel|rotate_left)))
   ·refine Lands.mk' (m:=k'-1) (by omega) ⟨i+1,c2,_,by omega,by rw[hl1];exact hc2,hs,rfl,rfl,.inr ⟨Nat.lt_of_lt_of_le (Nat.succ_pos _) hc2,by rw[hl1]⟩⟩ ?_ rfl rfl rfl rfl rfl rfl
    exact .cons rfl (.cons rfl (.cons rfl (.cons rfl (.cons rfl .nil))))
   all_goals(first|rfl|(simp only[List.length_append,List.length_cons,List.length_nil,List.length_map,Zl];done)|(simp only[List.length_append,List.length_cons,List.length_nil,List.length_map,Zl]at *;(try unfold maxLen);(try simp only[Nat.add_mul]);omega))
  ·have hd:decide ((i:Int)<((Zh l).length:Int))=false:=decide_eq_false (by omega)
   rw[List.take_of_length_le hge]at hL
   subst hL
   repeat'(first|refine Zg Za Z ?_|refine Ze Z Qt ?_)
   all_goals(apply Xn [2] c hc;(apply Zc Za;exact Z);(iterate 5 exact Z))
theorem Ih [Known][KnownU8](l:List It)(a:Int)(s:Nat)(hs:s=1\/s=2)(es:Yp l a=(s:Int))(h0:0<=a)(hal:a<(l.length:Int))(hws:wfs l)(hl:l.length<=1000000)(hlim:(ZC (ZI s l)).length<=1000000000)
  (hA:l.all ZB=true) (hz:ZB (ZI s l)=true) (hr:ZB (WD s l)=true) :
  AF Tryd.prog 7 [.sl .ext (Zh l),.int .i64 a] ((Zh l).length+1) (fun c=>.tup [.agg [.int .i64 4,.int .u64 0,.sl .ext [],.bsl 0 0 ((Zh l).length+1) c],.int .i64 0]) (fun c=>[[.row (c*4) (flat (Zh l++[.agg [.int .i64 2,.int .u64 0,.sl ((YP s (ZC (ZI s l))).map E.byte),.sl []]]))]]):=by
 have hlen:=Zl l
 have hU:=Yb l
 have hC:=Qn l hws hl
 have hT:=VK l hws a
 have hne:l ≠ []:=by rintro rfl;simp at hal;omega
 have t1:decide (a<0)=false:=decide_eq_false (by omega)
 have t2:decide (a ≥ ((Zh l).length:Int))=false:=decide_eq_false (by omega)
 rw[hA]at hC
 replace hC:AP Tryd.prog 14 _ (.bool false) []:=hC
 rw[es]at hT
 have hS:=Ui l s hs hne hws hl hlim
 have hL:=Xo l hne (by omega) hws
 have hsl:=Vt s (ZC (ZI s l)) hs
 have hB:=Ud (YP s (ZC (ZI s l))) (by omega)
 have hR:=YF (WD s l) (X1 hs hws hl)
 have hmx:(Zh l).length<=1000000:=by omega
 have hlp:0<(Zh l).length:=by rw[hlen];exact List.length_pos_iff.2 hne
 have d1:decide ((s:Int)<0)=false:=decide_eq_false (by omega)
 have d2:decide ((s:Int)>0)=true:=decide_eq_true (by omega)
 have d3:decide ((s:Int) ≥ 0)=true:=decide_eq_true (by omega)
 rw[hz]at hS
 dsimp only at hS ⊢
 have eO:itD (WD s l)=.agg [.int .i64 4,.int .u64 0,.sl .ext [],.sl .ext (Zh l++[.agg [.int .i64 2,.int .u64 0,.sl ((YP s (ZC (ZI s l))).map E.byte),.sl []]])]:=by
  show D.agg [.int .i64 4,.int .u64 0,.sl .ext [],.sl .ext (Zh (l++[.mk 2 0 (YP s (ZC (ZI s l))) []]))]=_
  rw[YS]
  rfl
 rw[hr,eO]at hR
 generalize YP s (ZC (ZI s l))=SB at *
 have hl1:(Zh l++[E.agg [.int .i64 2,.int .u64 0,.sl (SB.map E.byte),.sl []]]).length=(Zh l).length+1:=by simp
 refine AF.weak (Zm Tryd.func7 Z Tryd.ntmps7 Z Z ?_)
 repeat'(first|(apply Qu Za;(iterate 8 exact Z);(first|with_reducible assumption|exact Nat.lt_of_lt_of_le (Nat.succ_pos _) (by assumption)|omega|rotate_left);exact Z;(first|exact Zf rfl|with_reducible assumption|rotate_left);(first|exact Zf rfl|with_reducible assumption|rotate_left);(first|exact Qb|rotate_left);(first|exact Qb|rotate_left);(first|exact Qb|rotate_left);exact Z;exact Z;exact(fun _=>rfl);exact Z;intro c2 hc2)|refine Zb hC Qk Z Z Z Z ?_|refine Zb hT Qk Z Z Z Z ?_|(apply Uk (hL);kernel_rfl;exact Z;exact Z;exact(fun _=>rfl);exact(fun _=>rfl);intro c1 hc1)|refine Zb hS Qk Z Z Z Z ?_|refine Zb hB Qk Z Z Z Z ?_|(apply Qy (b:=1) (hR);kernel_rfl;exact Z;(repeat (first|exact True.intro|exact U3 _ _ _|apply Jz|apply UB));(iterate 3 exact Z);(first|exact Z|with_reducible assumption|rotate_left))|refine Zj Za Z ?_|refine Zg Za Z ?_|refine Zv Za Z ?_|refine Zi Z Z Z Qt ?_|refine Zk Z Qt Z Z ?_|refine Zd Z Qt ?_|refine Ze Z Qt ?_|refine Zn Za Z Z Z Z ?_|refine Yd Za Z Z Z Z Z Z Z Z Z Z Z Z ?_|(apply Zo 5 ZG;decide +kernel;kernel_rfl;kernel_rfl;kernel_rfl;exact Z;exact Z)|(apply Zr;(iterate 4 exact Z))|exact AE.nil _ _ _ _|(apply Zt;exact Z)|(apply Zx;exact Z;exact Z;decide +kernel;exact Z)|(apply Zz;exact Z)|exact AO.nil _ _ _|(apply Zq;(decide +kernel))|exact AOs.nil|exact ZM rfl rfl|exact WE rfl rfl rfl rfl rfl)
 all_goals first|((apply Xn [1] c2 (hl1 ▸ hc2);(apply Zc Za;exact Z);(iterate 5 exact Z)))|skip
 all_goals first|rfl|(first|rfl|(simp only[List.length_append,List.length_cons,List.length_nil,List.length_map,Zl];done)|(simp only[List.length_append,List.length_cons,List.length_nil,List.length_map,Zl]at *;(try unfold maxLen);(try simp only[Nat.add_mul]);omega))|(simp;done)|(simp;omega)|(simp;unfold maxLen;omega)
end Go.Proofs.YtchlgagdbflkmaaDoor
end
section
open Go.RowKit Go.Pl
namespace Go.Av
inductive Zy where
 | pu (d:D)
 | al (cs:List D)
def z0 (p:Nat × Zy):Nat × D:=(p.1,match p.2 with | .pu d=>d | .al _=>.junk)
def G6:Nat->List (Nat × Zy)->List (Nat × D)->List (Nat × D)
 | _,[],tm=>tm
 | m,(_,.pu _)::zs,tm=>G6 m zs tm
 | m,(t,.al _)::zs,tm=>G6 (m+1) zs ((t,.ptr m 0)::tm)
def zcs:List (Nat × Zy)->List (List D)
 | []=>[]
 | (_,.pu _)::zs=>zcs zs
 | (_,.al cs)::zs=>cs::zcs zs
section
variable {P:Program} {T:Tab} {Q:X->St->Prop} {n:Nat} {ee:Nat × Nat} {tm tm':List (Nat × D)} {bx:List (List D)} {fr:List Fr} {b0:Bs} {g g':G} {w w':World} {a:Act}
inductive AZ [Known][Dfr](P:Program) (T:Tab) (l:List Oper) (n:Nat) (bx:List (List D)) (fr:List Fr):List Oper->List (Nat × D)->List (Nat × Zy)->List (Nat × D)->Prop
 | nil (tm:List (Nat × D)):AZ P T l n bx fr [] tm [] tm
 | pu (o:Oper) (rest:List Oper) (t:Nat) (d:D) (tm:List (Nat × D)) (zs:List (Nat × Zy)) (tm':List (Nat × D)) (hd:o.dst=some t) (ht:Nat.blt t n=true) (h:AL P l.toArray [o] ⟨n,Yi l o tm,bx,fr,(bx.length,fr.length)⟩ (qY o bx fr (.pu d))) (k:AZ P T l n bx fr rest ((t,d)::tm) zs tm'):AZ P T l n bx fr (o::rest) tm ((t,.pu d)::zs) tm'
 | al (t:Nat) (e:TypeId) (ty:Nat) (pos:String) (after:Array Edge) (rest:List Oper) (ti:Ti) (tm:List (Nat × D)) (zs:List (Nat × Zy)) (tm':List (Nat × D)) (ht:Nat.blt t n=true) (hti:tl T e=some ti) (k:AZ P T l n bx fr rest ((t,.junk)::tm) zs tm'):AZ P T l n bx fr (⟨some t,.alloc e,ty,pos,after,none⟩::rest) tm ((t,.al (ti.zero.map ZK.d))::zs) tm'
theorem W8 (l:List Oper)(o:Oper):∀ tm:List (Nat × D),Yi l o tm=tm.filter fun p=>(YQ l o).contains p.1
 | []=>rfl
 | p::tm=>by
  rw[Yi,List.filter_cons,W8 l o tm]
  cases(YQ l o).contains p.1<;>rfl
theorem Evo.al [Known](hm:Mem g bx fr w)(o:Obj):Evo ⟨g,fr,w⟩ ⟨g,fr,w.alloc o⟩:=
 ⟨rfl,rfl,rfl,by simp,fun k hk _=>Below.heap_alloc w _ k hk,fun _ _ h=>h,fun k p h=>Y9 w _ (hm.Clt k p h) p,fun _ _ h=>.inl h,fun _ _ h=>h,fun _ h=>.inl h,fun k c h=>.inl ⟨c,h⟩,YK.refl _ _⟩
theorem Mem.al [Known](hm:Mem g bx fr w)(o:Obj):Mem g bx fr (w.alloc o) where
 bl:=hm.bl
 bat i k cs' h1 h2:=by
  obtain⟨us,ty,k1,k2,k3⟩:=hm.bat i k cs' h1 h2
  exact⟨us,ty,(Below.heap_alloc w _ k (Array.getElem?_eq_some_iff.1 k1).1).trans k1,k2,fun j d v hd hv=>(k3 j d v hd hv).evo (Evo.al hm o)⟩
 bC:=hm.bC
 bN:=hm.bN
 tl:=hm.tl
 tat i k c f h1 h2:=by
  have hT:=hm.tat i k c f h1 h2
  obtain⟨cur,r1,r2⟩:=hT.row
  exact⟨⟨cur,(Below.heap_alloc w _ k (Array.getElem?_eq_some_iff.1 r1).1).trans r1,r2⟩,hT.le,hT.max,hT.pos,hT.far⟩
 tN:=hm.tN
 tρ:=hm.tρ
 Clt k p hC:=by
  have:=hm.Clt k p hC
  simp;omega
 gl:=hm.gl.evo (Evo.al hm o)
theorem Ii {k k':Nat}(h:M ⟨g.C,g.ρ++[k],g.τ⟩ k'):M g k'\/k'=k:=by
 rcases h with h|h
 ·rcases List.mem_append.1 h with h|h
  ·exact .inl (.inl h)
  ·simp at h;exact .inr h
 ·exact .inl (.inr h)
structure AZk [Known][Dfr](P:Program) (l acts:List Oper) (n:Nat) (zs:List (Nat × Zy)) (tm:List (Nat × D)) (bx:List (List D)) (fr:List Fr) (ee:Nat × Nat) (Q:X->St->Prop):Prop where
 run:AL P l.toArray acts ⟨n,G6 bx.length zs tm,bx++zcs zs,fr,ee⟩ Q
end
end Go.Av
end
section
open Go.RowKit Go.Pl
namespace Go.Av
mutual
def stD (b:Nat)(l:List E):D->D
 | .bsl b' o n c=>match Nat.blt b' b with
  | true=>.bsl b' o n c
  | false=>match Nat.beq b' b with
   | true=>.sl .ext l
   | false=>.junk
 | .ptr b' o=>match Nat.blt b' b with
  | true=>.ptr b' o
  | false=>.junk
 | .sl t l'=>.sl t l'
 | .agg ds=>.agg (Ij b l ds)
 | .tup ds=>.tup (Ij b l ds)
 | .fn f ds=>.fn f (Ij b l ds)
 | .iface t d=>.iface t (stD b l d)
 | .bool b=>.bool b
 | .int k n=>.int k n
 | .str s=>.str s
 | .nilp=>.nilp
 | .eptr cs o=>.eptr cs o
 | .gptr k o=>.gptr k o
 | .nilf=>.nilf
 | .nili=>.nili
 | .yl l=>.yl l
 | .mix l' ds=>.mix l' (Ij b l ds)
 | .junk=>.junk
 | .row z l=>.row z l
def Ij (b:Nat)(l:List E):List D->List D
 | []=>[]
 | d::ds=>stD b l d::Ij b l ds
end
mutual
def SOk (b n:Nat):D->Prop
 | .bsl b' o n' _=>Nat.blt b' b=true\/Nat.blt b b'=true\/(b'=b/\o=0/\n'=n)
 | .agg ds=>Xp b n ds
 | .tup ds=>Xp b n ds
 | .fn _ ds=>Xp b n ds
 | .iface _ d=>SOk b n d
 | .mix _ ds=>Xp b n ds
 | _=>True
def Xp (b n:Nat):List D->Prop
 | []=>True
 | d::ds=>SOk b n d/\Xp b n ds
end
section
variable {P:Program} {Q:X->St->Prop} {n:Nat} {ee:Nat × Nat} {tm:List (Nat × D)} {bx bx':List (List D)} {fr fr':List Fr} {b0:Bs} {g g':G} {w w':World} {a:Act} {T:Tab}
variable {ops:Array Oper} {rest:List Oper} {t ty:Nat} {pos:String} {after:Array Edge}
theorem G7 [Known][Dfr](hT:chk P T=true){st e:Nat}{ti te:Ti}{parts:Array (Nat × Operand)}(ht:tl T st=some ti)(hk:ti.kd=.slice e)(hte:tl T e=some te)(hp:parts = #[])(hpos:Nat.blt 0 te.size=true)(htd:Nat.blt t n=true)
  (k:AL P ops rest ⟨n,(t,.sl .zero [])::tm,bx,fr,ee⟩ Q):AL P ops (⟨some t,.buildSlice st 0 parts,ty,pos,after,none⟩::rest) ⟨n,tm,bx,fr,ee⟩ Q:=
 Qr (fun b0 g a w hi=>by
  obtain⟨cs,c1,c2,c3,c4,c5⟩:=OG (t:=t) (ty:=ty) (pos:=pos) (after:=after) hT ht hk hte (parts:=parts) (xs:=[]) (ds:=[]) (es:=[]) (len:=0) (by rw[hp];rfl) rfl rfl rfl rfl hpos (by rw[Nat.zero_mul];rfl) hi
  have hev:Evo ⟨g,fr,w⟩ ⟨g,fr,w.alloc (.cells cs.toArray e)⟩:=Evo.al hi.mem _
  have hi2:Inv b0 ⟨n,tm,bx,fr,ee⟩ g a (w.alloc (.cells cs.toArray e)):=⟨hi.size,hi.defers,Mem.al hi.mem _,fun t=>(hi.tm t).evo hev,hi.evo.trans hev,hi.bd⟩
  exact⟨.slice (some ⟨w.heap.size,0,none⟩) 0 0,_,tm,bx,fr,g,.sl .zero [],c5,hi2,.sl _ _ _ (.slE _ _ (Nat.zero_le _)) ⟨_,rfl⟩,k⟩) htd
end
end Go.Av
end
section
open Go.RowKit Go.Pl
namespace Go.Av
section
variable {P:Program} {T:Tab} {Q:X->St->Prop} {n:Nat} {ee:Nat × Nat} {tm tm':List (Nat × D)} {bx bx':List (List D)} {fr fr':List Fr} {b0:Bs} {g:G} {w:World} {a:Act} {ys:List Y}
structure AOj [Known][Dfr](P:Program) (l:List Oper) (n:Nat) (rest:List Oper) (ys:List Y) (tm:List (Nat × D)) (bx:List (List D)) (fr:List Fr) (ja:Nat):Prop where
 out:AOt P l n rest ys tm bx fr
 at_:ys[ja]?=some (.pu .junk)
end
end Go.Av
end
section
open Go.RowKit Go.Pl
namespace Go.Av
section
variable {P:Program} {Q:X->St->Prop} {n:Nat} {ee:Nat × Nat} {tm:List (Nat × D)} {bx bx':List (List D)} {fr fr':List Fr} {b0:Bs} {g:G} {w:World} {a:Act} {T:Tab}
variable {ops:Array Oper} {rest:List Oper} {t ty:Nat} {pos:String} {after:Array Edge}
theorem Xq:∀(l l':List D),D.ones l=true->D.ones l'=true->D.ones (l++l')=true
 | [],l',_,h=>h
 | d::l,l',h,h'=>by
  rw[List.cons_append,D.ones]
  rw[D.ones]at h
  cases hd:d.one with
  | true=>rw[hd]at h;exact Xq l l' h h'
  | false=>rw[hd]at h;cases h
def Xr (sz:Nat)(d:D):Bool:=D.ones d.cellsOf&&Nat.beq d.cellsOf.length sz
theorem Xs {sz:Nat}{d:D}(h:Xr sz d=true):D.ones d.cellsOf=true/\d.cellsOf.length=sz:=by
 unfold Xr at h
 rw[Bool.and_eq_true]at h
 exact⟨h.1,Nat.eq_of_beq_eq_true h.2⟩
theorem Jd {sz:Nat}:∀(ds:List D),ds.all (Xr sz)=true->D.ones (ds.flatMap D.cellsOf)=true
 | [],_=>rfl
 | d::ds,h=>by
  rw[List.all_cons,Bool.and_eq_true]at h
  rw[List.flatMap_cons]
  exact Xq _ _ (Xs h.1).1 (Jd ds h.2)
theorem Xt {sz:Nat}:∀ {ds:List D} {vs:List Value},vs.length=ds.length->(∀(j:Nat) (d:D) (v:Value),ds[j]?=some d->vs[j]?=some v->V w g fr d v)->ds.all (Xr sz)=true ->
  ∃ rs:List (List Value × Value),rs.map (·.2)=vs/\(∀ p ∈ rs,p.2.cells=p.1.toArray/\p.1.length=sz)/\(rs.flatMap (·.1)).length=(ds.flatMap D.cellsOf).length/\∀(j:Nat) (d:D) (v:Value),(ds.flatMap D.cellsOf)[j]?=some d->(rs.flatMap (·.1))[j]?=some v->V w g fr d v
 | [],[],_,_,_=>⟨[],rfl,by simp,by simp,by simp⟩
 | d::ds,v::vs,hl,hv,hs=>by
  rw[List.all_cons,Bool.and_eq_true]at hs
  obtain⟨ho,hsz⟩:=Xs hs.1
  obtain⟨us,q1,q2,q3⟩:=(hv 0 d v rfl rfl).cells ho
  obtain⟨rs,p1,p2,p3,p4⟩:=Xt (sz:=sz) (ds:=ds) (vs:=vs) (by simpa using hl) (fun j d v h1 h2=>hv (j+1) d v (by simpa using h1) (by simpa using h2)) hs.2
  refine⟨(us,v)::rs,by simp[p1],fun p hp=>?_,?_,fun j x u hx hu=>?_⟩
  ·rcases List.mem_cons.1 hp with rfl|hp
   ·exact⟨q1,by rw[q2,hsz]⟩
   ·exact p2 p hp
  ·simp only[List.flatMap_cons,List.length_append,p3,q2]
  ·simp only[List.flatMap_cons]at hx hu
   rcases Nat.lt_or_ge j d.cellsOf.length with hj|hj
   ·rw[List.getElem?_append_left hj]at hx
    rw[List.getElem?_append_left (by rw[q2];exact hj)]at hu
    exact q3 j x u hx hu
   ·rw[List.getElem?_append_right hj]at hx
    rw[List.getElem?_append_right (by rw[q2];exact hj),q2]at hu
    exact p4 _ x u hx hu
 | [],_::_,hl,_,_=>by simp at hl
 | _::_,[],hl,_,_=>by simp at hl
theorem G8 [Known][Dfr](hT:chk P T=true){st len e m:Nat}{ds:List D}{ti te:Ti}{parts:Array (Nat × Operand)}(ht:tl T st=some ti)(hk:ti.kd=.slice e)(hte:tl T e=some te)(hp:parts.toList.map (·.1)=List.range len)
  (hds:nfs (parts.toList.map fun p=>ev tm p.2)=some ds) (hs:ds.all (Xr te.size)=true) (hsz:Nat.blt 0 te.size=true) (hsm:Nat.ble (len*te.size) 16777216=true) (hpos:Nat.blt 0 len=true) (hm:bx.length=m) (hb:nfb (bx++[ds.flatMap D.cellsOf])=some bx') (htd:Nat.blt t n=true)
  (k:AL P ops rest ⟨n,(t,.bsl m 0 len len)::tm,bx',fr,ee⟩ Q):AL P ops (⟨some t,.buildSlice st len parts,ty,pos,after,none⟩::rest) ⟨n,tm,bx,fr,ee⟩ Q:=
 Vj _ htd (fun g a w hi=>by
  have hsm:=Nat.le_of_ble_eq_true hsm
  have hpos:0<len:=by simpa[Nat.blt_eq]using hpos
  have hsz:0<te.size:=by simpa[Nat.blt_eq]using hsz
  have hu:=(ZF hT ht).slice hk
  have hds':=Y7 hds
  obtain⟨z,hz1,hz2⟩:=(ZF hT hte).zero w
  obtain⟨hzl,_⟩:=YX (w:=w) (g:=g) (fr:=fr) hz2
  have hpl:parts.toList.length=len:=by have:=congrArg List.length hp;simpa using this
  have hdl:ds.length=len:=by rw[<- hds'];simpa using hpl
  have hV:∀(j:Nat) (d:D) (v:Value),ds[j]?=some d->(parts.toList.map fun p=>a.eval p.2)[j]?=some v->V w g fr d v:=fun j d v h1 h2=>by
   rw[<- hds',List.getElem?_map]at h1
   rw[List.getElem?_map]at h2
   cases hx:parts.toList[j]? with
   | none=>rw[hx]at h1;cases h1
   | some p=>rw[hx]at h1 h2;injection h1 with h1;injection h2 with h2;subst h1 h2;exact hi.ev p.2
  obtain⟨rs,r1,r2,r3,r4⟩:=Xt (sz:=te.size) (by rw[hdl,List.length_map,hpl]) hV hs
  have hrl:rs.length=len:=by have:=congrArg List.length r1;simpa[hpl]using this
  have hparts:(parts.map fun(p:Nat × Operand)=>(p.1,a.eval p.2)).toList=(rs.zipIdx 0).map fun q=>(q.2,q.1.2):=by
   apply List.ext_getElem?
   intro j
   have hj:(parts.toList.map (·.1))[j]?=(List.range len)[j]? := by rw[hp]
   have hr:(rs.map (·.2))[j]?=(parts.toList.map fun p=>a.eval p.2)[j]? := by rw[r1]
   simp only[Array.toList_map,List.getElem?_map,List.getElem?_zipIdx,Nat.zero_add]at hj hr ⊢
   cases hx:parts.toList[j]? with
   | none=>
    have:rs[j]?=none:=List.getElem?_eq_none (by rw[hrl,<- hpl];exact List.getElem?_eq_none_iff.1 hx)
    rw[this];rfl
   | some p=>
    have hjl:j<len:=by rw[<- hpl];exact(List.getElem?_eq_some_iff.1 hx).1
    rw[hx,List.getElem?_range hjl]at hj
    simp only[Option.map_some,Option.some.injEq]at hj
    rw[hx]at hr
    cases hq:rs[j]? with
    | none=>rw[hq]at hr;cases hr
    | some q=>
     rw[hq]at hr
     simp only[Option.map_some,Option.some.injEq]at hr
     simp[hj,hr]
  obtain⟨out,e1,e2⟩:=U6 rs 0 ((Array.range (len*te.size)).map (z.cells[· % z.cells.size]!)) r2 (by simp[hrl])
  have hout:out=(rs.flatMap (·.1)).toArray:=by
   have:out.toList=rs.flatMap (·.1):=by rw[e2];simp
   rw[<- this]
  have h0:¬ len*te.size=0:=Nat.ne_of_gt (Nat.mul_pos hpos hsz)
  have hsz2:=Z1 (P:=P) (t:=e) (ZF hT hte).tSize w
  have hrun:(Instr.buildSlice st len (parts.map fun(p:Nat × Operand)=>(p.1,a.eval p.2))).run P w=.ok (.slice (some ⟨w.heap.size,0,none⟩) len len) (w.alloc (.cells (rs.flatMap (·.1)).toArray e)):=by
   rw[<- hparts]at e1
   simp only[Instr.buildSlice,Sem.run_bind,run_underlying hu,Result.andThen_ok,hsz2,if_neg (show ¬ len*te.size>2 ^ 24 by omega),if_neg h0,hz1,Sem.run_pure,e1,hout]
   rfl
  have hlm:len<=maxLen:=by unfold maxLen;have:=Nat.le_mul_of_pos_right len hsz;omega
  obtain⟨k1,k2⟩:=hi.mem.box (rs.flatMap (·.1)) (ds.flatMap D.cellsOf) e r3 (U5 (Jd ds hs)) r4
  refine⟨.slice (some ⟨w.heap.size,0,none⟩) len len,_,_,?_,k1,(Yv hb) ▸ k2,.bsl _ _ _ _ w.heap.size len ?_ (Nat.le_refl _) hlm (.inr rfl)⟩
  ·simp only[execOp,Sem.run_bind]
   rw[show(fun(x:Nat × Operand)=>match x with|(i,x)=>(i,a.eval x))=fun(p:Nat × Operand)=>(p.1,a.eval p.2) from rfl,hrun]
   rfl
  ·subst hm
   have:=hi.mem.bl
   simp at this
   simp[this]) k
end
end Go.Av
end
section
open Go.RowKit Go.Pl Go.Av
namespace Go.Proofs.YtchlgagdbflkmaaDoor
set_option maxHeartbeats 4000000
theorem Gk {b:List UInt8}(h:b ≠ []):b.map E.byte ≠ []:=fun e=>h (List.map_eq_nil_iff.1 e)
end Go.Proofs.YtchlgagdbflkmaaDoor
end
section
open Go.RowKit Go.Pl
namespace Go.Av
mutual
def JA (b:Nat):D->List (Nat × Nat)
 | .bsl b' o n' _=>match Nat.beq b' b with
  | true=>[(o,n')]
  | false=>[]
 | .agg ds=>Qz b ds
 | .tup ds=>Qz b ds
 | .fn _ ds=>Qz b ds
 | .iface _ d=>JA b d
 | .mix _ ds=>Qz b ds
 | _=>[]
def Qz (b:Nat):List D->List (Nat × Nat)
 | []=>[]
 | d::ds=>JA b d++Qz b ds
end
mutual
theorem Ik {b n:Nat}:∀(d:D),(∀ p ∈ JA b d,p=(0,n))->SOk b n d
 | .bsl b' o n' c,h=>by
  unfold SOk
  unfold JA at h
  rcases Nat.lt_trichotomy b' b with hl|rfl|hg
  ·exact .inl (by simpa[Nat.blt_eq]using hl)
  ·right;right
   have:=h (o,n') (by simp)
   simp only[Prod.mk.injEq]at this
   exact⟨rfl,this.1,this.2⟩
  ·exact .inr (.inl (by simpa[Nat.blt_eq]using hg))
 | .agg ds,h=>by unfold SOk;exact Ul ds (by simpa only[JA]using h)
 | .tup ds,h=>by unfold SOk;exact Ul ds (by simpa only[JA]using h)
 | .fn _ ds,h=>by unfold SOk;exact Ul ds (by simpa only[JA]using h)
 | .iface _ d,h=>by unfold SOk;exact Ik d (by simpa only[JA]using h)
 | .bool _,_=>by unfold SOk;trivial
 | .int _ _,_=>by unfold SOk;trivial
 | .str _,_=>by unfold SOk;trivial
 | .sl _ _,_=>by unfold SOk;trivial
 | .nilp,_=>by unfold SOk;trivial
 | .ptr _ _,_=>by unfold SOk;trivial
 | .eptr _ _,_=>by unfold SOk;trivial
 | .gptr _ _,_=>by unfold SOk;trivial
 | .nilf,_=>by unfold SOk;trivial
 | .nili,_=>by unfold SOk;trivial
 | .yl _,_=>by unfold SOk;trivial
 | .mix _ ds,h=>by unfold SOk;exact Ul ds (by simpa only[JA]using h)
 | .junk,_=>by unfold SOk;trivial
 | .row _ _,_=>by unfold SOk;trivial
theorem Ul {b n:Nat}:∀(ds:List D),(∀ p ∈ Qz b ds,p=(0,n))->Xp b n ds
 | [],_=>by unfold Xp;trivial
 | d::ds,h=>by
  unfold Xp
  unfold Qz at h
  exact⟨Ik d fun p hp=>h p (List.mem_append_left _ hp),Ul ds fun p hp=>h p (List.mem_append_right _ hp)⟩
end
section
variable {P:Program} {Q:X->St->Prop} {n:Nat} {ee:Nat × Nat} {tm:List (Nat × D)} {bx:List (List D)} {fr:List Fr} {ops:Array Oper} {rest:List Oper}
end
end Go.Av
end
