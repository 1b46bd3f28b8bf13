/- Jumps back to a label; slices cut with a bound on their room; slices held against nil. -/
import Derived.Test.YtkdpfkjlheajhaaF06
import Derived.ScopeJumps
import Derived.Lib.SlBytesConst
import Derived.Laws.IdiomStrings
import Derived.LoopN
import Derived.WideLaws
set_option linter.unusedSimpArgs false
set_option linter.unusedVariables false
section
open Go.RowKit Go.Pl
namespace Go.Av
theorem W0 {P:Program}{Q:Exit->Act->World->Prop}{a:Act}{w:World}{c rest:Code}(l:Nat)(J:Nat->Act->World->Prop)(n0:Nat)(hf:findLabel c l=some rest)
  (first:c.wp P (Exit.jump l (fun a w=>∃ m,m<n0/\J m a w) Q) a w)
  (pass:∀ n a w,J n a w->rest.wp P (Exit.jump l (fun a' w'=>∃ m,m<n/\J m a' w') Q) a w):(Code.scope c).wp P Q a w:=by
 intro b k cs
 have hg:gotoIn l (.inScope c::k)=some (.code rest::.inScope c::k):=by simp[gotoIn,hf]
 have key:∀ n a w,J n a w->∃ e a' w',Q e a' w'/\Arrives P (lone (b.at a (.code rest::.inScope c::k)) cs w) b k cs e a' w':=by
  intro n
  induction n using Nat.strongRecOn with
  | _ n ih=>
   intro a w hJ
   obtain⟨e,a₁,w₁,hq,harr⟩:=pass n a w hJ b (.inScope c::k) cs
   cases e with
   | goto l'=>
    obtain⟨rfl,m,hm,hJ'⟩:=hq
    obtain⟨e₂,a₂,w₂,hq₂,harr₂⟩:=ih m hm a₁ w₁ hJ'
    exact⟨e₂,a₂,w₂,hq₂,.of_steps (harr _ hg) harr₂⟩
   | normal=>exact⟨.normal,a₁,w₁,hq,Steps.trans harr (.one step_inScope)⟩
   | exit id=>exact⟨.exit id,a₁,w₁,hq,fun k' hk=>harr k' (by simp[exitTo,hk])⟩
   | ret=>exact⟨_,a₁,w₁,hq,harr⟩
   | panic ch=>exact⟨_,a₁,w₁,hq,harr⟩
   | outgrown=>exact⟨_,a₁,w₁,hq,harr⟩
 obtain⟨e,a₁,w₁,hq,harr⟩:=first b (.inScope c::k) cs
 cases e with
 | goto l'=>
  obtain⟨rfl,m,_,hJ'⟩:=hq
  obtain⟨e₂,a₂,w₂,hq₂,harr₂⟩:=key m a₁ w₁ hJ'
  exact⟨e₂,a₂,w₂,hq₂,.of_steps (.head step_scope (harr _ hg)) harr₂⟩
 | normal=>exact⟨.normal,a₁,w₁,hq,.head step_scope (Steps.trans harr (.one step_inScope))⟩
 | exit id=>exact⟨.exit id,a₁,w₁,hq,fun k' hk=>.head step_scope (harr k' (by simp[exitTo,hk]))⟩
 | ret=>exact⟨_,a₁,w₁,hq,.of_steps (.one step_scope) harr⟩
 | panic ch=>exact⟨_,a₁,w₁,hq,.of_steps (.one step_scope) harr⟩
 | outgrown=>exact⟨_,a₁,w₁,hq,.of_steps (.one step_scope) harr⟩
def X.jump (l:Nat)(K:St->Prop)(Q:X->St->Prop):X->St->Prop
 | .goto i,S=>i=l/\K S
 | x,S=>Q x S
section
variable {P:Program} {Q:X->St->Prop} {S:St}
theorem YY {l:Nat}{K:St->Prop}(h:K S):X.jump l K Q (.goto l) S:=⟨rfl,h⟩
theorem ZH {l:Nat}{K:St->Prop}(h:Q .ret S):X.jump l K Q .ret S:=h
theorem Vn [Known][Dfr]{b0:Bs}{l:Nat}{K:St->Prop}{e:Exit}{a:Act}{w:World}(h:YN b0 (X.jump l K Q) e a w):Exit.jump l (fun a w=>∃ S g,Inv b0 S g a w/\K S) (YN b0 Q) e a w:=by
 cases e with
 | goto i=>
  obtain⟨S,g,h1,h2,h3⟩:=h
  exact⟨h2,S,g,h1,h3⟩
 | _=>exact h
theorem Lands.up {J:Nat->List (Nat × D)->List (List D)->List Fr->Prop}{n k k':Nat}{ee:Nat × Nat}(h:Lands J n ee k S)(hk:k<=k'):Lands J n ee k' S:=by
 obtain⟨m,tm,bx,fr,h1,h2⟩:=h.out
 exact⟨m,tm,bx,fr,Nat.lt_of_lt_of_le h1 hk,h2⟩
theorem U0 {l:Nat}{K K':St->Prop}(h:∀ S,K S->K' S):∀ x S,X.jump l K Q x S->X.jump l K' Q x S:=fun x S hx=>by
 cases x with
 | goto i=>exact⟨hx.1,h _ hx.2⟩
 | _=>exact hx
theorem Qx [Known][Dfr]{rest:Code}{n:Nat}{ee:Nat × Nat}{l:Nat}{J:Nat->List (Nat × D)->List (List D)->List Fr->Prop}{k0:Nat}
  (pass:∀ k tm bx fr,J k tm bx fr->AW P rest ⟨n,tm,bx,fr,ee⟩ (X.jump l (Lands J n ee k) Q)) (h:Lands J n ee k0 S):AW P rest S (X.jump l (Lands J n ee k0) Q):=by
 refine⟨fun b0 g a w hi=>?_⟩
 obtain⟨m,hm,tm,bx,fr,g',hJ,hi'⟩:=h.inv hi
 exact(Vv (pass m tm bx fr hJ) (U0 fun S hS=>Lands.up hS (Nat.le_of_lt hm))).run b0 g' a w hi'
theorem Yo [Known][Dfr]{c rest:Code}{n:Nat}{ee:Nat × Nat}{tm0:List (Nat × D)}{bx0:List (List D)}{fr0:List Fr}(l:Nat)(J:Nat->List (Nat × D)->List (List D)->List Fr->Prop)(k0:Nat)(hf:findLabel c l=some (.seq .skip rest))
  (pass:∀ k tm bx fr,J k tm bx fr->AW P rest ⟨n,tm,bx,fr,ee⟩ (X.jump l (Lands J n ee k) Q))
  (first:(∀ S',Lands J n ee k0 S'->AW P rest S' (X.jump l (Lands J n ee k0) Q))->AW P c ⟨n,tm0,bx0,fr0,ee⟩ (X.jump l (Lands J n ee k0) Q)):AW P (.scope c) ⟨n,tm0,bx0,fr0,ee⟩ Q:=by
 refine⟨fun b0 g a w hi=>?_⟩
 have key:∀(k:Nat) (a:Act) (w:World),(∃ S g,Inv b0 S g a w/\Lands J n ee k S)->∃ m,m<k/\∃ tm bx fr g,J m tm bx fr/\Inv b0 ⟨n,tm,bx,fr,ee⟩ g a w:=fun k a w ⟨S,g,hi,hL⟩=>by
  obtain⟨m,hm,tm,bx,fr,g',hJ,hi'⟩:=hL.inv hi
  exact⟨m,hm,tm,bx,fr,g',hJ,hi'⟩
 refine W0 l (fun k a w=>∃ tm bx fr g,J k tm bx fr/\Inv b0 ⟨n,tm,bx,fr,ee⟩ g a w) k0 hf ?_ ?_
 ·refine wp_mono ((first fun S' h=>Qx pass h).run b0 g a w hi) fun e a w hc=>?_
  have:=Vn hc
  cases e with
  | goto i=>exact⟨this.1,key _ a w this.2⟩
  | _=>exact this
 ·rintro k a w ⟨tm,bx,fr,g,hJ,hi⟩
  refine wp_mono ((WE (WD (YV (pass k tm bx fr hJ)))).run b0 g a w hi) fun e a w hc=>?_
  have:=Vn hc
  cases e with
  | goto i=>exact⟨this.1,key _ a w this.2⟩
  | _=>exact this
end
section
variable {P:Program} {Q:X->St->Prop} {n:Nat} {ee:Nat × Nat} {tm:List (Nat × D)} {bx bx':List (List D)} {fr fr':List Fr} {b0:Bs} {g:G} {w:World} {a:Act} {T:Tab}
variable {ops:Array Oper} {rest:List Oper} {t ty:Nat} {pos:String} {after:Array Edge}
theorem UI [Known][Dfr](hT:chk P T=true){op:BinOp}{x:Operand}{xt yt e:Nat}{tk:Tok}{l:List E}{d:Bool->D}{ti:Ti}(hx:ev tm x=.sl tk l)(ht:tl T xt=some ti)(hk:ti.kd=.slice e)(hd:(match op with | .eql=>some (fun b=>D.bool b) | .neq=>some (fun b=>D.bool (!b))|_=>none)=some d)(htd:Nat.blt t n=true)
  (k:∀ b:Bool,(l ≠ []->b=false)->AL P ops rest ⟨n,(t,d b)::tm,bx,fr,ee⟩ Q):AL P ops (⟨some t,.binOp op xt x (.const (.slice none 0 0)) yt,ty,pos,after,none⟩::rest) ⟨n,tm,bx,fr,ee⟩ Q:=by
 refine⟨fun b0 g a w hi=>?_⟩
 have h1:V w g fr (ev tm x) (a.eval x):=hi.ev x
 rw[hx]at h1
 obtain⟨a1,_⟩:=Z1 h1
 obtain⟨A,cap,hv,hA⟩:∃ A cap,a.eval x=.slice A l.length cap/\(l ≠ []->A.isNone=false):=by
  generalize hq:E.sl l=q at a1
  generalize a.eval x=v at a1
  cases a1 with
  | slC l' b off cap us h1 _ _ _ _=>injection hq with hq;subst hq;exact⟨_,cap,rfl,fun _=>rfl⟩
  | slE A cap h=>injection hq with hq;subst hq;exact⟨A,cap,rfl,fun h=>(h rfl).elim⟩
  | _=>cases hq
 have hu:=(Zn hT ht).slice hk
 have hrun:(Op.equal xt (.slice A l.length cap) (.slice none 0 0)).run P w=.ok A.isNone w:=Go.run_equal_slice_nil w xt e A l.length cap hu
 have hc0:a.eval (.const (.slice none 0 0))=.slice none 0 0:=rfl
 refine wpList_plain rfl fun K hK=>?_
 have hex:∃ v,(execOp a.eval ⟨some t,.binOp op xt x (.const (.slice none 0 0)) yt,ty,pos,after,none⟩).run P w=.ok (.value v) w/\V w g fr (d A.isNone) v:=by
  cases op<;>simp at hd<;>subst hd<;>first|exact⟨.bool A.isNone,by simp[execOp,hv,hc0,eqGuard,binOp,Sem.run_bind,hrun],.bool _⟩ | exact⟨.bool (!A.isNone),by simp[execOp,hv,hc0,eqGuard,binOp,Sem.run_bind,hrun],.bool _⟩
 obtain⟨v,hr,hvv⟩:=hex
 unfold Oper.wp
 rw[hr]
 exact hK _ _ ((k A.isNone hA).run b0 g _ w (hi.put htd hvv))
theorem YZ [Known][Dfr](hT:chk P T=true){x lo hh mx:Operand}{st e:Nat}{tk:Tok}{l l2:List E}{k1 k2 k3:IntKind}{i j m:Int}{p q r:Nat}{ti te:Ti}(hx:ev tm x=.sl tk l)(ht:tl T st=some ti)(hk:ti.kd=.slice e)(hte:tl T e=some te)(htd:Nat.blt t n=true)
  (hlo:ev tm lo=.int k1 i) (hhi:ev tm hh=.int k2 j) (hmx:ev tm mx=.int k3 m) (hi0:i=(p:Int)) (hj0:j=(q:Int)) (hm0:m=(r:Int)) (hpq:p<=q) (hqr:q<=r) (hr:r<=l.length) (hU:Uni te.size l) (hl2:(l.take q).drop p=l2)
  (kk:AL P ops rest ⟨n,(t,.sl .ext l2)::tm,bx,fr,ee⟩ Q):AL P ops (⟨some t,.slice st x (some lo) (some hh) (some mx),ty,pos,after,none⟩::rest) ⟨n,tm,bx,fr,ee⟩ Q:=
 Zr _ htd (fun g a w hi=>by
  subst hi0 hj0 hm0
  have h1:V w g fr (ev tm x) (a.eval x):=hi.ev x
  rw[hx]at h1
  obtain⟨a1,_⟩:=Z1 h1
  have hu:=(Zn hT ht).slice hk
  have hsz:=ZA (P:=P) (t:=e) (Zn hT hte).tSize w
  obtain⟨A,cap,hv,hcap,hmax⟩:∃ A cap,a.eval x=.slice A l.length cap/\l.length<=cap/\cap<=maxLen:=by
   generalize hq:E.sl l=q at a1
   generalize a.eval x=v at a1
   cases a1 with
   | slC l' b off cap us h1 h2 _ _ _=>injection hq with hq;subst hq;exact⟨_,cap,rfl,h1,h2⟩
   | slE A cap h=>injection hq with hq;subst hq;exact⟨A,cap,rfl,Nat.zero_le _,h⟩
   | _=>cases hq
  have v1:=Bnd.val (S:=⟨n,tm,bx,fr,_⟩) hi hlo
  have v2:=Bnd.val (S:=⟨n,tm,bx,fr,_⟩) hi hhi
  have v3:=Bnd.val (S:=⟨n,tm,bx,fr,_⟩) hi hmx
  have b1:(0:Int)<=(r:Int)/\(r:Int)<=(cap:Int):=by omega
  have b2:(0:Int)<=(q:Int)/\(q:Int)<=(r:Int):=by omega
  have b3:(0:Int)<=(p:Int)/\(p:Int)<=(q:Int):=by omega
  have hb:(Instr.sliceBounds true l.length cap (some (.int k1 (p:Int))) (some (.int k2 (q:Int))) (some (.int k3 (r:Int)))).run P w=.ok (p,q,r) w:=by
   simp only[Instr.sliceBounds,Instr.sliceBound,asIntOf,Sem.run_bind,Sem.run_pure,Result.andThen_ok,if_pos b1,Int.toNat_natCast,if_pos b2,if_pos b3]
  refine⟨.slice (if r=p then A else A.map (·.add (p*te.size))) (q-p) (r-p),?_,?_⟩
  ·have hrun:(Instr.sliceAt st (.slice A l.length cap) (some (.int k1 (p:Int))) (some (.int k2 (q:Int))) (some (.int k3 (r:Int)))).run P w=.ok (.slice (if r=p then A else A.map (·.add (p*te.size))) (q-p) (r-p)) w:=by
    simp[Instr.sliceAt,Instr.slice,Sem.run_bind,run_underlying hu,hb,hsz]
   simp only[execOp,hv,v1,v2,v3,Sem.run_bind,Option.map_some,hrun,Result.andThen_ok]
   rfl
  ·subst hl2
   have hlen:((l.take q).drop p).length=q-p:=by simp;omega
   refine .sl _ _ _ ?_ trivial
   by_cases he:q-p=0
   ·have hnil:(l.take q).drop p=[]:=List.eq_nil_of_length_eq_zero (by rw[hlen];exact he)
    rw[hnil,he]
    exact .slE _ _ (by omega)
   ·have hpc:¬ r=p:=by omega
    rw[if_neg hpc,<- hlen]
    generalize hq':E.sl l=qq at a1
    rw[hv]at a1
    generalize hs:Value.slice A l.length cap=s at a1
    cases a1 with
    | slC l' b off cap' us h1 h2 hc hw hvv=>
     injection hq' with hq';subst hq'
     injection hs with e1 _ e3
     subst e1 e3
     have hadd:(⟨b,off,none⟩:Addr).add (p*te.size)=⟨b,off+p*te.size,none⟩:=by unfold Addr.add;split<;>simp_all
     simp only[Option.map_some,hadd]
     have hU2:Uni te.size (l.take q):=hU.sub fun e h=>List.mem_of_mem_take h
     have hf:flat ((l.take q).drop p)=((flat l).take (q*te.size)).drop (p*te.size):=by rw[hU2.drop_flat,hU.take_flat]
     have hfl:=hU.flat
     have hql:q*te.size<=l.length*te.size:=Nat.mul_le_mul_right _ (by omega)
     have hfl2:(flat ((l.take q).drop p)).length=q*te.size-p*te.size:=by rw[hf];simp;omega
     refine .slC _ b (off+p*te.size) (r-p) (fun j=>us (p*te.size+j)) (by omega) (by omega) (fun j hj=>by rw[Nat.add_assoc];exact hc _ (by omega)) (fun j hj=>by rw[Nat.add_assoc];exact hw _ (by omega)) (fun j x hx=>hvv _ x ?_)
     have hj:=(List.getElem?_eq_some_iff.1 hx).1
     rw[hf,List.getElem?_drop,List.getElem?_take,if_pos (by omega)]at hx
     exact hx
    | slE A cap' h=>injection hs with _ e;omega
    | _=>cases hq') kk
def G.lit (g:G)(w:World)(m:Nat):G:=⟨fun b o=>g.C b o\/(b=w.heap.size/\o<m),g.ρ,g.τ⟩
theorem Mem.lit [Known](hm:Mem g bx fr w)(cur:List Value)(l:List E)(sz:Nat)(e:TypeId)(mk:Nat × Nat)(hcur:cur.length=l.length*sz)(hcap:l.length<=maxLen)(hU:Uni sz l)
  (hv:∀(j:Nat) (x:E) (u:Value),(flat l)[j]?=some x->cur[j]?=some u->VE w g.C x u) :
  Evo ⟨g,fr,w⟩ ⟨g.lit w (l.length*sz),fr,w.alloc (.cells cur.toArray e mk)⟩/\Mem (g.lit w (l.length*sz)) bx fr (w.alloc (.cells cur.toArray e mk)) /\
   V (w.alloc (.cells cur.toArray e mk)) (g.lit w (l.length*sz)) fr (.sl .ext l) (.slice (some ⟨w.heap.size,0,none⟩) l.length l.length):=by
 have hevo:Evo ⟨g,fr,w⟩ ⟨g.lit w (l.length*sz),fr,w.alloc (.cells cur.toArray e mk)⟩:=by
  refine⟨rfl,rfl,rfl,by simp,fun k hk _=>Below.heap_alloc w _ k hk,fun _ _ h=>.inl h,fun k o h=>Z8 w _ (hm.Clt k o h) o,fun k o h=>?_,fun _ _ h=>h,fun _ h=>.inl h,fun k c h=>.inl ⟨c,h⟩,Ye.refl _ _⟩
  rcases h with h|⟨h,_⟩
  ·exact .inl h
  ·exact .inr (.inl (by simp[h]))
 have hflat:=hU.flat
 refine⟨hevo,?_,?_⟩
 ·constructor
  ·exact hm.bl
  ·intro i k cs h1 h2
   obtain⟨us,ut,k1,k2,k3⟩:=hm.bat i k cs h1 h2
   exact⟨us,ut,(Below.heap_alloc w _ k (Array.getElem?_eq_some_iff.1 k1).1).trans k1,k2,fun j d v hd hv=>(k3 j d v hd hv).evo hevo⟩
  ·intro k o hk hC
   rcases hC with hC|⟨hC,_⟩
   ·exact hm.bC k o hk hC
   ·have:=hm.lt (.inl hk);omega
  ·exact hm.bN
  ·exact hm.tl
  ·intro i k c f h1 h2
   have hTk:=hm.tat i k c f h1 h2
   obtain⟨cur',s1,s2⟩:=hTk.row
   have hklt:=(Array.getElem?_eq_some_iff.1 s1).1
   refine⟨⟨cur',(Below.heap_alloc w _ k hklt).trans s1,s2⟩,hTk.le,hTk.max,hTk.pos,fun o ho hC=>?_⟩
   rcases hC with hC|⟨hC,_⟩
   ·exact hTk.far o ho hC
   ·omega
  ·exact hm.tN
  ·exact hm.tρ
  ·intro k o hC
   rcases hC with hC|⟨hC,_⟩
   ·have:=hm.Clt k o hC;simp;omega
   ·simp[hC]
  ·exact hm.gl.evo hevo
 ·refine .sl _ _ _ (.slC l w.heap.size 0 l.length (fun j=>cur.getD j undef) (Nat.le_refl _) hcap (fun j hj=>.inr ⟨rfl,by rw[hflat]at hj;omega⟩) (fun j hj=>?_) (fun j x hx=>?_)) trivial
  ·rw[Nat.zero_add,World.cell?_alloc_mark]
   have:j<cur.length:=by omega
   simp[List.getD,this]
  ·have hj:=(List.getElem?_eq_some_iff.1 hx).1
   have hlt:j<cur.length:=by omega
   refine(hv j x _ hx (by rw[List.getElem?_eq_getElem hlt];simp[List.getD,hlt])).mono (fun _ _ h=>.inl h) fun k o h=>Z8 w _ (hm.Clt k o h) o
theorem JU [Known][Dfr](hT:chk P T=true){st len e t2 ty2:Nat}{pos2:String}{after2:Array Edge}{ds:List D}{es:List E}{ti te:Ti}{parts:Array (Nat × Operand)}(ht:tl T st=some ti)(hk:ti.kd=.slice e)(hte:tl T e=some te)(hke:te.kd=.int .u8)(hp:parts.toList.map (·.1)=List.range len)
  (hds:nfs (parts.toList.map fun p=>ev tm p.2)=some ds) (hes:D.toEl ds=some es) (hU:Ul te.size es=true) (hpos:Nat.blt 0 te.size=true) (hsm:Nat.ble (len*te.size) 16777216=true) (htd:Nat.blt t n=true) (htd2:Nat.blt t2 n=true)
  (k:AL P ops rest ⟨n,(t2,.sl .ext es)::(t,.sl .ext es)::tm,bx,fr,ee⟩ Q):AL P ops (⟨some t,.buildSlice st len parts,ty,pos,after,none⟩::⟨some t2,.convert st st (.tmp t),ty2,pos2,after2,none⟩::rest) ⟨n,tm,bx,fr,ee⟩ Q:=by
 refine⟨fun b0 g a w hi=>?_⟩
 obtain⟨h1,h2⟩:=VY hp
 obtain⟨cs,c1,c2,c3,c4,c5⟩:=Um (t:=t) (ty:=ty) (pos:=pos) (after:=after) hT ht hk hte h1 (by rw[h2];exact Nat.beq_refl len) (by rw[List.map_map];exact hds) hes hU hpos hsm hi
 obtain⟨k1,k2,k3⟩:=hi.mem.lit cs es te.size e (cs.toArray.size,cs.toArray.size+1) (by rw[c1,c2]) (by rw[c2];exact c3) (Zc hU) c4
 have hu:=(Zn hT ht).slice hk
 have hue:P.underlying e=some (.int .u8):=(Zn hT hte).int hke
 refine wpList_plain rfl fun K hK=>?_
 unfold Oper.wp
 rw[c5]
 refine hK _ _ ?_
 refine wpList_plain rfl fun K hK=>?_
 have hlt:t<n:=by simpa[Nat.blt_eq]using htd
 have hget:(a.put (some t) (.slice (some ⟨w.heap.size,0,none⟩) len len)).eval (.tmp t)=.slice (some ⟨w.heap.size,0,none⟩) len len:=by
  have hs:a.tmps.size=n:=hi.size
  simp[Act.put,Act.eval,hs,hlt]
 have hrun:=Lib.run_convert_bytes_const (P:=P) w st e cs.toArray len len hu hue
 unfold Oper.wp
 simp only[execOp,hget,hrun,Sem.run_bind,Result.andThen_ok]
 have hi2:Inv b0 ⟨n,tm,bx,fr,ee⟩ _ a _:=⟨hi.size,hi.defers,k2,fun t=>(hi.tm t).evo k1,hi.evo.trans k1,hi.bd⟩
 subst c2
 exact hK _ _ (k.run b0 _ _ _ ((hi2.put htd k3).put htd2 k3))
end
end Go.Av
end
section
open Go.RowKit Go.Pl
namespace Go.Av
@[simp] theorem Jw (e:E):(D.ofC e).wk=D.ofC e:=by
 cases e<;>simp only[D.ofC,D.wk]
theorem Ji (cs:List D):D.ex (D.wks cs)=D.wks (D.ex cs):=by
 cases hr:D.isRow cs with
 | true=>
  obtain⟨z,l,rfl⟩:=Wa hr
  show l.map D.ofC=D.wks (l.map D.ofC)
  rw[Z2,List.map_map]
  refine List.map_congr_left fun x _=>?_
  exact(Jw x).symm
 | false=>
  rw[We hr,We]
  match cs,hr with
  | [],_=>rfl
  | [d],hr=>cases d<;>first|rfl|(simp[D.isRow]at hr)
  | _::_::_,_=>rfl
theorem Q6 {cs:List D}{n:Nat}(hf:D.fits cs n):D.fits (D.wks cs) n:=by
 refine⟨by rw[Z2,List.length_map];exact hf.1,by rw[Ji,Z2,List.length_map];exact hf.2.1,fun z l e=>?_⟩
 rw[Z2]at e
 rcases cs with _|⟨d,_|⟨d2,r⟩⟩
 ·simp at e
 ·simp at e;exact hf.2.2 z l (by rw[show d=.row z l from by cases d<;>first|exact e|(simp only[D.wk]at e;cases e)])
 ·simp at e
theorem Mem.wk [Known]{g:G}{bx:List (List D)}{fr:List Fr}{w:World}(h:Mem g bx fr w):Mem g (bx.map D.wks) fr w where
 bl:=by rw[h.bl];simp
 bat i blk cs h1 h2:=by
  rw[List.getElem?_map]at h2
  cases hi:bx[i]? with
  | none=>simp[hi]at h2
  | some cs0=>
   simp[hi]at h2;subst h2
   obtain⟨vs,ty,q1,q2,q3⟩:=h.bat i blk cs0 h1 hi
   refine⟨vs,ty,q1,Q6 q2,fun j d v hd hv=>?_⟩
   rw[Ji,Z2,List.getElem?_map]at hd
   cases hj:(D.ex cs0)[j]? with
   | none=>simp[hj]at hd
   | some d0=>simp[hj]at hd;subst hd;exact(q3 j d0 v hj hv).wk
 bC:=h.bC
 bN:=h.bN
 tl:=h.tl
 tat:=h.tat
 tN:=h.tN
 tρ:=h.tρ
 Clt:=h.Clt
 gl:=h.gl
def AQ [Known](P:Program)(f:FuncId)(args:List D)(bx:List (List D))(d:D)(bx':List (List D)):Prop:=AC P f args bx [] fun r b fr=>r=.ret d/\b=bx'/\fr=[]
theorem AQ.weak [Known]{P:Program}{f:FuncId}{args:List D}{bx bx':List (List D)}{d:D}(h:AC P f args bx [] fun r b fr=>∃ d0,r=.ret d0/\d0.wk=d/\b.map D.wks=bx'/\fr=[]):AQ P f args bx d bx':=by
 refine⟨fun g w vs hm hl hv=>(h.run g w vs hm hl hv).mono fun e w' ⟨g',b',fr',r,h1,h2,h3,d0,h4,h5,h6,h7⟩=>?_⟩
 subst h4 h5 h6 h7
 obtain⟨v,rfl,hv⟩:=h3
 exact⟨g',_,[],.ret d0.wk,h1,h2.wk,⟨v,rfl,hv.wk⟩,rfl,rfl,rfl⟩
theorem AP.ofA [Known]{P:Program}{f:FuncId}{args:List D}{d:D}(h:AC P f args [] [] fun r b fr=>∃ d0,r=.ret d0/\d0.wk=d/\b.map D.wks=[]/\fr=[]):AP P f args d []:=AQ.weak h
def W1:List Nat->Nat->Bool
 | [],_=>true
 | b::bs,n=>Nat.blt b n&&(!(bs.any (Nat.beq b))&&W1 bs n)
theorem Wk:∀ {bs:List Nat} {n:Nat},W1 bs n=true->ZQ bs n
 | [],n,_=>Zx n
 | b::bs,n,h=>by
  simp only[W1,Bool.and_eq_true,Nat.blt_eq,Bool.not_eq_true',List.any_eq_false]at h
  obtain⟨h1,h2,h3⟩:=h
  have ih:=Wk h3
  have hne:∀ j c:Nat,bs[j]?=some c->c ≠ b:=fun j c hj e=>by
   subst e
   exact h2 c (List.mem_of_getElem? hj) (Nat.beq_refl c)
  refine⟨fun i j c hi hj=>?_,fun c hc=>?_⟩
  ·cases i with
   | zero=>
    cases j with
    | zero=>rfl
    | succ j=>simp at hi hj;subst hi;exact(hne j _ hj rfl).elim
   | succ i=>
    cases j with
    | zero=>simp at hi hj;subst hj;exact(hne i _ hi rfl).elim
    | succ j=>simp at hi hj;rw[ih.1 i j c hi hj]
  ·rcases List.mem_cons.1 hc with rfl|hc
   ·exact h1
   ·exact ih.2 c hc
def Qy (k:Nat)(bs:List Nat):Bool:=(List.range k).all fun i=>match bs[i]? with
 | some j=>Nat.beq i j
 | none=>false
theorem V0 {k:Nat}{bs:List Nat}(h:Qy k bs=true):∀ i,i<k->bs[i]?=some i:=fun i hi=>by
 have:=List.all_eq_true.1 h i (List.mem_range.2 hi)
 split at this
 ·rename_i j hj
  rw[hj,Nat.eq_of_beq_eq_true this]
 ·cases this
theorem Yh {P:Program}{rs:List ResultVar}{S:St}{d d':D}{ds:List D}{bx' B:List (List D)}{k:Nat}(bs:List Nat)(h:ResL P S rs ds)(hb:W1 bs S.bx.length=true)(hk:Qy k bs=true)(hn:nf (((Ug ds).ren (idx bs) (idx [])).wk)=some d')(hB:nfb ((W4 bs [] S.bx).map D.wks)=some B)(hd:d'=d)(hB':B=bx') :
  WQ P rs k 0 (fun r b fr=>∃ d0,r=.ret d0/\d0.wk=d/\b.map D.wks=bx'/\fr=[]) .ret S:=
 ⟨ds,bs,[],h,Wk hb,Zx _,V0 hk,fun i h=>by omega,_,rfl,by rw[ZP hn,hd],by rw[Yp hB,hB'],rfl⟩
theorem JV {P:Program}{rs:List ResultVar}{S:St}{d d':D}{ds:List D}{bx' B:List (List D)}{k:Nat}(bs:List Nat)(h:ResL P S rs ds)(hb:W1 bs S.bx.length=true)(hk:Qy k bs=true)(hn:nf (((Ug ds).ren (idx bs) (idx [])).wk)=some d')(hB:nfb ((W4 bs [] S.bx).map D.wks)=some B)(hd:d'=d)(hB':B=bx') :
  WQ P rs k 0 (fun r b fr=>∃ d0,r=.ret d0/\d0.wk=d/\b.map D.wks=bx'/\fr=[]) .norm S:=
 ⟨ds,bs,[],h,Wk hb,Zx _,V0 hk,fun i h=>by omega,_,rfl,by rw[ZP hn,hd],by rw[Yp hB,hB'],rfl⟩
section
variable {P:Program} {Q:X->St->Prop} {n:Nat} {ee:Nat × Nat} {tm:List (Nat × D)} {bx:List (List D)} {fr:List Fr} {ops:Array Oper} {rest:List Oper} {ty:Nat} {pos:String} {after:Array Edge} {f:FuncId} {ars:Array Operand} {ats:Array TypeId}
theorem Qz [Known][Dfr]{t:Nat}{cds:List D}{d d':D}{bxs bxs' bx2:List (List D)}(bs:List Nat)(hQ:AQ P f cds bxs d bxs')(hf:Uj P f=true)
  (hc:(ars.toList.map (ev tm)).map (D.ren (idx bs) (idx []))=cds) (hb:W1 bs bx.length=true) (hbx:W4 bs [] bx=bxs) (hle:Nat.ble bs.length bxs'.length=true) (htd:Nat.blt t n=true) (hd:nf (d.ren (upN bs bx.length) (upN [] fr.length))=some d') (hB:nfb (W5 bs [] bx fr.length bxs')=some bx2)
  (k:AL P ops rest ⟨n,(t,d')::tm,bx2,fr,ee⟩ Q):AL P ops (⟨some t,.call { callee:=.value (.func f),args:=ars,argTypes:=ats },ty,pos,after,none⟩::rest) ⟨n,tm,bx,fr,ee⟩ Q:=by
 refine UA bs [] hf hQ hc (Wk hb) (Zx _) hbx rfl htd (fun _ _ _ h=>by cases h.1) fun d0 bx' fr' h=>?_
 obtain⟨h1,rfl,rfl⟩:=h
 injection h1 with h1
 subst h1
 refine⟨Nat.le_of_ble_eq_true hle,?_⟩
 have e1:=ZP hd
 have e2:=Yp hB
 subst e1 e2
 simpa[St.aft,Wb,Yf]using k
end
theorem AC.unwk [Known]{P:Program}{f:FuncId}{args:List D}{bx:List (List D)}{fr:List Fr}{post:R->List (List D)->List Fr->Prop}(h:AC P f (D.wks args) bx fr post):AC P f args bx fr post:=
 ⟨fun g w vs hm hl hv=>h.run g w vs hm (by rw[Z2];simpa using hl) fun j d v hd hvv=>by
  rw[Z2,List.getElem?_map]at hd
  cases hj:args[j]? with
  | none=>simp[hj]at hd
  | some d0=>simp[hj]at hd;subst hd;exact(hv j d0 v hj hvv).wk⟩
section
variable {P:Program} {Q:X->St->Prop} {n:Nat} {ee:Nat × Nat} {tm:List (Nat × D)} {bx:List (List D)} {fr:List Fr} {ops:Array Oper} {rest:List Oper} {ty:Nat} {pos:String} {after:Array Edge} {f:FuncId} {ars:Array Operand} {ats:Array TypeId}
theorem Zi [Known][Dfr]{t:Nat}{cds:List D}{d d':D}{frs fr':List Fr}(hAC:AP P f cds d frs)(hf:Uj P f=true)
  (hc:D.wks ((ars.toList.map (ev tm)).map (D.ren (idx []) (idx [])))=cds) (htd:Nat.blt t n=true) (hd:nf (d.ren (upN [] bx.length) (upN [] fr.length))=some d') (hfr:nfl (fr++frs)=some fr')
  (k:AL P ops rest ⟨n,(t,d')::tm,bx,fr',ee⟩ Q):AL P ops (⟨some t,.call { callee:=.value (.func f),args:=ars,argTypes:=ats },ty,pos,after,none⟩::rest) ⟨n,tm,bx,fr,ee⟩ Q:=by
 subst hc
 exact YO (AC.unwk hAC) hf rfl htd hd hfr k
theorem Zb [Known][Dfr]{t:Nat}{cds:List D}{d d':D}{bxs bxs' bx2:List (List D)}(bs:List Nat)(hQ:AQ P f cds bxs d bxs')(hf:Uj P f=true)
  (hc:D.wks ((ars.toList.map (ev tm)).map (D.ren (idx bs) (idx [])))=cds) (hb:W1 bs bx.length=true) (hbx:W4 bs [] bx=bxs) (hle:Nat.ble bs.length bxs'.length=true) (htd:Nat.blt t n=true) (hd:nf (d.ren (upN bs bx.length) (upN [] fr.length))=some d') (hB:nfb (W5 bs [] bx fr.length bxs')=some bx2)
  (k:AL P ops rest ⟨n,(t,d')::tm,bx2,fr,ee⟩ Q):AL P ops (⟨some t,.call { callee:=.value (.func f),args:=ars,argTypes:=ats },ty,pos,after,none⟩::rest) ⟨n,tm,bx,fr,ee⟩ Q:=by
 subst hc
 exact Qz bs (AC.unwk hQ) hf rfl hb hbx hle htd hd hB k
end
end Go.Av
end
section
open Go.RowKit Go.Pl
namespace Go.Av
end Go.Av
end
section
open Go.RowKit Go.Pl
namespace Go.Av
section
variable {P:Program} {Q:X->St->Prop} {n:Nat} {ee:Nat × Nat} {tm:List (Nat × D)} {bx bx':List (List D)} {fr fr':List Fr} {b0:Bs} {g:G} {w:World} {a:Act} {T:Tab}
variable {ops:Array Oper} {rest:List Oper} {t ty:Nat} {pos:String} {after:Array Edge}
end
end Go.Av
end
section
open Go.RowKit Go.Pl
namespace Go.Av
def AN [Known][Dfr](P:Program)(c:Code)(Q:X->St->Prop):Nat->St->Prop
 | 0,_=>False
 | n+1,S=>AW P c S (X.then (AN P c Q n) Q)
structure ANs [Known][Dfr](P:Program) (c:Code) (Q:X->St->Prop) (n:Nat) (S:St):Prop where
 run:AN P c Q n S
theorem Y0 [Known][Dfr]{P:Program}{c:Code}{Q:X->St->Prop}{n:Nat}{S:St}(h:AW P c S (X.then (ANs P c Q n) Q)):ANs P c Q (n+1) S:=
 ⟨Vv h fun x S hx=>by
  cases x with
  | norm=>exact hx.run
  | _=>exact hx⟩
theorem Vo [Known][Dfr]{P:Program}{c:Code}{Q:X->St->Prop}{b0:Bs}:∀(n:Nat) (S:St) (g:G) (a:Act) (w:World),AN P c Q n S->Inv b0 S g a w->Code.rounds P c (YN b0 Q) n a w
 | 0,_,_,_,_,h,_=>h.elim
 | n+1,S,g,a,w,h,hi=>by
  rw[rounds_succ]
  refine wp_mono (AW.run (show AW P c S (X.then (AN P c Q n) Q) from h) b0 g a w hi) fun e a w hc=>?_
  cases e<;>simp only[YN,X.then,Exit.then]at hc ⊢
  ·obtain⟨S',g',hi',h'⟩:=hc
   exact Vo n S' g' a w h' hi'
  all_goals exact hc
theorem YB [Known][Dfr]{P:Program}{c:Code}{Q:X->St->Prop}{S:St}(n:Nat)(h:ANs P c Q n S):AW P (.loop c) S Q:=
 ⟨fun b0 g a w hi=>wp_loop_rounds n (Vo n S g a w h.run hi)⟩
end Go.Av
end
section
open Go.RowKit Go.Pl
namespace Go.Av
section
variable {P:Program} {Q:X->St->Prop} {n:Nat} {ee:Nat × Nat} {tm:List (Nat × D)} {bx:List (List D)} {fr:List Fr} {ops:Array Oper} {rest:List Oper} {ty:Nat} {pos:String} {after:Array Edge} {f:FuncId} {ars:Array Operand} {ats:Array TypeId}
end
end Go.Av
end
section
open Go.RowKit Go.Pl
namespace Go.Av
section
variable {P:Program} {Q:X->St->Prop} {n:Nat} {ee:Nat × Nat} {tm:List (Nat × D)} {bx:List (List D)} {fr:List Fr} {ops:Array Oper} {rest:List Oper}
end
section
variable {P:Program} {Q:X->St->Prop} {n:Nat} {ee:Nat × Nat} {tm:List (Nat × D)} {bx bx':List (List D)} {fr fr':List Fr} {b0:Bs} {g:G} {w:World} {a:Act} {T:Tab}
variable {ops:Array Oper} {rest:List Oper} {t ty:Nat} {pos:String} {after:Array Edge}
end
end Go.Av
end
section
open Go.RowKit Go.Pl
namespace Go.Av
section
variable {P:Program} {Q:X->St->Prop} {n:Nat} {ee:Nat × Nat} {tm:List (Nat × D)} {bx:List (List D)} {fr:List Fr}
variable {ops:Array Oper} {rest:List Oper} {t ty:Nat} {pos:String} {after:Array Edge}
end
end Go.Av
end
section
open Go.RowKit Go.Pl
namespace Go.Av
inductive Y where
 | pu (d:D)
 | ef (d:D) (bx:List (List D)) (fr:List Fr)
def Y.d:Y->D
 | .pu d=>d
 | .ef d _ _=>d
def Y.aft:Y->List (List D) × List Fr->List (List D) × List Fr
 | .pu _,s=>s
 | .ef _ b f,_=>(b,f)
def ZO (n i:Nat)(o:Oper):Nat:=match o.dst with
 | some t=>t
 | none=>n+i
def qY (o:Oper)(bx:List (List D))(fr:List Fr):Y->X->St->Prop
 | .pu d,.norm,S=>match o.dst with
  | some t=>qp t d bx fr .norm S
  | none=>d=.junk/\S.bx=bx/\S.fr=fr
 | .ef d b f,.norm,S=>S.bx=b/\S.fr=f/\match o.dst with
  | some t=>look S.tm t=d
  | none=>d=.junk
 | _,_,_=>False
theorem Jx {o:Oper}{bx:List (List D)}{fr:List Fr}{y:Y}{x:X}{S:St}(h:qY o bx fr y x S):x=.norm:=by
 cases y<;>cases x<;>simp[qY]at h ⊢
def Vp (n:Nat)(o:Oper):Bool:=match o.dst with
 | some t=>Nat.blt t n
 | none=>true
inductive AE [Known][Dfr](P:Program) (l:List Oper) (n:Nat):Nat->List Oper->List (Nat × D)->List (List D)->List Fr->List Y->List (Nat × D)->List (List D)->List Fr->Prop
 | nil (i:Nat) (tm:List (Nat × D)) (bx:List (List D)) (fr:List Fr):AE P l n i [] tm bx fr [] tm bx fr
 | cons (i:Nat) (o:Oper) (rest:List Oper) (tm:List (Nat × D)) (bx:List (List D)) (fr:List Fr) (y:Y) (ys:List Y) (tm':List (Nat × D)) (bx':List (List D)) (fr':List Fr) (ht:Vp n o=true)
   (h:AL P l.toArray [o] ⟨n,ZI l o tm,bx,fr,(bx.length,fr.length)⟩ (qY o bx fr y)) (k:AE P l n (i+1) rest ((ZO n i o,y.d)::tm) (y.aft (bx,fr)).1 (y.aft (bx,fr)).2 ys tm' bx' fr'):AE P l n i (o::rest) tm bx fr (y::ys) tm' bx' fr'
def stg:List Y->List (List D) × List Fr->(Nat->Bool)->List (List D) × List Fr
 | [],s,_=>s
 | y::ys,s,p=>stg ys (match p 0 with|true=>y.aft s|false=>s) (fun j=>p (j+1))
def QA (ys:List Y)(i:Nat):Prop:=∃ d b f,ys[i]?=some (.ef d b f)
theorem Ya:∀(ys:List Y) (s:List (List D) × List Fr) (p q:Nat->Bool),(∀ i,QA ys i->p i=q i)->stg ys s p=stg ys s q
 | [],s,p,q,_=>rfl
 | y::ys,s,p,q,h=>by
  simp only[stg]
  have h1:(match p 0 with|true=>y.aft s|false=>s)=(match q 0 with|true=>y.aft s|false=>s):=by
   cases y with
   | pu d=>cases p 0<;>cases q 0<;>rfl
   | ef d b f=>rw[h 0 ⟨d,b,f,rfl⟩]
  rw[h1]
  exact Ya ys _ _ _ fun i ⟨d,b,f,hi⟩=>h (i+1) ⟨d,b,f,by simpa using hi⟩
theorem YC:∀(ys:List Y) (s:List (List D) × List Fr) (p:Nat->Bool),(∀ i,QA ys i->p i=false)->stg ys s p=s
 | [],s,p,_=>rfl
 | y::ys,s,p,h=>by
  simp only[stg]
  have h1:(match p 0 with|true=>y.aft s|false=>s)=s:=by
   cases y with
   | pu d=>cases p 0<;>rfl
   | ef d b f=>rw[h 0 ⟨d,b,f,rfl⟩]
  rw[h1]
  exact YC ys _ _ fun i ⟨d,b,f,hi⟩=>h (i+1) ⟨d,b,f,by simpa using hi⟩
theorem Up:∀(ys:List Y) (s:List (List D) × List Fr) (i:Nat) (y:Y),ys[i]?=some y->stg ys s (fun j=>decide (j<i+1))=y.aft (stg ys s (fun j=>decide (j<i)))
 | [],s,i,y,h=>by simp at h
 | y0::ys,s,0,y,h=>by
  simp at h;subst h
  simp only[stg]
  have e1:(match decide (0<0+1) with|true=>y0.aft s|false=>s)=y0.aft s:=by simp
  have e2:(match decide (0<0) with|true=>y0.aft s|false=>s)=s:=by simp
  rw[e1,e2,YC ys _ _ (by intro i _;simp),YC ys _ _ (by intro i _;simp)]
 | y0::ys,s,i+1,y,h=>by
  simp only[stg]
  have e1:(match decide (0<i+1+1) with|true=>y0.aft s|false=>s)=y0.aft s:=by simp
  have e2:(match decide (0<i+1) with|true=>y0.aft s|false=>s)=y0.aft s:=by simp
  rw[e1,e2]
  have:=Up ys (y0.aft s) i y (by simpa using h)
  simpa using this
section
variable {P:Program} {Q:X->St->Prop} {n:Nat} {ee:Nat × Nat} {tm tm':List (Nat × D)} {bx bx':List (List D)} {fr fr':List Fr} {b0:Bs} {g:G} {w:World} {a:Act} {ys:List Y}
theorem AE.steps [Known][Dfr]{l:List Oper}{i0:Nat}{rest:List Oper}(h:AE P l n i0 rest tm bx fr ys tm' bx' fr'):∃ ds:List (Nat × D),ds.length=rest.length/\ys.length=rest.length/\tm'=ds.reverse++tm/\stg ys (bx,fr) (fun _=>true)=(bx',fr') /\
  ∀(i:Nat) (o:Oper),rest[i]?=some o->∃ y,ys[i]?=some y/\ds[i]?=some (ZO n (i0+i) o,y.d)/\Vp n o=true /\
   AL P l.toArray [o] ⟨n,ZI l o ((ds.take i).reverse++tm),(stg ys (bx,fr) (fun j=>decide (j<i))).1,(stg ys (bx,fr) (fun j=>decide (j<i))).2,((stg ys (bx,fr) (fun j=>decide (j<i))).1.length,(stg ys (bx,fr) (fun j=>decide (j<i))).2.length)⟩ (qY o (stg ys (bx,fr) (fun j=>decide (j<i))).1 (stg ys (bx,fr) (fun j=>decide (j<i))).2 y):=by
 induction h with
 | nil i tm bx fr=>exact⟨[],rfl,rfl,rfl,rfl,fun i o h=>by simp at h⟩
 | cons i o rest tm bx fr y ys tm' bx' fr' ht h k ih=>
  obtain⟨ds,h1,h2,h3,h4,h5⟩:=ih
  refine⟨(ZO n i o,y.d)::ds,by simp[h1],by simp[h2],by simp[h3],?_,fun j o' ho=>?_⟩
  ·simp only[stg];exact h4
  cases j with
  | zero=>
   simp at ho;subst ho
   have e:stg (y::ys) (bx,fr) (fun j=>decide (j<0))=(bx,fr):=YC _ _ _ (by intro i _;simp)
   refine⟨y,rfl,by simp,ht,?_⟩
   rw[e]
   simpa using h
  | succ j=>
   simp at ho
   obtain⟨y',q1,q2,q3,q4⟩:=h5 j o' ho
   have e:stg (y::ys) (bx,fr) (fun x=>decide (x<j+1))=stg ys (y.aft (bx,fr)) (fun x=>decide (x<j)):=by
    simp only[stg]
    have e2:(match decide (0<j+1) with|true=>y.aft (bx,fr)|false=>(bx,fr))=y.aft (bx,fr):=by simp
    rw[e2]
    exact Ya _ _ _ _ fun i _=>by simp
   refine⟨y',by simpa using q1,by rw[show i+(j+1)=i+1+j from by omega];simpa using q2,q3,?_⟩
   rw[e]
   simpa using q4
def YL:Nat->List Y->List Nat
 | _,[]=>[]
 | i,.pu _::ys=>YL (i+1) ys
 | i,.ef _ _ _::ys=>i::YL (i+1) ys
def Wl:Nat->List Y->List (Nat × List (List D) × List Fr)
 | _,[]=>[]
 | i,.pu _::ys=>Wl (i+1) ys
 | i,.ef _ b f::ys=>(i+1,b,f)::Wl (i+1) ys
theorem ZU:∀ {ys:List Y} {i0 e:Nat},e ∈ YL i0 ys ↔ ∃ i,e=i0+i/\QA ys i
 | [],i0,e=>by simp[YL,QA]
 | .pu d::ys,i0,e=>by
  simp only[YL]
  rw[ZU]
  constructor
  ·rintro⟨i,rfl,d,b,f,h⟩;exact⟨i+1,by omega,d,b,f,by simpa using h⟩
  ·rintro⟨i,rfl,d,b,f,h⟩
   cases i with
   | zero=>simp at h
   | succ i=>exact⟨i,by omega,d,b,f,by simpa using h⟩
 | .ef d b f::ys,i0,e=>by
  simp only[YL,List.mem_cons]
  rw[ZU]
  constructor
  ·rintro(rfl|⟨i,rfl,d,b,f,h⟩)
   ·exact⟨0,by omega,d,b,f,rfl⟩
   ·exact⟨i+1,by omega,d,b,f,by simpa using h⟩
  ·rintro⟨i,rfl,d,b,f,h⟩
   cases i with
   | zero=>exact .inl (by omega)
   | succ i=>exact .inr ⟨i,by omega,d,b,f,by simpa using h⟩
theorem Wx:∀ {ys:List Y} {i0 i:Nat} {d:D} {b:List (List D)} {f:List Fr},ys[i]?=some (.ef d b f)->(i0+i+1,b,f) ∈ Wl i0 ys
 | .pu d::ys,i0,0,_,_,_,h=>by simp at h
 | .pu d::ys,i0,i+1,_,_,_,h=>by
  simp only[Wl]
  have:=Wx (i0:=i0+1) (by simpa using h)
  rw[show i0+(i+1)+1=i0+1+i+1 from by omega];exact this
 | .ef d b f::ys,i0,0,_,_,_,h=>by
  simp at h
  obtain⟨_,rfl,rfl⟩:=h
  simp[Wl]
 | .ef d b f::ys,i0,i+1,_,_,_,h=>by
  simp only[Wl]
  have:=Wx (i0:=i0+1) (by simpa using h)
  rw[show i0+(i+1)+1=i0+1+i+1 from by omega];exact List.mem_cons_of_mem _ this
 | [],i0,i,_,_,_,h=>by simp at h
def Q7 (l:List Oper)(es:List Nat)(i c:Nat):Bool:=!(es.all fun e=>decide (e<c)==decide (e<i))&&es.all fun e=>(!up (ZE [] l) i e||decide (e<c))&&(!up (ZE [] l) e i||decide (c<=e))
def Jj (l:List Oper)(es:List Nat):Bool:=es.all fun e=>es.all fun e'=>!decide (e<e')||up (ZE [] l) e' e
def UJ (n:Nat)(l:List Oper):Bool:=l.all fun o=>(YR l o).all fun t=>Nat.blt t n
inductive AOs [Known][Dfr](P:Program) (l:List Oper) (n:Nat) (es:List Nat) (i:Nat) (o:Oper) (tm:List (Nat × D)) (d:D):List (Nat × List (List D) × List Fr)->Prop
 | nil:AOs P l n es i o tm d []
 | skip (c:Nat) (bx:List (List D)) (fr:List Fr) (sts:List (Nat × List (List D) × List Fr)) (h:Q7 l es i c=false) (k:AOs P l n es i o tm d sts):AOs P l n es i o tm d ((c,bx,fr)::sts)
 | go (c:Nat) (bx:List (List D)) (fr:List Fr) (sts:List (Nat × List (List D) × List Fr)) (h:AL P l.toArray [o] ⟨n,ZI l o tm,bx,fr,(bx.length,fr.length)⟩ (qY o bx fr (.pu d))) (k:AOs P l n es i o tm d sts):AOs P l n es i o tm d ((c,bx,fr)::sts)
inductive AO [Known][Dfr](P:Program) (l:List Oper) (n:Nat) (es:List Nat) (sts:List (Nat × List (List D) × List Fr)):Nat->List Oper->List Y->List (Nat × D)->Prop
 | nil (i:Nat) (ys:List Y) (tm:List (Nat × D)):AO P l n es sts i [] ys tm
 | ef (i:Nat) (o:Oper) (rest:List Oper) (d:D) (bx:List (List D)) (fr:List Fr) (ys:List Y) (tm:List (Nat × D)) (k:AO P l n es sts (i+1) rest ys ((ZO n i o,d)::tm)):AO P l n es sts i (o::rest) (.ef d bx fr::ys) tm
 | pu (i:Nat) (o:Oper) (rest:List Oper) (d:D) (ys:List Y) (tm:List (Nat × D)) (h:AOs P l n es i o tm d sts) (k:AO P l n es sts (i+1) rest ys ((ZO n i o,d)::tm)):AO P l n es sts i (o::rest) (.pu d::ys) tm
theorem AOs.get [Known][Dfr]{l:List Oper}{es:List Nat}{i:Nat}{o:Oper}{d:D}{sts:List (Nat × List (List D) × List Fr)}(h:AOs P l n es i o tm d sts):∀ {c:Nat} {b:List (List D)} {f:List Fr},(c,b,f) ∈ sts->Q7 l es i c=false\/AL P l.toArray [o] ⟨n,ZI l o tm,b,f,(b.length,f.length)⟩ (qY o b f (.pu d)):=by
 induction h with
 | nil=>intro c b f h;cases h
 | skip c bx fr sts h k ih=>
  intro c' b f hm
  rcases List.mem_cons.1 hm with hm|hm
  ·cases hm;exact .inl h
  ·exact ih hm
 | go c bx fr sts h k ih=>
  intro c' b f hm
  rcases List.mem_cons.1 hm with hm|hm
  ·cases hm;exact .inr h
  ·exact ih hm
theorem AO.get [Known][Dfr]{l:List Oper}{es:List Nat}{sts:List (Nat × List (List D) × List Fr)}{i0:Nat}{rest:List Oper}(h:AO P l n es sts i0 rest ys tm):∀ {i:Nat} {o:Oper} {d:D},rest[i]?=some o->ys[i]?=some (.pu d)->∀(ds:List (Nat × D)),(∀(j:Nat) (oj:Oper) (y:Y),j<i->rest[j]?=some oj->ys[j]?=some y->ds[j]?=some (ZO n (i0+j) oj,y.d))->i<=ds.length->AOs P l n es (i0+i) o ((ds.take i).reverse++tm) d sts:=by
 induction h with
 | nil i ys tm=>intro i o d h;simp at h
 | ef i0 o0 rest d0 bx fr ys tm k ih=>
  intro i o d ho hy ds hds hl
  cases i with
  | zero=>simp at hy
  | succ i=>
   cases ds with
   | nil=>simp at hl
   | cons p ds=>
    have h0:=hds 0 o0 _ (by omega) rfl rfl
    simp at h0
    subst h0
    have:=ih (i:=i) (by simpa using ho) (by simpa using hy) ds (fun j oj y hj h1 h2=>by
     have:=hds (j+1) oj y (by omega) (by simpa using h1) (by simpa using h2)
     rw[show i0+1+j=i0+(j+1) from by omega];simpa using this) (by simpa using hl)
    rw[show i0+(i+1)=i0+1+i from by omega]
    simpa[Y.d]using this
 | pu i0 o0 rest d0 ys tm h k ih=>
  intro i o d ho hy ds hds hl
  cases i with
  | zero=>
   simp at ho hy
   subst ho hy
   simpa using h
  | succ i=>
   cases ds with
   | nil=>simp at hl
   | cons p ds=>
    have h0:=hds 0 o0 _ (by omega) rfl rfl
    simp at h0
    subst h0
    have:=ih (i:=i) (by simpa using ho) (by simpa using hy) ds (fun j oj y hj h1 h2=>by
     have:=hds (j+1) oj y (by omega) (by simpa using h1) (by simpa using h2)
     rw[show i0+1+j=i0+(j+1) from by omega];simpa using this) (by simpa using hl)
    rw[show i0+(i+1)=i0+1+i from by omega]
    simpa[Y.d]using this
theorem QB {p:Nat->Bool}:∀(es:List Nat),(∀ e ∈ es,∀ e' ∈ es,e<e'->p e'=true->p e=true)->∃ c,(c=0\/∃ e ∈ es,c=e+1/\p e=true)/\∀ e ∈ es,p e=decide (e<c)
 | [],_=>⟨0,.inl rfl,by simp⟩
 | e::es,h=>by
  obtain⟨c,h1,h2⟩:=QB es fun x hx y hy=>h x (by simp[hx]) y (by simp[hy])
  cases hp:p e with
  | true=>
   rcases Nat.lt_or_ge e c with hc|hc
   ·refine⟨c,h1.imp id fun⟨x,hx,k⟩=>⟨x,by simp[hx],k⟩,fun x hx=>?_⟩
    rcases List.mem_cons.1 hx with rfl|hx
    ·simp[hp,hc]
    ·exact h2 x hx
   ·refine⟨e+1,.inr ⟨e,by simp,rfl,hp⟩,fun x hx=>?_⟩
    rcases List.mem_cons.1 hx with rfl|hx'
    ·simp[hp]
    ·rcases Nat.lt_trichotomy x e with hlt|rfl|hgt
     ·rw[h x hx e (by simp) hlt hp];simp;omega
     ·rw[hp];simp
     ·rw[h2 x hx'];simp;omega
  | false=>
   refine⟨c,h1.imp id fun⟨x,hx,k⟩=>⟨x,by simp[hx],k⟩,fun x hx=>?_⟩
   rcases List.mem_cons.1 hx with rfl|hx'
   ·rw[hp]
    rcases h1 with rfl|⟨y,hy,rfl,hpy⟩
    ·simp
    ·have:¬ x<y+1:=fun hlt=>by
      rcases Nat.lt_or_ge x y with h3|h3
      ·have:=h x (by simp) y (by simp[hy]) h3 hpy
       rw[hp]at this;cases this
      ·have:x=y:=by omega
       subst this
       rw[hp]at hpy;cases hpy
     simp[this]
   ·exact h2 x hx'
end
end Go.Av
end
