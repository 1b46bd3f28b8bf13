/- Jumps back to a label; slices cut with a bound on their room; slices held against nil. -/
import Derived.Test.YtchlgagdbflkmaaGreatDoorL07
import Derived.ScopeJumps
import Derived.Lib.SlBytesConst
import Derived.Laws.IdiomStrings
import Derived.LoopN
import Derived.WideLaws
set_option linter.unusedSimpArgs false
set_option linter.unusedVariables false
section
open Go.RowKit Go.Pl
namespace Go.Av
theorem J9 {P:Program}{Q:Exit->Act->World->Prop}{a:Act}{w:World}{c rest:Code}(l:Nat)(J:Nat->Act->World->Prop)(n0:Nat)(hf:findLabel c l=some rest)
  (first:c.wp P (Exit.jump l (fun a w=>∃ m,m<n0/\J m a w) Q) a w)
  (pass:∀ n a w,J n a w->rest.wp P (Exit.jump l (fun a' w'=>∃ m,m<n/\J m a' w') Q) a w):(Code.scope c).wp P Q a w:=by
 intro b k cs
 have hg:gotoIn l (.inScope c::k)=some (.code rest::.inScope c::k):=by simp[gotoIn,hf]
 have key:∀ n a w,J n a w->∃ e a' w',Q e a' w'/\Arrives P (lone (b.at a (.code rest::.inScope c::k)) cs w) b k cs e a' w':=by
  intro n
  induction n using Nat.strongRecOn with
  | _ n ih=>
   intro a w hJ
   obtain⟨e,a₁,w₁,hq,harr⟩:=pass n a w hJ b (.inScope c::k) cs
   cases e with
   | goto l'=>
    obtain⟨rfl,m,hm,hJ'⟩:=hq
    obtain⟨e₂,a₂,w₂,hq₂,harr₂⟩:=ih m hm a₁ w₁ hJ'
    exact⟨e₂,a₂,w₂,hq₂,.of_steps (harr _ hg) harr₂⟩
   | normal=>exact⟨.normal,a₁,w₁,hq,Steps.trans harr (.one step_inScope)⟩
   | exit id=>exact⟨.exit id,a₁,w₁,hq,fun k' hk=>harr k' (by simp[exitTo,hk])⟩
   | ret=>exact⟨_,a₁,w₁,hq,harr⟩
   | panic ch=>exact⟨_,a₁,w₁,hq,harr⟩
   | outgrown=>exact⟨_,a₁,w₁,hq,harr⟩
 obtain⟨e,a₁,w₁,hq,harr⟩:=first b (.inScope c::k) cs
 cases e with
 | goto l'=>
  obtain⟨rfl,m,_,hJ'⟩:=hq
  obtain⟨e₂,a₂,w₂,hq₂,harr₂⟩:=key m a₁ w₁ hJ'
  exact⟨e₂,a₂,w₂,hq₂,.of_steps (.head step_scope (harr _ hg)) harr₂⟩
 | normal=>exact⟨.normal,a₁,w₁,hq,.head step_scope (Steps.trans harr (.one step_inScope))⟩
 | exit id=>exact⟨.exit id,a₁,w₁,hq,fun k' hk=>.head step_scope (harr k' (by simp[exitTo,hk]))⟩
 | ret=>exact⟨_,a₁,w₁,hq,.of_steps (.one step_scope) harr⟩
 | panic ch=>exact⟨_,a₁,w₁,hq,.of_steps (.one step_scope) harr⟩
 | outgrown=>exact⟨_,a₁,w₁,hq,.of_steps (.one step_scope) harr⟩
def X.jump (l:Nat)(K:St->Prop)(Q:X->St->Prop):X->St->Prop
 | .goto i,S=>i=l/\K S
 | x,S=>Q x S
section
variable {P:Program} {Q:X->St->Prop} {S:St}
theorem YH {l:Nat}{K:St->Prop}(h:K S):X.jump l K Q (.goto l) S:=⟨rfl,h⟩
theorem YN {l:Nat}{K:St->Prop}(h:Q .ret S):X.jump l K Q .ret S:=h
theorem XQ [Known][Dfr]{b0:Bs}{l:Nat}{K:St->Prop}{e:Exit}{a:Act}{w:World}(h:UP b0 (X.jump l K Q) e a w):Exit.jump l (fun a w=>∃ S g,Inv b0 S g a w/\K S) (UP b0 Q) e a w:=by
 cases e with
 | goto i=>
  obtain⟨S,g,h1,h2,h3⟩:=h
  exact⟨h2,S,g,h1,h3⟩
 | _=>exact h
theorem Lands.up {J:Nat->List (Nat × D)->List (List D)->List Fr->Prop}{n k k':Nat}{ee:Nat × Nat}(h:Lands J n ee k S)(hk:k<=k'):Lands J n ee k' S:=by
 obtain⟨m,tm,bx,fr,h1,h2⟩:=h.out
 exact⟨m,tm,bx,fr,Nat.lt_of_lt_of_le h1 hk,h2⟩
theorem Is {l:Nat}{K K':St->Prop}(h:∀ S,K S->K' S):∀ x S,X.jump l K Q x S->X.jump l K' Q x S:=fun x S hx=>by
 cases x with
 | goto i=>exact⟨hx.1,h _ hx.2⟩
 | _=>exact hx
theorem I3 [Known][Dfr]{rest:Code}{n:Nat}{ee:Nat × Nat}{l:Nat}{J:Nat->List (Nat × D)->List (List D)->List Fr->Prop}{k0:Nat}
  (pass:∀ k tm bx fr,J k tm bx fr->AW P rest ⟨n,tm,bx,fr,ee⟩ (X.jump l (Lands J n ee k) Q)) (h:Lands J n ee k0 S):AW P rest S (X.jump l (Lands J n ee k0) Q):=by
 refine⟨fun b0 g a w hi=>?_⟩
 obtain⟨m,hm,tm,bx,fr,g',hJ,hi'⟩:=h.inv hi
 exact(JU (pass m tm bx fr hJ) (Is fun S hS=>Lands.up hS (Nat.le_of_lt hm))).run b0 g' a w hi'
theorem It [Known][Dfr]{c rest:Code}{n:Nat}{ee:Nat × Nat}{tm0:List (Nat × D)}{bx0:List (List D)}{fr0:List Fr}(l:Nat)(J:Nat->List (Nat × D)->List (List D)->List Fr->Prop)(k0:Nat)(hf:findLabel c l=some (.seq .skip rest))
  (pass:∀ k tm bx fr,J k tm bx fr->AW P rest ⟨n,tm,bx,fr,ee⟩ (X.jump l (Lands J n ee k) Q))
  (first:(∀ S',Lands J n ee k0 S'->AW P rest S' (X.jump l (Lands J n ee k0) Q))->AW P c ⟨n,tm0,bx0,fr0,ee⟩ (X.jump l (Lands J n ee k0) Q)):AW P (.scope c) ⟨n,tm0,bx0,fr0,ee⟩ Q:=by
 refine⟨fun b0 g a w hi=>?_⟩
 have key:∀(k:Nat) (a:Act) (w:World),(∃ S g,Inv b0 S g a w/\Lands J n ee k S)->∃ m,m<k/\∃ tm bx fr g,J m tm bx fr/\Inv b0 ⟨n,tm,bx,fr,ee⟩ g a w:=fun k a w ⟨S,g,hi,hL⟩=>by
  obtain⟨m,hm,tm,bx,fr,g',hJ,hi'⟩:=hL.inv hi
  exact⟨m,hm,tm,bx,fr,g',hJ,hi'⟩
 refine J9 l (fun k a w=>∃ tm bx fr g,J k tm bx fr/\Inv b0 ⟨n,tm,bx,fr,ee⟩ g a w) k0 hf ?_ ?_
 ·refine wp_mono ((first fun S' h=>I3 pass h).run b0 g a w hi) fun e a w hc=>?_
  have:=XQ hc
  cases e with
  | goto i=>exact⟨this.1,key _ a w this.2⟩
  | _=>exact this
 ·rintro k a w ⟨tm,bx,fr,g,hJ,hi⟩
  refine wp_mono ((Wb (Wz (ZU (pass k tm bx fr hJ)))).run b0 g a w hi) fun e a w hc=>?_
  have:=XQ hc
  cases e with
  | goto i=>exact⟨this.1,key _ a w this.2⟩
  | _=>exact this
end
section
variable {P:Program} {Q:X->St->Prop} {n:Nat} {ee:Nat × Nat} {tm:List (Nat × D)} {bx bx':List (List D)} {fr fr':List Fr} {b0:Bs} {g:G} {w:World} {a:Act} {T:Tab}
variable {ops:Array Oper} {rest:List Oper} {t ty:Nat} {pos:String} {after:Array Edge}
theorem Ug [Known][Dfr](hT:chk P T=true){op:BinOp}{x:Operand}{xt yt e:Nat}{tk:Tok}{l:List E}{d:Bool->D}{ti:Ti}(hx:ev tm x=.sl tk l)(ht:tl T xt=some ti)(hk:ti.kd=.slice e)(hd:(match op with | .eql=>some (fun b=>D.bool b) | .neq=>some (fun b=>D.bool (!b))|_=>none)=some d)(htd:Nat.blt t n=true)
  (k:∀ b:Bool,(l ≠ []->b=false)->AL P ops rest ⟨n,(t,d b)::tm,bx,fr,ee⟩ Q):AL P ops (⟨some t,.binOp op xt x (.const (.slice none 0 0)) yt,ty,pos,after,none⟩::rest) ⟨n,tm,bx,fr,ee⟩ Q:=by
 refine⟨fun b0 g a w hi=>?_⟩
 have h1:V w g fr (ev tm x) (a.eval x):=hi.ev x
 rw[hx]at h1
 obtain⟨a1,_⟩:=WO h1
 obtain⟨A,cap,hv,hA⟩:∃ A cap,a.eval x=.slice A l.length cap/\(l ≠ []->A.isNone=false):=by
  generalize hq:E.sl l=q at a1
  generalize a.eval x=v at a1
  cases a1 with
  | slC l' b off cap us h1 _ _ _ _=>injection hq with hq;subst hq;exact⟨_,cap,rfl,fun _=>rfl⟩
  | slE A cap h=>injection hq with hq;subst hq;exact⟨A,cap,rfl,fun h=>(h rfl).elim⟩
  | _=>cases hq
 have hu:=(Z9 hT ht).slice hk
 have hrun:(Op.equal xt (.slice A l.length cap) (.slice none 0 0)).run P w=.ok A.isNone w:=Go.run_equal_slice_nil w xt e A l.length cap hu
 have hc0:a.eval (.const (.slice none 0 0))=.slice none 0 0:=rfl
 refine wpList_plain rfl fun K hK=>?_
 have hex:∃ v,(execOp a.eval ⟨some t,.binOp op xt x (.const (.slice none 0 0)) yt,ty,pos,after,none⟩).run P w=.ok (.value v) w/\V w g fr (d A.isNone) v:=by
  cases op<;>simp at hd<;>subst hd<;>first|exact⟨.bool A.isNone,by simp[execOp,hv,hc0,eqGuard,binOp,Sem.run_bind,hrun],.bool _⟩ | exact⟨.bool (!A.isNone),by simp[execOp,hv,hc0,eqGuard,binOp,Sem.run_bind,hrun],.bool _⟩
 obtain⟨v,hr,hvv⟩:=hex
 unfold Oper.wp
 rw[hr]
 exact hK _ _ ((k A.isNone hA).run b0 g _ w (hi.put htd hvv))
theorem XR [Known][Dfr](hT:chk P T=true){x lo hh mx:Operand}{st e:Nat}{tk:Tok}{l l2:List E}{k1 k2 k3:IntKind}{i j m:Int}{p q r:Nat}{ti te:Ti}(hx:ev tm x=.sl tk l)(ht:tl T st=some ti)(hk:ti.kd=.slice e)(hte:tl T e=some te)(htd:Nat.blt t n=true)
  (hlo:ev tm lo=.int k1 i) (hhi:ev tm hh=.int k2 j) (hmx:ev tm mx=.int k3 m) (hi0:i=(p:Int)) (hj0:j=(q:Int)) (hm0:m=(r:Int)) (hpq:p<=q) (hqr:q<=r) (hr:r<=l.length) (hU:Uni te.size l) (hl2:(l.take q).drop p=l2)
  (kk:AL P ops rest ⟨n,(t,.sl .ext l2)::tm,bx,fr,ee⟩ Q):AL P ops (⟨some t,.slice st x (some lo) (some hh) (some mx),ty,pos,after,none⟩::rest) ⟨n,tm,bx,fr,ee⟩ Q:=
 Z6 _ htd (fun g a w hi=>by
  subst hi0 hj0 hm0
  have h1:V w g fr (ev tm x) (a.eval x):=hi.ev x
  rw[hx]at h1
  obtain⟨a1,_⟩:=WO h1
  have hu:=(Z9 hT ht).slice hk
  have hsz:=Y1 (P:=P) (t:=e) (Z9 hT hte).tSize w
  obtain⟨A,cap,hv,hcap,hmax⟩:∃ A cap,a.eval x=.slice A l.length cap/\l.length<=cap/\cap<=maxLen:=by
   generalize hq:E.sl l=q at a1
   generalize a.eval x=v at a1
   cases a1 with
   | slC l' b off cap us h1 h2 _ _ _=>injection hq with hq;subst hq;exact⟨_,cap,rfl,h1,h2⟩
   | slE A cap h=>injection hq with hq;subst hq;exact⟨A,cap,rfl,Nat.zero_le _,h⟩
   | _=>cases hq
  have v1:=Bnd.val (S:=⟨n,tm,bx,fr,_⟩) hi hlo
  have v2:=Bnd.val (S:=⟨n,tm,bx,fr,_⟩) hi hhi
  have v3:=Bnd.val (S:=⟨n,tm,bx,fr,_⟩) hi hmx
  have b1:(0:Int)<=(r:Int)/\(r:Int)<=(cap:Int):=by omega
  have b2:(0:Int)<=(q:Int)/\(q:Int)<=(r:Int):=by omega
  have b3:(0:Int)<=(p:Int)/\(p:Int)<=(q:Int):=by omega
  have hb:(Instr.sliceBounds true l.length cap (some (.int k1 (p:Int))) (some (.int k2 (q:Int))) (some (.int k3 (r:Int)))).run P w=.ok (p,q,r) w:=by
   simp only[Instr.sliceBounds,Instr.sliceBound,asIntOf,Sem.run_bind,Sem.run_pure,Result.andThen_ok,if_pos b1,Int.toNat_natCast,if_pos b2,if_pos b3]
  refine⟨.slice (if r=p then A else A.map (·.add (p*te.size))) (q-p) (r-p),?_,?_⟩
  ·have hrun:(Instr.sliceAt st (.slice A l.length cap) (some (.int k1 (p:Int))) (some (.int k2 (q:Int))) (some (.int k3 (r:Int)))).run P w=.ok (.slice (if r=p then A else A.map (·.add (p*te.size))) (q-p) (r-p)) w:=by
    simp[Instr.sliceAt,Instr.slice,Sem.run_bind,run_underlying hu,hb,hsz]
   simp only[execOp,hv,v1,v2,v3,Sem.run_bind,Option.map_some,hrun,Result.andThen_ok]
   rfl
  ·subst hl2
   have hlen:((l.take q).drop p).length=q-p:=by simp;omega
   refine .sl _ _ _ ?_ trivial
   by_cases he:q-p=0
   ·have hnil:(l.take q).drop p=[]:=List.eq_nil_of_length_eq_zero (by rw[hlen];exact he)
    rw[hnil,he]
    exact .slE _ _ (by omega)
   ·have hpc:¬ r=p:=by omega
    rw[if_neg hpc,<- hlen]
    generalize hq':E.sl l=qq at a1
    rw[hv]at a1
    generalize hs:Value.slice A l.length cap=s at a1
    cases a1 with
    | slC l' b off cap' us h1 h2 hc hw hvv=>
     injection hq' with hq';subst hq'
     injection hs with e1 _ e3
     subst e1 e3
     have hadd:(⟨b,off,none⟩:Addr).add (p*te.size)=⟨b,off+p*te.size,none⟩:=by unfold Addr.add;split<;>simp_all
     simp only[Option.map_some,hadd]
     have hU2:Uni te.size (l.take q):=hU.sub fun e h=>List.mem_of_mem_take h
     have hf:flat ((l.take q).drop p)=((flat l).take (q*te.size)).drop (p*te.size):=by rw[hU2.drop_flat,hU.take_flat]
     have hfl:=hU.flat
     have hql:q*te.size<=l.length*te.size:=Nat.mul_le_mul_right _ (by omega)
     have hfl2:(flat ((l.take q).drop p)).length=q*te.size-p*te.size:=by rw[hf];simp;omega
     refine .slC _ b (off+p*te.size) (r-p) (fun j=>us (p*te.size+j)) (by omega) (by omega) (fun j hj=>by rw[Nat.add_assoc];exact hc _ (by omega)) (fun j hj=>by rw[Nat.add_assoc];exact hw _ (by omega)) (fun j x hx=>hvv _ x ?_)
     have hj:=(List.getElem?_eq_some_iff.1 hx).1
     rw[hf,List.getElem?_drop,List.getElem?_take,if_pos (by omega)]at hx
     exact hx
    | slE A cap' h=>injection hs with _ e;omega
    | _=>cases hq') kk
def G.lit (g:G)(w:World)(m:Nat):G:=⟨fun b o=>g.C b o\/(b=w.heap.size/\o<m),g.ρ,g.τ⟩
end
end Go.Av
end
section
open Go.RowKit Go.Pl
namespace Go.Av
@[simp] theorem H9 (e:E):(D.ofC e).wk=D.ofC e:=by
 cases e<;>simp only[D.ofC,D.wk]
theorem HX (cs:List D):D.ex (D.wks cs)=D.wks (D.ex cs):=by
 cases hr:D.isRow cs with
 | true=>
  have key:∀ l:List E,l.map D.ofC=(l.map D.ofC).map D.wk:=fun l=>by
   rw[List.map_map]
   exact List.map_congr_left fun x _=>(H9 x).symm
  rcases QU hr with⟨z,l,rfl⟩ | ⟨l,ds,rfl⟩
  ·show l.map D.ofC=D.wks (l.map D.ofC)
   rw[WL];exact key l
  ·show l.map D.ofC++D.wks ds=D.wks (l.map D.ofC++ds)
   rw[WL,WL,List.map_append,<- key l]
 | false=>
  rw[Qo hr,Qo]
  match cs,hr with
  | [],_=>rfl
  | [d],hr=>cases d<;>first|rfl|(simp[D.isRow]at hr)
  | _::_::_,_=>rfl
theorem He {cs:List D}{n:Nat}(hf:D.fits cs n):D.fits (D.wks cs) n:=by
 refine⟨by rw[WL,List.length_map];exact hf.1,by rw[HX,WL,List.length_map];exact hf.2.1,fun z l e=>?_⟩
 rw[WL]at e
 rcases cs with _|⟨d,_|⟨d2,r⟩⟩
 ·simp at e
 ·simp at e;exact hf.2.2 z l (by rw[show d=.row z l from by cases d<;>first|exact e|(simp only[D.wk]at e;cases e)])
 ·simp at e
theorem Mem.wk [Known]{g:G}{bx:List (List D)}{fr:List Fr}{w:World}(h:Mem g bx fr w):Mem g (bx.map D.wks) fr w where
 bl:=by rw[h.bl];simp
 bat i blk cs h1 h2:=by
  rw[List.getElem?_map]at h2
  cases hi:bx[i]? with
  | none=>simp[hi]at h2
  | some cs0=>
   simp[hi]at h2;subst h2
   obtain⟨vs,ty,q1,q2,q3⟩:=h.bat i blk cs0 h1 hi
   refine⟨vs,ty,q1,He q2,fun j d v hd hv=>?_⟩
   rw[HX,WL,List.getElem?_map]at hd
   cases hj:(D.ex cs0)[j]? with
   | none=>simp[hj]at hd
   | some d0=>simp[hj]at hd;subst hd;exact(q3 j d0 v hj hv).wk
 bC:=h.bC
 bN:=h.bN
 tl:=h.tl
 tat:=h.tat
 tN:=h.tN
 tρ:=h.tρ
 Clt:=h.Clt
 gl:=h.gl
def AQ [Known](P:Program)(f:FuncId)(args:List D)(bx:List (List D))(d:D)(bx':List (List D)):Prop:=AC P f args bx [] fun r b fr=>r=.ret d/\b=bx'/\fr=[]
theorem AQ.weak [Known]{P:Program}{f:FuncId}{args:List D}{bx bx':List (List D)}{d:D}(h:AC P f args bx [] fun r b fr=>∃ d0,r=.ret d0/\d0.wk=d/\b.map D.wks=bx'/\fr=[]):AQ P f args bx d bx':=by
 refine⟨fun g w vs hm hl hv=>(h.run g w vs hm hl hv).mono fun e w' ⟨g',b',fr',r,h1,h2,h3,d0,h4,h5,h6,h7⟩=>?_⟩
 subst h4 h5 h6 h7
 obtain⟨v,rfl,hv⟩:=h3
 exact⟨g',_,[],.ret d0.wk,h1,h2.wk,⟨v,rfl,hv.wk⟩,rfl,rfl,rfl⟩
theorem AP.ofA [Known]{P:Program}{f:FuncId}{args:List D}{d:D}(h:AC P f args [] [] fun r b fr=>∃ d0,r=.ret d0/\d0.wk=d/\b.map D.wks=[]/\fr=[]):AP P f args d []:=AQ.weak h
def Vv:List Nat->Nat->Bool
 | [],_=>true
 | b::bs,n=>Nat.blt b n&&(!(bs.any (Nat.beq b))&&Vv bs n)
theorem Wq:∀ {bs:List Nat} {n:Nat},Vv bs n=true->WK bs n
 | [],n,_=>Wi n
 | b::bs,n,h=>by
  simp only[Vv,Bool.and_eq_true,Nat.blt_eq,Bool.not_eq_true',List.any_eq_false]at h
  obtain⟨h1,h2,h3⟩:=h
  have ih:=Wq h3
  have hne:∀ j c:Nat,bs[j]?=some c->c ≠ b:=fun j c hj e=>by
   subst e
   exact h2 c (List.mem_of_getElem? hj) (Nat.beq_refl c)
  refine⟨fun i j c hi hj=>?_,fun c hc=>?_⟩
  ·cases i with
   | zero=>
    cases j with
    | zero=>rfl
    | succ j=>simp at hi hj;subst hi;exact(hne j _ hj rfl).elim
   | succ i=>
    cases j with
    | zero=>simp at hi hj;subst hj;exact(hne i _ hi rfl).elim
    | succ j=>simp at hi hj;rw[ih.1 i j c hi hj]
  ·rcases List.mem_cons.1 hc with rfl|hc
   ·exact h1
   ·exact ih.2 c hc
def Xa (k:Nat)(bs:List Nat):Bool:=(List.range k).all fun i=>match bs[i]? with
 | some j=>Nat.beq i j
 | none=>false
theorem Uv {k:Nat}{bs:List Nat}(h:Xa k bs=true):∀ i,i<k->bs[i]?=some i:=fun i hi=>by
 have:=List.all_eq_true.1 h i (List.mem_range.2 hi)
 split at this
 ·rename_i j hj
  rw[hj,Nat.eq_of_beq_eq_true this]
 ·cases this
theorem Zw {P:Program}{rs:List ResultVar}{S:St}{d d':D}{ds:List D}{bx' B:List (List D)}{k:Nat}(bs:List Nat)(h:ResL P S rs ds)(hb:Vv bs S.bx.length=true)(hk:Xa k bs=true)(hn:nf (((Q5 ds).ren (idx bs) (idx [])).wk)=some d')(hB:nfb ((Qp bs [] S.bx).map D.wks)=some B)(hd:d'=d)(hB':B=bx') :
  QV P rs k 0 (fun r b fr=>∃ d0,r=.ret d0/\d0.wk=d/\b.map D.wks=bx'/\fr=[]) .ret S:=
 ⟨ds,bs,[],h,Wq hb,Wi _,Uv hk,fun i h=>by omega,_,rfl,by rw[YZ hn,hd],by rw[Vo hB,hB'],rfl⟩
theorem HY {P:Program}{rs:List ResultVar}{S:St}{d d':D}{ds:List D}{bx' B:List (List D)}{k:Nat}(bs:List Nat)(h:ResL P S rs ds)(hb:Vv bs S.bx.length=true)(hk:Xa k bs=true)(hn:nf (((Q5 ds).ren (idx bs) (idx [])).wk)=some d')(hB:nfb ((Qp bs [] S.bx).map D.wks)=some B)(hd:d'=d)(hB':B=bx') :
  QV P rs k 0 (fun r b fr=>∃ d0,r=.ret d0/\d0.wk=d/\b.map D.wks=bx'/\fr=[]) .norm S:=
 ⟨ds,bs,[],h,Wq hb,Wi _,Uv hk,fun i h=>by omega,_,rfl,by rw[YZ hn,hd],by rw[Vo hB,hB'],rfl⟩
section
variable {P:Program} {Q:X->St->Prop} {n:Nat} {ee:Nat × Nat} {tm:List (Nat × D)} {bx:List (List D)} {fr:List Fr} {ops:Array Oper} {rest:List Oper} {ty:Nat} {pos:String} {after:Array Edge} {f:FuncId} {ars:Array Operand} {ats:Array TypeId}
theorem I4 [Known][Dfr]{t:Nat}{cds:List D}{d d':D}{bxs bxs' bx2:List (List D)}(bs:List Nat)(hQ:AQ P f cds bxs d bxs')(hf:Jh P f=true)
  (hc:(ars.toList.map (ev tm)).map (D.ren (idx bs) (idx []))=cds) (hb:Vv bs bx.length=true) (hbx:Qp bs [] bx=bxs) (hle:Nat.ble bs.length bxs'.length=true) (htd:Nat.blt t n=true) (hd:nf (d.ren (upN bs bx.length) (upN [] fr.length))=some d') (hB:nfb (Q6 bs [] bx fr.length bxs')=some bx2)
  (k:AL P ops rest ⟨n,(t,d')::tm,bx2,fr,ee⟩ Q):AL P ops (⟨some t,.call { callee:=.value (.func f),args:=ars,argTypes:=ats },ty,pos,after,none⟩::rest) ⟨n,tm,bx,fr,ee⟩ Q:=by
 refine Ki bs [] hf hQ hc (Wq hb) (Wi _) hbx rfl htd (fun _ _ _ h=>by cases h.1) fun d0 bx' fr' h=>?_
 obtain⟨h1,rfl,rfl⟩:=h
 injection h1 with h1
 subst h1
 refine⟨Nat.le_of_ble_eq_true hle,?_⟩
 have e1:=YZ hd
 have e2:=Vo hB
 subst e1 e2
 simpa[St.aft,Us,Vu]using k
end
theorem AC.unwk [Known]{P:Program}{f:FuncId}{args:List D}{bx:List (List D)}{fr:List Fr}{post:R->List (List D)->List Fr->Prop}(h:AC P f (D.wks args) bx fr post):AC P f args bx fr post:=
 ⟨fun g w vs hm hl hv=>h.run g w vs hm (by rw[WL];simpa using hl) fun j d v hd hvv=>by
  rw[WL,List.getElem?_map]at hd
  cases hj:args[j]? with
  | none=>simp[hj]at hd
  | some d0=>simp[hj]at hd;subst hd;exact(hv j d0 v hj hvv).wk⟩
section
variable {P:Program} {Q:X->St->Prop} {n:Nat} {ee:Nat × Nat} {tm:List (Nat × D)} {bx:List (List D)} {fr:List Fr} {ops:Array Oper} {rest:List Oper} {ty:Nat} {pos:String} {after:Array Edge} {f:FuncId} {ars:Array Operand} {ats:Array TypeId}
theorem Zc [Known][Dfr]{t:Nat}{cds:List D}{d d':D}{frs fr':List Fr}(hAC:AP P f cds d frs)(hf:Jh P f=true)
  (hc:D.wks ((ars.toList.map (ev tm)).map (D.ren (idx []) (idx [])))=cds) (htd:Nat.blt t n=true) (hd:nf (d.ren (upN [] bx.length) (upN [] fr.length))=some d') (hfr:nfl (fr++frs)=some fr')
  (k:AL P ops rest ⟨n,(t,d')::tm,bx,fr',ee⟩ Q):AL P ops (⟨some t,.call { callee:=.value (.func f),args:=ars,argTypes:=ats },ty,pos,after,none⟩::rest) ⟨n,tm,bx,fr,ee⟩ Q:=by
 subst hc
 exact J5 (AC.unwk hAC) hf rfl htd hd hfr k
theorem Zh [Known][Dfr]{t:Nat}{cds:List D}{d d':D}{bxs bxs' bx2:List (List D)}(bs:List Nat)(hQ:AQ P f cds bxs d bxs')(hf:Jh P f=true)
  (hc:D.wks ((ars.toList.map (ev tm)).map (D.ren (idx bs) (idx [])))=cds) (hb:Vv bs bx.length=true) (hbx:Qp bs [] bx=bxs) (hle:Nat.ble bs.length bxs'.length=true) (htd:Nat.blt t n=true) (hd:nf (d.ren (upN bs bx.length) (upN [] fr.length))=some d') (hB:nfb (Q6 bs [] bx fr.length bxs')=some bx2)
  (k:AL P ops rest ⟨n,(t,d')::tm,bx2,fr,ee⟩ Q):AL P ops (⟨some t,.call { callee:=.value (.func f),args:=ars,argTypes:=ats },ty,pos,after,none⟩::rest) ⟨n,tm,bx,fr,ee⟩ Q:=by
 subst hc
 exact I4 bs (AC.unwk hQ) hf rfl hb hbx hle htd hd hB k
end
theorem Oq [Known][Dfr]{P:Program}{Q:X->St->Prop}{S:St}{c:Code}{n k:Nat}{ee:Nat × Nat}{J:Nat->List (Nat × D)->List (List D)->List Fr->Prop}
  (h:Lands J n ee k S) (hy:∀ m tm bx fr,J m tm bx fr->AW P c ⟨n,tm,bx,fr,ee⟩ Q):AW P c S Q:=by
 refine⟨fun b0 g a w hi=>?_⟩
 obtain⟨m,hm,tm,bx,fr,g',hJ,hi'⟩:=h.inv hi
 exact(hy m tm bx fr hJ).run b0 g' a w hi'
theorem VQ [Known][Dfr]{P:Program}{Q:X->St->Prop}{n:Nat}{ee:Nat × Nat}{tm0:List (Nat × D)}{bx0:List (List D)}{fr0:List Fr}{r x z y:Code}(t:Nat)(J:List (Nat × D)->List (List D)->List Fr->Prop)
  (hy:∀ tm bx fr,J tm bx fr->AW P y ⟨n,tm,bx,fr,ee⟩ Q) (hx:AW P (.seq r (.cond (.tmp t) x z)) ⟨n,tm0,bx0,fr0,ee⟩ (X.then (Lands (fun _=>J) n ee 1) Q)):AW P (.seq (.seq r (.cond (.tmp t) x z)) y) ⟨n,tm0,bx0,fr0,ee⟩ Q:=
 Wb (JU hx fun x S h=>by
  cases x with
  | norm=>exact Oq h fun _=>hy
  | _=>exact h)
end Go.Av
end
section
open Go.RowKit Go.Pl
namespace Go.Av
end Go.Av
end
section
open Go.RowKit Go.Pl
namespace Go.Av
theorem Uw [Known]{g:G}{w w':World}{e:Ending}{d:D}{v:Value}(hm:Mem g [] [] w)(hb:Below w.heap.size w w')(he:e=.returned v)(hv:V w g [] d v) :
  ∃ g' bx' fr' r,Evo ⟨g,[],w⟩ ⟨g',fr',w'⟩/\Mem g' bx' fr' w'/\R.is w' g' fr' e r/\(r=.ret d/\bx'=[]/\fr'=[]):=by
 have hρ:g.ρ=[]:=List.length_eq_zero_iff.1 hm.bl
 have hτ:g.τ=[]:=List.length_eq_zero_iff.1 hm.tl
 have hevo:Evo ⟨g,[],w⟩ ⟨g,[],w'⟩:=⟨hb.os,hb.tape,hb.output,hb.size,fun k hk _=>hb.block k hk,fun _ _ h=>h,fun k o hk=>World.cell?_of_block (hb.block k (hm.Clt k o hk)),fun _ _ h=>.inl h,fun _ _ h=>h,fun _ h=>.inl h,fun _ c h=>.inl ⟨c,h⟩,fun i f h=>by simp at h⟩
 exact⟨g,[],[],.ret d,hevo,⟨hm.bl,fun i k cs h=>by simp[hρ]at h,hm.bC,hm.bN,hm.tl,fun i k c f h=>by simp[hτ]at h,hm.tN,hm.tρ,fun k o hk=>Nat.lt_of_lt_of_le (hm.Clt k o hk) hb.size,hm.gl.evo hevo⟩,⟨v,he,hv.evo hevo⟩,rfl,rfl,rfl⟩
section
variable {P:Program} {Q:X->St->Prop} {n:Nat} {ee:Nat × Nat} {tm:List (Nat × D)} {bx bx':List (List D)} {fr fr':List Fr} {b0:Bs} {g:G} {w:World} {a:Act} {T:Tab}
variable {ops:Array Oper} {rest:List Oper} {t ty:Nat} {pos:String} {after:Array Edge}
theorem YI [Known][Dfr](hT:chk P T=true){x:Operand}{st:Nat}{s s2:List UInt8}{lo hi':Option Operand}{p q:Nat}{ti:Ti}(hx:ev tm x=.str s)(ht:tl T st=some ti)(hk:ti.kd=.str)(htd:Nat.blt t n=true)
  (hlo:Bnd tm lo 0 p) (hhi:Bnd tm hi' s.length q) (hpq:p<=q) (hq:q<=s.length) (hs2:(s.take q).drop p=s2)
  (kk:AL P ops rest ⟨n,(t,.str s2)::tm,bx,fr,ee⟩ Q):AL P ops (⟨some t,.slice st x lo hi' none,ty,pos,after,none⟩::rest) ⟨n,tm,bx,fr,ee⟩ Q:=
 Z6 _ htd (fun g a w hi=>by
  have h1:V w g fr (ev tm x) (a.eval x):=hi.ev x
  rw[hx]at h1
  obtain⟨h1,hl⟩:=h1.str_inv
  have hu:=(Z9 hT ht).str hk
  have hsz:(⟨s.toArray⟩:ByteArray).size=s.length:=by show s.toArray.size=_;simp
  have hb:=Bnd.runs (S:=⟨n,tm,bx,fr,_⟩) (P:=P) (cap:=s.length) hlo hhi hi hpq hq false
  refine⟨.string ⟨s2.toArray⟩,?_,.str _ (by subst hs2;simp;omega)⟩
  have hex:(⟨s.toArray⟩:ByteArray).extract p q=⟨s2.toArray⟩:=by
   apply ByteArray.ext
   subst hs2
   apply Array.ext'
   simp[ByteArray.data_extract,List.extract_eq_take_drop,List.drop_take]
  have hrun:(Instr.sliceAt st (.string ⟨s.toArray⟩) (lo.map a.eval) (hi'.map a.eval) none).run P w=.ok (.string ⟨s2.toArray⟩) w:=by
   simp[Instr.sliceAt,Instr.slice,Sem.run_bind,run_underlying hu,hsz,hb,hex]
  simp only[execOp,h1,Sem.run_bind,Option.map_none,hrun,Result.andThen_ok]
  rfl) kk
end
end Go.Av
end
section
open Go.RowKit Go.Pl
namespace Go.Av
def AN [Known][Dfr](P:Program)(c:Code)(Q:X->St->Prop):Nat->St->Prop
 | 0,_=>False
 | n+1,S=>AW P c S (X.then (AN P c Q n) Q)
structure ANs [Known][Dfr](P:Program) (c:Code) (Q:X->St->Prop) (n:Nat) (S:St):Prop where
 run:AN P c Q n S
theorem YE [Known][Dfr]{P:Program}{c:Code}{Q:X->St->Prop}{n:Nat}{S:St}(h:AW P c S (X.then (ANs P c Q n) Q)):ANs P c Q (n+1) S:=
 ⟨JU h fun x S hx=>by
  cases x with
  | norm=>exact hx.run
  | _=>exact hx⟩
theorem XS [Known][Dfr]{P:Program}{c:Code}{Q:X->St->Prop}{b0:Bs}:∀(n:Nat) (S:St) (g:G) (a:Act) (w:World),AN P c Q n S->Inv b0 S g a w->Code.rounds P c (UP b0 Q) n a w
 | 0,_,_,_,_,h,_=>h.elim
 | n+1,S,g,a,w,h,hi=>by
  rw[rounds_succ]
  refine wp_mono (AW.run (show AW P c S (X.then (AN P c Q n) Q) from h) b0 g a w hi) fun e a w hc=>?_
  cases e<;>simp only[UP,X.then,Exit.then]at hc ⊢
  ·obtain⟨S',g',hi',h'⟩:=hc
   exact XS n S' g' a w h' hi'
  all_goals exact hc
theorem Yi [Known][Dfr]{P:Program}{c:Code}{Q:X->St->Prop}{S:St}(n:Nat)(h:ANs P c Q n S):AW P (.loop c) S Q:=
 ⟨fun b0 g a w hi=>wp_loop_rounds n (XS n S g a w h.run hi)⟩
end Go.Av
end
section
open Go.RowKit Go.Pl
namespace Go.Av
def AT [Known](P:Program)(f:FuncId)(args:List D)(bx:List (List D))(fr:List Fr)(d:D)(bx':List (List D))(fr':List Fr):Prop:=AC P f args bx fr fun r b t=>r=.ret d/\b=bx'/\t=fr'
theorem Yc {P:Program}{rs:List ResultVar}{S:St}{d d':D}{ds:List D}{bx' B:List (List D)}{fr' F:List Fr}{k m:Nat}(bs ts:List Nat)(h:ResL P S rs ds)(hb:Vv bs S.bx.length=true)(ht:Vv ts S.fr.length=true)(hk:Xa k bs=true)(hm:Xa m ts=true)
  (hn:nf ((Q5 ds).ren (idx bs) (idx ts))=some d') (hB:nfb (Qp bs ts S.bx)=some B) (hF:nfl (VY ts S.fr)=some F) (hd:d'=d) (hB':B=bx') (hF':F=fr') :
  QV P rs k m (fun r b t=>r=.ret d/\b=bx'/\t=fr') .ret S:=
 ⟨ds,bs,ts,h,Wq hb,Wq ht,Uv hk,Uv hm,by rw[YZ hn,hd],by rw[Vo hB,hB'],by rw[YO hF,hF']⟩
theorem Vh {P:Program}{rs:List ResultVar}{S:St}{d d':D}{ds:List D}{bx' B:List (List D)}{fr' F:List Fr}{k m:Nat}(bs ts:List Nat)(h:ResL P S rs ds)(hb:Vv bs S.bx.length=true)(ht:Vv ts S.fr.length=true)(hk:Xa k bs=true)(hm:Xa m ts=true)
  (hn:nf ((Q5 ds).ren (idx bs) (idx ts))=some d') (hB:nfb (Qp bs ts S.bx)=some B) (hF:nfl (VY ts S.fr)=some F) (hd:d'=d) (hB':B=bx') (hF':F=fr') :
  QV P rs k m (fun r b t=>r=.ret d/\b=bx'/\t=fr') .norm S:=
 ⟨ds,bs,ts,h,Wq hb,Wq ht,Uv hk,Uv hm,by rw[YZ hn,hd],by rw[Vo hB,hB'],by rw[YO hF,hF']⟩
section
variable {P:Program} {Q:X->St->Prop} {n:Nat} {ee:Nat × Nat} {tm:List (Nat × D)} {bx:List (List D)} {fr:List Fr} {ops:Array Oper} {rest:List Oper} {ty:Nat} {pos:String} {after:Array Edge} {f:FuncId} {ars:Array Operand} {ats:Array TypeId}
theorem Zm [Known][Dfr]{t:Nat}{cds:List D}{d d':D}{bxs bxs' bx2:List (List D)}{frs frs' fr2:List Fr}(bs ts:List Nat)(hQ:AT P f cds bxs frs d bxs' frs')(hf:Jh P f=true)
  (hc:(ars.toList.map (ev tm)).map (D.ren (idx bs) (idx ts))=cds) (hb:Vv bs bx.length=true) (ht:Vv ts fr.length=true) (hbx:Qp bs ts bx=bxs) (hfr:VY ts fr=frs) (hle:Nat.ble bs.length bxs'.length=true) (htd:Nat.blt t n=true)
  (hd:nf (d.ren (upN bs bx.length) (upN ts fr.length))=some d') (hB:nfb (Q6 bs ts bx fr.length bxs')=some bx2) (hF:nfl (Us ts fr frs')=some fr2)
  (k:AL P ops rest ⟨n,(t,d')::tm,bx2,fr2,ee⟩ Q):AL P ops (⟨some t,.call { callee:=.value (.func f),args:=ars,argTypes:=ats },ty,pos,after,none⟩::rest) ⟨n,tm,bx,fr,ee⟩ Q:=by
 refine Ki bs ts hf hQ hc (Wq hb) (Wq ht) hbx hfr htd (fun _ _ _ h=>by cases h.1) fun d0 bx' fr' h=>?_
 obtain⟨h1,rfl,rfl⟩:=h
 injection h1 with h1
 subst h1
 refine⟨Nat.le_of_ble_eq_true hle,?_⟩
 have e1:=YZ hd
 have e2:=Vo hB
 have e3:=YO hF
 subst e1 e2 e3
 exact k
end
end Go.Av
end
section
open Go.RowKit Go.Pl
namespace Go.Av
def Hf (t:Option Nat)(d:D)(tm:List (Nat × D)):List (Nat × D):=match t with
 | some t=>(t,d)::tm
 | none=>tm
def Ta (t:Option Nat)(n:Nat):Bool:=match t with
 | some t=>Nat.blt t n
 | none=>true
def Kl [Known](P:Program)(rs:List ResultVar)(t:Option Nat)(n:Nat)(tm:List (Nat × D))(ee:Nat × Nat)(ops:Array Oper)(rest:List Oper)(Q:X->St->Prop):X->St->Prop
 | .norm,S=>∃ ds d,ResL P S rs ds/\Q5 ds=d/\AL P ops rest ⟨n,Hf t d tm,S.bx,S.fr,ee⟩ Q
 | .ret,S=>∃ ds d,ResL P S rs ds/\Q5 ds=d/\AL P ops rest ⟨n,Hf t d tm,S.bx,S.fr,ee⟩ Q
 | .pan d,S=>Q (.pan d) ⟨n,tm,S.bx,S.fr,ee⟩
 | _,_=>False
section
variable {P:Program} {Q:X->St->Prop} {n:Nat} {ee:Nat × Nat} {tm:List (Nat × D)} {bx:List (List D)} {fr:List Fr} {ops:Array Oper} {rest:List Oper}
theorem Z4 [Known]{rs:List ResultVar}{t:Nat}{S:St}{ds:List D}{d:D}(h:ResL P S rs ds)(hn:nf (Q5 ds)=some d)(k:AL P ops rest ⟨n,(t,d)::tm,S.bx,S.fr,ee⟩ Q):Kl P rs (some t) n tm ee ops rest Q .ret S:=
 ⟨ds,d,h,YZ hn,k⟩
theorem TW [Known]{t:Option Nat}{ty:Nat}{pos:String}{after:Array Edge}{f:FuncId}{ars:Array Operand}{ats:Array TypeId}{fn:Func}{c:Code}{n':Nat}{rs:List ResultVar}{cds:List D}
  (hf:P.funcs[f]?=some fn) (hn:fn.ntmps=n') (hb:fn.body=some c) (hr:fn.results=rs.toArray) (hif:Jh P f=true) (hc:nfs (ars.toList.map (ev tm))=some cds) (hl:Nat.ble cds.length n'=true) (ht:Ta t n=true)
  (h:AW P c ⟨n',VZ 0 cds,bx,fr,(bx.length,fr.length)⟩ (Kl P rs t n tm ee ops rest Q)):AL P ops (⟨t,.call { callee:=.value (.func f),args:=ars,argTypes:=ats },ty,pos,after,none⟩::rest) ⟨n,tm,bx,fr,ee⟩ Q:=by
 refine⟨fun b0 g a w hi=>?_⟩
 refine wpList_plain rfl fun K hK=>?_
 have hrun:(execOp a.eval ⟨t,.call { callee:=.value (.func f),args:=ars,argTypes:=ats },ty,pos,after,none⟩).run P w=.ok (.enter f (ars.toList.map a.eval).toArray) w:=by
  have e:ars.map a.eval=(ars.toList.map a.eval).toArray:=by rw[<- Array.toList_map,Array.toArray_toList]
  have hz:=VK hif (ars.toList.map a.eval).toArray w
  rw[<- e]at hz ⊢
  simpa[execOp,resolve,Act.eval,Deferred.ofValue,invoke,Sem.run_bind]using hz
 unfold Oper.wp
 rw[hrun]
 have hm:=hi.mem
 have hcds:=Vl hc
 have hle:=Nat.le_of_ble_eq_true hl
 have hlen:(ars.toList.map a.eval).length=cds.length:=by rw[<- hcds];simp
 have hv:=evs hi ars
 rw[hcds]at hv
 show Calls P f _ w _
 clear hrun
 generalize ars.toList.map a.eval=vs at hlen hv
 refine calls_of_wp hf hb ?_
 have hi2:Inv ⟨g,fr,w⟩ ⟨n',VZ 0 cds,bx,fr,(bx.length,fr.length)⟩ g { tmps:=vs.toArray++Array.replicate (fn.ntmps-vs.toArray.size) undef,defers:=[] } w:=by
  refine⟨by simp[hn];omega,rfl,hm,fun t=>?_,Evo.refl _,by rw[hm.bl];exact Nat.le_refl _,Nat.le_refl _⟩
  rw[Qq]
  simp only[Nat.zero_le,if_true,Nat.sub_zero]
  cases htt:cds[t]? with
  | none=>exact .junk _
  | some d=>
   have hlt:t<cds.length:=(List.getElem?_eq_some_iff.1 htt).1
   refine hv t d _ htt ?_
   have hlt2:t<vs.length:=by omega
   simp[Array.getD_getElem?,Array.getElem?_append,hlt2]
 refine wp_mono (h.run ⟨g,fr,w⟩ g _ w hi2) fun e a' w' hcc=>?_
 have fin:∀ S g',Inv ⟨g,fr,w⟩ S g' a' w'->(∃ ds d,ResL P S rs ds/\Q5 ds=d/\AL P ops rest ⟨n,Hf t d tm,S.bx,S.fr,ee⟩ Q)->∃ v,(results fn a'.tmps).run P w'=.ok v w'/\K (a.put t v) w':=by
  intro S g' hi' hq
  obtain⟨ds,d,hrs,hd,hk⟩:=hq
  obtain⟨v,hrun,hv⟩:=Qr hi' hr hrs
  rw[hd]at hv
  refine⟨v,hrun,hK _ _ (hk.run b0 g' _ w' ?_)⟩
  have hi3:Inv b0 ⟨n,tm,S.bx,S.fr,ee⟩ g' a w':=⟨hi.size,hi.defers,hi'.mem,fun t=>(hi.tm t).evo hi'.evo,hi.evo.trans hi'.evo,hi.bd⟩
  cases t with
  | none=>exact hi3
  | some t=>exact hi3.put ht hv
 cases e with
 | normal=>
  obtain⟨S,g',hi',hq⟩:=hcc
  obtain⟨v,h1,h2⟩:=fin S g' hi' hq
  exact⟨hi'.defers,v,h1,h2⟩
 | ret=>
  obtain⟨S,g',hi',hq⟩:=hcc
  obtain⟨v,h1,h2⟩:=fin S g' hi' hq
  exact⟨hi'.defers,v,h1,h2⟩
 | panic chain=>
  obtain⟨S,g',v,d,hi',rfl,hd,hq⟩:=hcc
  exact⟨hi'.defers,⟨n,tm,S.bx,S.fr,ee⟩,g',v,d,⟨hi.size,hi.defers,hi'.mem,fun t=>(hi.tm t).evo hi'.evo,hi.evo.trans hi'.evo,hi.bd⟩,rfl,hd,hq⟩
 | exit id=>obtain⟨S,g',hi',hq⟩:=hcc;exact hq.elim
 | goto l=>obtain⟨S,g',hi',hq⟩:=hcc;exact hq.elim
 | outgrown=>exact hcc.elim
end
section
variable {P:Program} {Q:X->St->Prop} {n:Nat} {ee:Nat × Nat} {tm:List (Nat × D)} {bx bx':List (List D)} {fr fr':List Fr} {b0:Bs} {g:G} {w:World} {a:Act} {T:Tab}
variable {ops:Array Oper} {rest:List Oper} {t ty:Nat} {pos:String} {after:Array Edge}
theorem Mem.lit2 [Known](hm:Mem g bx fr w)(cur:List Value)(l:List E)(sz cap:Nat)(e:TypeId)(mk:Nat × Nat)(hcur:l.length*sz<=cur.length)(hl:l.length<=cap)(hcap:cap<=maxLen)(hU:Uni sz l)
  (hv:∀(j:Nat) (x:E) (u:Value),(flat l)[j]?=some x->cur[j]?=some u->VE w g.C x u) :
  Evo ⟨g,fr,w⟩ ⟨g.lit w (l.length*sz),fr,w.alloc (.cells cur.toArray e mk)⟩/\Mem (g.lit w (l.length*sz)) bx fr (w.alloc (.cells cur.toArray e mk)) /\
   V (w.alloc (.cells cur.toArray e mk)) (g.lit w (l.length*sz)) fr (.sl .ext l) (.slice (some ⟨w.heap.size,0,none⟩) l.length cap):=by
 have hevo:Evo ⟨g,fr,w⟩ ⟨g.lit w (l.length*sz),fr,w.alloc (.cells cur.toArray e mk)⟩:=by
  refine⟨rfl,rfl,rfl,by simp,fun k hk _=>Below.heap_alloc w _ k hk,fun _ _ h=>.inl h,fun k o h=>Vy w _ (hm.Clt k o h) o,fun k o h=>?_,fun _ _ h=>h,fun _ h=>.inl h,fun k c h=>.inl ⟨c,h⟩,VX.refl _ _⟩
  rcases h with h|⟨h,_⟩
  ·exact .inl h
  ·exact .inr (.inl (by simp[h]))
 have hflat:=hU.flat
 refine⟨hevo,?_,?_⟩
 ·constructor
  ·exact hm.bl
  ·intro i k cs h1 h2
   obtain⟨us,ut,k1,k2,k3⟩:=hm.bat i k cs h1 h2
   exact⟨us,ut,(Below.heap_alloc w _ k (Array.getElem?_eq_some_iff.1 k1).1).trans k1,k2,fun j d v hd hv=>(k3 j d v hd hv).evo hevo⟩
  ·intro k o hk hC
   rcases hC with hC|⟨hC,_⟩
   ·exact hm.bC k o hk hC
   ·have:=hm.lt (.inl hk);omega
  ·exact hm.bN
  ·exact hm.tl
  ·intro i k c f h1 h2
   have hTk:=hm.tat i k c f h1 h2
   obtain⟨cur',s1,s2⟩:=hTk.row
   have hklt:=(Array.getElem?_eq_some_iff.1 s1).1
   refine⟨⟨cur',(Below.heap_alloc w _ k hklt).trans s1,s2⟩,hTk.le,hTk.max,fun o ho hC=>?_⟩
   rcases hC with hC|⟨hC,_⟩
   ·exact hTk.far o ho hC
   ·omega
  ·exact hm.tN
  ·exact hm.tρ
  ·intro k o hC
   rcases hC with hC|⟨hC,_⟩
   ·have:=hm.Clt k o hC;simp;omega
   ·simp[hC]
  ·exact hm.gl.evo hevo
 ·refine .sl _ _ _ (.slC l w.heap.size 0 cap (fun j=>cur.getD j undef) hl hcap (fun j hj=>.inr ⟨rfl,by rw[hflat]at hj;omega⟩) (fun j hj=>?_) (fun j x hx=>?_)) trivial
  ·rw[Nat.zero_add,World.cell?_alloc_mark]
   have:j<cur.length:=by omega
   simp[List.getD,this]
  ·have hj:=(List.getElem?_eq_some_iff.1 hx).1
   have hlt:j<cur.length:=by omega
   refine(hv j x _ hx (by rw[List.getElem?_eq_getElem hlt];simp[List.getD,hlt])).mono (fun _ _ h=>.inl h) fun k o h=>Vy w _ (hm.Clt k o h) o
theorem Ot [Known][Dfr](hT:chk P T=true){x:Operand}{src dst e:Nat}{s:List UInt8}{ti td te:Ti}(hx:ev tm x=.str s)(ht:tl T src=some ti)(hk:ti.kd=.str)(htds:tl T dst=some td)(hkd:td.kd=.slice e)(hte:tl T e=some te)(hke:te.kd=.int .u8)(htd:Nat.blt t n=true)
  (k:AL P ops rest ⟨n,(t,.sl .ext (s.map E.byte))::tm,bx,fr,ee⟩ Q):AL P ops (⟨some t,.convert src dst x,ty,pos,after,none⟩::rest) ⟨n,tm,bx,fr,ee⟩ Q:=
 Jj _ htd (fun g a w hi=>by
  have h1:V w g fr (ev tm x) (a.eval x):=hi.ev x
  rw[hx]at h1
  obtain⟨h1,hl⟩:=h1.str_inv
  have hs:=(Z9 hT ht).str hk
  have hd:=(Z9 hT htds).slice hkd
  have he:=(Z9 hT hte).int hke
  have hsz:(⟨s.toArray⟩:ByteArray).size=s.length:=by show s.toArray.size=_;simp
  have hrun:=run_bytes_of_string (P:=P) w src dst e ⟨s.toArray⟩ hs hd he
  rw[hsz]at hrun
  have hge:=grownCap_ge w s.length 0 e
  have hcm:=grownCap_le_maxLen w s.length 0 e hl
  generalize grownCap w s.length 0 e=C at hrun hge hcm
  have hrow:bytesRow ⟨s.toArray⟩ C=(bytesRow ⟨s.toArray⟩ C).toList.toArray:=by simp
  rw[hrow]at hrun
  have hcell:∀ j,j<s.length->(bytesRow ⟨s.toArray⟩ C).toList[j]?=some (.int .u8 ((s[j]?.getD 0).toNat:Int)):=fun j hj=>by
   simp only[bytesRow,Array.toList_append,Array.toList_map,List.toList_toArray,Array.toList_replicate]
   rw[List.getElem?_append_left (by simpa using hj)]
   simp[hj]
  have hlen:s.length<=(bytesRow ⟨s.toArray⟩ C).toList.length:=by
   simp[bytesRow]
  have hfl:∀ l:List UInt8,flat (l.map E.byte)=l.map E.byte:=fun l=>by induction l with|nil=>rfl|cons x l ih=>simp[E.cells,ih]
  obtain⟨k1,k2,k3⟩:=(hi.mem.drew).lit2 (bytesRow ⟨s.toArray⟩ C).toList (s.map E.byte) 1 C e ((bytesRow ⟨s.toArray⟩ C).toList.toArray.size,(bytesRow ⟨s.toArray⟩ C).toList.toArray.size+1) (by simpa using hlen) (by simpa using hge) hcm (Uni.map (f:=E.byte) (fun _=>rfl) s) (fun j x u hx hu=>by
   rw[hfl]at hx
   have hj:j<s.length:=by have:=(List.getElem?_eq_some_iff.1 hx).1;simpa using this
   rw[hcell j hj]at hu
   injection hu with hu
   subst hu
   rw[List.getElem?_map,List.getElem?_eq_getElem hj]at hx
   simp at hx
   subst hx
   simp[hj]
   exact .int _ _)
  refine⟨.slice (some ⟨w.heap.size,0,none⟩) (s.map E.byte).length C,_,_,?_,Evo.drew.trans k1,k2,k3⟩
  rw[List.length_map]
  simp only[execOp,h1,Sem.run_bind,hrun,Result.andThen_ok]
  rfl) k
theorem I5 [Known][Dfr]{x y:Operand}{k0 k1:IntKind}{m q:Int}{ats:Array TypeId}(hx:ev tm x=.int k0 m)(hy:ev tm y=.int k1 q)(htd:Nat.blt t n=true)
  (k:AL P ops rest ⟨n,(t,.int k0 (if q>m then q else m))::tm,bx,fr,ee⟩ Q):AL P ops (⟨some t,.call { callee:=.builtin .max,args := #[x,y],argTypes:=ats },ty,pos,after,none⟩::rest) ⟨n,tm,bx,fr,ee⟩ Q:=
 Z6 _ htd (fun g a w hi=>by
  have h1:V w g fr (ev tm x) (a.eval x):=hi.ev x
  have h2:V w g fr (ev tm y) (a.eval y):=hi.ev y
  rw[hx]at h1
  rw[hy]at h2
  have h1:=h1.int_inv
  have h2:=h2.int_inv
  exact⟨.int k0 (if q>m then q else m),by simp[execOp,resolve,invoke,builtin,Builtin.max_,Builtin.max2,Sem.run_bind,h1,h2],.int _ _⟩) k
end
end Go.Av
end
section
open Go.RowKit Go.Pl
namespace Go.Av
section
variable {P:Program} {Q:X->St->Prop} {n:Nat} {ee:Nat × Nat} {tm:List (Nat × D)} {bx:List (List D)} {fr:List Fr}
variable {ops:Array Oper} {rest:List Oper} {t ty:Nat} {pos:String} {after:Array Edge}
theorem Xb [Known][Dfr]{op:BinOp}{x:Operand}{xt yt:Nat}{d:D}(hx:ev tm x=.nili)(hu:P.underlying xt=some (.interface (P.methodsAt xt)))(hd:(match op with | .eql=>some (D.bool true) | .neq=>some (D.bool false)|_=>none)=some d)(htd:Nat.blt t n=true)
  (k:AL P ops rest ⟨n,(t,d)::tm,bx,fr,ee⟩ Q):AL P ops (⟨some t,.binOp op xt x (.const .nilIface) yt,ty,pos,after,none⟩::rest) ⟨n,tm,bx,fr,ee⟩ Q:=
 Z6 _ htd (fun g a w hi=>by
  have h1:V w g fr (ev tm x) (a.eval x):=hi.ev x
  rw[hx]at h1
  have h1:a.eval x=.nilIface:=by
   generalize a.eval x=v at h1
   cases h1 with|nili=>rfl
  have h2:a.eval (.const .nilIface)=.nilIface:=rfl
  have hrun:(Op.equal xt .nilIface .nilIface).run P w=.ok true w:=run_equal_nil_nil w xt hu
  cases op<;>simp at hd<;>subst hd<;>first|exact⟨.bool true,by simp[execOp,h1,h2,eqGuard,binOp,Sem.run_bind,hrun],.bool _⟩ | exact⟨.bool false,by simp[execOp,h1,h2,eqGuard,binOp,Sem.run_bind,hrun],.bool _⟩) k
end
end Go.Av
end
