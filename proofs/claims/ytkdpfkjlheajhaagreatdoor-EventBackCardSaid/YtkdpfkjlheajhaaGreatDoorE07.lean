/- From the form's own reading of arguments to trees; from a contract over abstract states to the row's walk. -/
import Derived.Test.YtkdpfkjlheajhaaGreatDoorE06
import Derived.Test.YtkdpfkjlheajhaaGreatDoorE01
import Derived.ScopeJumps
import Derived.Lib.SlBytesConst
import Derived.Laws.IdiomStrings
import Derived.LoopN
import Derived.WideLaws
set_option linter.unusedSimpArgs false
set_option linter.unusedVariables false
section
open Go.RowKit Go.Pl
namespace Go.Av
section
variable {P:Program} {Q:X->St->Prop} {n:Nat} {ee:Nat × Nat} {tm:List (Nat × D)} {bx bx':List (List D)} {fr fr':List Fr} {b0:Bs} {g:G} {w:World} {a:Act} {T:Tab}
variable {ops:Array Oper} {rest:List Oper} {t ty:Nat} {pos:String} {after:Array Edge}
theorem NP {parts:Array (Nat × Operand)}{len:Nat}(h:parts.toList.map (·.1)=List.range len):parts=(((parts.toList.map (·.2)).zipIdx 0).map fun q=>(q.2,q.1)).toArray/\(parts.toList.map (·.2)).length=len:=by
 have hl:parts.toList.length=len:=by have:=congrArg List.length h;simpa using this
 refine⟨?_,by simpa using hl⟩
 apply Array.ext'
 apply List.ext_getElem?
 intro i
 simp only[List.getElem?_map,List.getElem?_zipIdx,Nat.zero_add]
 cases hi:parts.toList[i]? with
 | none=>simp
 | some p=>
  have h1:(parts.toList.map (·.1))[i]?=some p.1:=by simp[hi]
  rw[h]at h1
  obtain⟨q1,q2⟩:=List.getElem?_eq_some_iff.1 h1
  simp at q2
  simp[q2]
theorem Oj [Known][Dfr](hT:chk P T=true){st len e:Nat}{ds:List D}{es:List E}{ti te:Ti}{m:Nat}{parts:Array (Nat × Operand)}(ht:tl T st=some ti)(hk:ti.kd=.slice e)(hte:tl T e=some te)(hp:parts.toList.map (·.1)=List.range len)
  (hds:nfs (parts.toList.map fun p=>ev tm p.2)=some ds) (hes:D.toEl ds=some es) (hU:G3 te.size es=true) (hpos:Nat.blt 0 te.size=true) (hsm:Nat.ble (len*te.size) 16777216=true) (hm:fr.length=m) (hf:nfl (fr++[⟨len,te.size,e⟩])=some fr') (htd:Nat.blt t n=true)
  (k:AL P ops rest ⟨n,(t,.sl (.own m) es)::tm,bx,fr',ee⟩ Q):AL P ops (⟨some t,.buildSlice st len parts,ty,pos,after,none⟩::rest) ⟨n,tm,bx,fr,ee⟩ Q:=by
 obtain⟨h1,h2⟩:=NP hp
 exact K4 hT ht hk hte h1 (by rw[h2];exact Nat.beq_refl len) (by rw[List.map_map];exact hds) hes hU hpos hsm hm hf htd k
end
theorem Yi [Known][Dfr]{P:Program}{l:List Oper}{n:Nat}{bx:List (List D)}{fr:List Fr}{o:Oper}{rest:List Oper}{t:Nat}{d:D}{tm tm' tm2:List (Nat × D)}(hd:o.dst=some t)(ht:Nat.blt t n=true)(h2:nfl (Yx l o tm)=some tm2)
  (h:AL P l.toArray [o] ⟨n,tm2,bx,fr,(bx.length,fr.length)⟩ (qp t d bx fr)) (k:AD P l n bx fr rest ((t,d)::tm) tm'):AD P l n bx fr (o::rest) tm tm':=
 .cons o rest t d tm tm' hd ht (by rw[YV h2];exact h) k
theorem AP.weak [Known]{P:Program}{f:FuncId}{args:List D}{d:D}(h:AC P f args [] [] fun r bx fr=>∃ d0,r=.ret d0/\d0.wk=d/\bx=[]/\fr=[]):AP P f args d []:=by
 refine⟨fun g w vs hm hl hv=>(h.run g w vs hm hl hv).mono fun e w' ⟨g',bx',fr',r,h1,h2,h3,d0,h4,h5,h6,h7⟩=>?_⟩
 subst h4 h5 h6 h7
 obtain⟨v,rfl,hv⟩:=h3
 exact⟨g',[],[],.ret d0.wk,h1,h2,⟨v,rfl,hv.wk⟩,rfl,rfl,rfl⟩
theorem R8 {P:Program}{rs:List ResultVar}{S:St}{d d':D}{ds:List D}(h:ResL P S rs ds)(hn:nf (((Ke ds).ren (idx []) (idx [])).wk)=some d')(hd:d'=d) :
  Uq P rs 0 0 (fun r bx fr=>∃ d0,r=.ret d0/\d0.wk=d/\bx=[]/\fr=[]) .ret S:=
 ⟨ds,[],[],h,ZI _,ZI _,fun i h=>by omega,fun i h=>by omega,_,rfl,by rw[Y2 hn,hd],rfl,rfl⟩
structure Lands (J:Nat->List (Nat × D)->List (List D)->List Fr->Prop) (n:Nat) (ee:Nat × Nat) (k:Nat) (S:St):Prop where
 out:∃ m tm bx fr,m<k/\J m tm bx fr/\S.n=n/\S.e=ee/\Sub S.tm tm/\nfb (S.bx.take bx.length)=some bx/\nfl (S.fr.take fr.length)=some fr/\Nat.ble ee.1 bx.length=true/\Nat.ble ee.2 fr.length=true/\Ie bx.length fr.length tm=true/\allLt bx.length fr.length bx=true
theorem Lands.mk' {J:Nat->List (Nat × D)->List (List D)->List Fr->Prop}{n k m:Nat}{ee:Nat × Nat}{tm0 tm:List (Nat × D)}{bx0 bx:List (List D)}{fr0 fr:List Fr}(hm:m<k)(hJ:J m tm bx fr)(hs:Sub tm0 tm)(hbx:nfb (bx0.take bx.length)=some bx)(hfr:nfl (fr0.take fr.length)=some fr)
  (h1:Nat.ble ee.1 bx.length=true) (h2:Nat.ble ee.2 fr.length=true) (h3:Ie bx.length fr.length tm=true) (h4:allLt bx.length fr.length bx=true):Lands J n ee k ⟨n,tm0,bx0,fr0,ee⟩:=⟨m,tm,bx,fr,hm,hJ,rfl,rfl,hs,hbx,hfr,h1,h2,h3,h4⟩
theorem Lands.inv [Known][Dfr]{J:Nat->List (Nat × D)->List (List D)->List Fr->Prop}{n k:Nat}{ee:Nat × Nat}{S:St}(h:Lands J n ee k S){b0:Bs}{g:G}{a:Act}{w:World}(hi:Inv b0 S g a w):∃ m,m<k/\∃ tm bx fr g',J m tm bx fr/\Inv b0 ⟨n,tm,bx,fr,ee⟩ g' a w:=by
 obtain⟨m,tm,bx,fr,h1,h2,h3,h4,h5,h6,h7,h8,h9,h10,h11⟩:=h.out
 obtain⟨n',tm',bx',fr',ee'⟩:=S
 dsimp only at h3 h4 h5 h6 h7
 subst h3 h4
 have e1:=Vk h6
 have e2:=YV h7
 have:=(hi.sub h5).cut (k:=bx.length) (m:=fr.length) (Nat.le_of_ble_eq_true h8) (Nat.le_of_ble_eq_true h9) h10 (by rw[e1];exact h11)
 rw[e1,e2]at this
 exact⟨m,h1,tm,bx,fr,_,h2,this⟩
theorem Yb [Known][Dfr]{P:Program}{Q:X->St->Prop}{c:Code}{n:Nat}{ee:Nat × Nat}{tm0:List (Nat × D)}{bx0:List (List D)}{fr0:List Fr}(J:Nat->List (Nat × D)->List (List D)->List Fr->Prop)
  (k0:Nat) (h0:Lands J n ee k0 ⟨n,tm0,bx0,fr0,ee⟩) (hr:∀ k tm bx fr,J k tm bx fr->AW P c ⟨n,tm,bx,fr,ee⟩ (X.then (Lands J n ee k) Q)):AW P (.loop c) ⟨n,tm0,bx0,fr0,ee⟩ Q:=by
 refine⟨fun b0 g a w hi=>?_⟩
 obtain⟨m,_,tm,bx,fr,g',hJ,hi'⟩:=h0.inv hi
 refine wp_loop_ghost (fun k a w=>∃ tm bx fr g,J k tm bx fr/\Inv b0 ⟨n,tm,bx,fr,ee⟩ g a w) m ⟨tm,bx,fr,g',hJ,hi'⟩ fun k a w hI=>?_
 obtain⟨tm,bx,fr,g,hJ,hi⟩:=hI
 refine wp_mono ((hr k tm bx fr hJ).run b0 g a w hi) fun e a w hc=>?_
 cases e<;>simp only[VC,X.then,Exit.then]at hc ⊢
 ·obtain⟨S',g',hi',hL⟩:=hc
  obtain⟨m,hm,tm,bx,fr,g',hJ,hi'⟩:=hL.inv hi'
  exact⟨m,hm,tm,bx,fr,g',hJ,hi'⟩
 all_goals exact hc
def g0 (W:World):G:=⟨fun b _=>b<W.heap.size,[],[]⟩
theorem BL [Known]{W:World}(hg:Gls (g0 W).C W):Mem (g0 W) [] [] W where
 bl:=rfl
 bat i blk cs h:=by simp[g0]at h
 bC blk o h:=by simp[g0]at h
 bN i j b h:=by simp[g0]at h
 tl:=rfl
 tat i blk cap f h:=by simp[g0]at h
 tN i j b c c' h:=by simp[g0]at h
 tρ b c h:=by simp[g0]at h
 Clt b o h:=h
 gl:=hg
theorem BM [Known]{P:Program}{f:FuncId}{args:List D}(h:AC P f args [] [] fun r _ _=>r=.ret (.bool true)){W:World}{vs:List Value}(hg:Gls (g0 W).C W)(hl:vs.length=args.length)(hv:∀(j:Nat) (d:D) (v:Value),args[j]?=some d->vs[j]?=some v->V W (g0 W) [] d v) :
  Calls P f vs.toArray W fun e w'=>e=.returned (.bool true)/\Below W.heap.size W w':=
 (h.run (g0 W) W vs (BL hg) hl hv).mono fun e w' ⟨g',bx',fr',r,he,_,hr,hp⟩=>by
  subst hp
  obtain⟨v,rfl,hv⟩:=hr
  refine⟨by rw[hv.bool_inv],he.os,he.tape,he.output,he.size,fun k hk=>he.block k hk fun hM=>?_⟩
  rcases hM with h|⟨c,h⟩<;>simp[g0]at h
structure ToE {α:Type} (R:Rep α) (f:α->E):Prop where
 cells:∀(w:World) (S:Nat->Prop) (C:Nat->Nat->Prop) (cs:List Value) (x:α),(∀ k,S k->∀ o,C k o)->R.ok w S cs x->cs.length=(f x).cells.length/\∀(j:Nat) (e:E) (v:Value),(f x).cells[j]?=some e->cs[j]?=some v->VE w C e v
theorem Uw {w:World}{C:Nat->Nat->Prop}{u:Value}{e0:E}(he:e0.cells=[e0])(hv:VE w C e0 u):[u].length=e0.cells.length/\∀(j:Nat) (e:E) (v:Value),e0.cells[j]?=some e->[u][j]?=some v->VE w C e v:=by
 rw[he]
 refine⟨rfl,fun j e v h1 h2=>?_⟩
 cases j with
 | zero=>simp at h1 h2;subst h1 h2;exact hv
 | succ j=>simp at h1
theorem ToE.i64:ToE Rep.i64 (.int .i64):=⟨fun w S C cs x _ h=>by obtain⟨rfl,_⟩:=h;exact Uw rfl (.int _ _)⟩
theorem ToE.u64:ToE Rep.u64 (fun n=>.int .u64 (n:Int)):=⟨fun w S C cs x _ h=>by obtain⟨rfl,_⟩:=h;exact Uw rfl (.int _ _)⟩
theorem ToE.byte:ToE Rep.byte E.byte:=⟨fun w S C cs x _ h=>by cases h;exact Uw rfl (.int _ _)⟩
theorem ToE.bool:ToE Rep.bool .bool:=⟨fun w S C cs x _ h=>by cases h;exact Uw rfl (.bool _)⟩
theorem ToE.str:ToE Rep.str .str:=⟨fun w S C cs x _ h=>by obtain⟨rfl,hl⟩:=h;exact Uw rfl (.str _ hl)⟩
theorem ToE.prod {α β:Type}{R:Rep α}{R':Rep β}{f:α->E}{f':β->E}(h:ToE R f)(h':ToE R' f'):ToE (R.prod R') (fun x=>.agg ((f x.1).cells++(f' x.2).cells)):=⟨fun w S C cs x hC hx=>by
 obtain⟨c1,c2,rfl,h1,h2⟩:=hx
 obtain⟨l1,v1⟩:=h.cells w S C c1 x.1 hC h1
 obtain⟨l2,v2⟩:=h'.cells w S C c2 x.2 hC h2
 refine⟨by simp[E.cells,l1,l2],fun j e v he hv=>?_⟩
 have he:((f x.1).cells++(f' x.2).cells)[j]?=some e:=he
 rcases Nat.lt_or_ge j c1.length with hj|hj
 ·rw[List.getElem?_append_left (by omega)]at he
  rw[List.getElem?_append_left hj]at hv
  exact v1 j e v he hv
 ·rw[List.getElem?_append_right (by omega)]at he
  rw[List.getElem?_append_right hj]at hv
  rw[<- l1]at he
  exact v2 _ e v he hv⟩
theorem ToE.run {α:Type}{R:Rep α}{f:α->E}(h:ToE R f){w:World}{S:Nat->Prop}{C:Nat->Nat->Prop}(hC:∀ k,S k->∀ o,C k o):∀ {l:List α} {cs:List Value},Run R w S cs l->cs.length=(flat (l.map f)).length/\∀(j:Nat) (e:E) (v:Value),(flat (l.map f))[j]?=some e->cs[j]?=some v->VE w C e v
 | [],cs,hr=>by simp[Run]at hr;subst hr;simp
 | x::l,cs,hr=>by
  obtain⟨c1,c2,rfl,h1,h2⟩:=hr
  obtain⟨l1,v1⟩:=h.cells w S C c1 x hC h1
  obtain⟨l2,v2⟩:=ToE.run h hC h2
  refine⟨by simp[l1,l2],fun j e v he hv=>?_⟩
  simp only[List.map_cons,WG]at he
  rcases Nat.lt_or_ge j c1.length with hj|hj
  ·rw[List.getElem?_append_left (by omega)]at he
   rw[List.getElem?_append_left hj]at hv
   exact v1 j e v he hv
  ·rw[List.getElem?_append_right (by omega)]at he
   rw[List.getElem?_append_right hj]at hv
   rw[<- l1]at he
   exact v2 _ e v he hv
theorem ToE.sl {α:Type}{R:Rep α}{f:α->E}(h:ToE R f){w:World}{S:Nat->Prop}{C:Nat->Nat->Prop}(hC:∀ k,S k->∀ o,C k o){v:Value}{l:List α}(hs:Sl R w S v l):VE w C (.sl (l.map f)) v:=by
 obtain⟨A,cap,rfl,h1,h2,cs,hr,hh⟩:=hs
 by_cases hl:l=[]
 ·subst hl
  exact .slE A cap h2
 ·obtain⟨g,off,rfl,hS,hc⟩:=hh hl
  obtain⟨q1,q2⟩:=h.run hC hr
  have:=VE.slC (w:=w) (C:=C) (l.map f) g off cap (fun j=>cs.getD j undef) (by simpa using h1) h2 (fun j hj=>hC g hS _) (fun j hj=>by
   have hj':j<cs.length:=by omega
   rw[hc j hj'];exact getD_some hj') (fun j e he=>q2 j e _ he (getD_some (by
    have:=(List.getElem?_eq_some_iff.1 he).1;omega)))
  simpa using this
theorem ToE.slice {α:Type}{R:Rep α}{f:α->E}(h:ToE R f)(hR:0<R.n):ToE (Rep.slice R hR) (fun l=>.sl (l.map f)):=⟨fun w S C cs x hC hx=>by
 obtain⟨v,rfl,hs⟩:=hx
 exact Uw rfl (h.sl hC hs)⟩
theorem ToE.agg {α:Type}{R:Rep α}{f:α->E}(h:ToE R f){W:World}{cs:List Value}{x:α}{l:List E}(hf:(f x).cells=l)(hx:R.ok W (· < W.heap.size) cs x):V W (g0 W) [] (.agg (l.map .ofE)) (.agg cs.toArray):=by
 obtain⟨h1,h2⟩:=h.cells W _ (g0 W).C cs x (fun k hk o=>hk) hx
 rw[hf]at h1 h2
 refine .agg _ cs (by simpa using h1) fun j d v hd hv=>?_
 rw[List.getElem?_map]at hd
 cases hj:l[j]? with
 | none=>simp[hj]at hd
 | some e=>simp[hj]at hd;subst hd;exact V.ofE (h2 j e v hj hv)
end Go.Av
end
section
open Go.RowKit Go.Pl
namespace Go.Av
section
variable {P:Program} {Q:X->St->Prop} {S:St}
end
section
variable {P:Program} {Q:X->St->Prop} {n:Nat} {ee:Nat × Nat} {tm:List (Nat × D)} {bx bx':List (List D)} {fr fr':List Fr} {b0:Bs} {g:G} {w:World} {a:Act} {T:Tab}
variable {ops:Array Oper} {rest:List Oper} {t ty:Nat} {pos:String} {after:Array Edge}
theorem Ig [Known][Dfr](hT:chk P T=true){op:BinOp}{x:Operand}{xt yt e:Nat}{tk:Tok}{l:List E}{d:Bool->D}{ti:Ti}(hx:ev tm x=.sl tk l)(ht:tl T xt=some ti)(hk:ti.kd=.slice e)(hd:(match op with | .eql=>some (fun b=>D.bool b) | .neq=>some (fun b=>D.bool (!b))|_=>none)=some d)(htd:Nat.blt t n=true)
  (k:∀ b:Bool,(l ≠ []->b=false)->AL P ops rest ⟨n,(t,d b)::tm,bx,fr,ee⟩ Q):AL P ops (⟨some t,.binOp op xt x (.const (.slice none 0 0)) yt,ty,pos,after,none⟩::rest) ⟨n,tm,bx,fr,ee⟩ Q:=by
 refine⟨fun b0 g a w hi=>?_⟩
 have h1:V w g fr (ev tm x) (a.eval x):=hi.ev x
 rw[hx]at h1
 obtain⟨a1,_⟩:=VY h1
 obtain⟨A,cap,hv,hA⟩:∃ A cap,a.eval x=.slice A l.length cap/\(l ≠ []->A.isNone=false):=by
  generalize hq:E.sl l=q at a1
  generalize a.eval x=v at a1
  cases a1 with
  | slC l' b off cap us h1 _ _ _ _=>injection hq with hq;subst hq;exact⟨_,cap,rfl,fun _=>rfl⟩
  | slE A cap h=>injection hq with hq;subst hq;exact⟨A,cap,rfl,fun h=>(h rfl).elim⟩
  | _=>cases hq
 have hu:=(Z6 hT ht).slice hk
 have hrun:(Op.equal xt (.slice A l.length cap) (.slice none 0 0)).run P w=.ok A.isNone w:=Go.run_equal_slice_nil w xt e A l.length cap hu
 have hc0:a.eval (.const (.slice none 0 0))=.slice none 0 0:=rfl
 refine wpList_plain rfl fun K hK=>?_
 have hex:∃ v,(execOp a.eval ⟨some t,.binOp op xt x (.const (.slice none 0 0)) yt,ty,pos,after,none⟩).run P w=.ok (.value v) w/\V w g fr (d A.isNone) v:=by
  cases op<;>simp at hd<;>subst hd<;>first|exact⟨.bool A.isNone,by simp[execOp,hv,hc0,eqGuard,binOp,Sem.run_bind,hrun],.bool _⟩ | exact⟨.bool (!A.isNone),by simp[execOp,hv,hc0,eqGuard,binOp,Sem.run_bind,hrun],.bool _⟩
 obtain⟨v,hr,hvv⟩:=hex
 unfold Oper.wp
 rw[hr]
 exact hK _ _ ((k A.isNone hA).run b0 g _ w (hi.put htd hvv))
def G.lit (g:G)(w:World)(m:Nat):G:=⟨fun b o=>g.C b o\/(b=w.heap.size/\o<m),g.ρ,g.τ⟩
end
end Go.Av
end
section
open Go.RowKit Go.Pl
namespace Go.Av
@[simp] theorem R9 (e:E):(D.ofC e).wk=D.ofC e:=by
 cases e<;>simp only[D.ofC,D.wk]
theorem RC (cs:List D):D.ex (D.wks cs)=D.wks (D.ex cs):=by
 cases hr:D.isRow cs with
 | true=>
  obtain⟨z,l,rfl⟩:=Q7 hr
  show l.map D.ofC=D.wks (l.map D.ofC)
  rw[W1,List.map_map]
  refine List.map_congr_left fun x _=>?_
  exact(R9 x).symm
 | false=>
  rw[Q1 hr,Q1]
  match cs,hr with
  | [],_=>rfl
  | [d],hr=>cases d<;>first|rfl|(simp[D.isRow]at hr)
  | _::_::_,_=>rfl
theorem Lo {cs:List D}{n:Nat}(hf:D.fits cs n):D.fits (D.wks cs) n:=by
 refine⟨by rw[W1,List.length_map];exact hf.1,by rw[RC,W1,List.length_map];exact hf.2.1,fun z l e=>?_⟩
 rw[W1]at e
 rcases cs with _|⟨d,_|⟨d2,r⟩⟩
 ·simp at e
 ·simp at e;exact hf.2.2 z l (by rw[show d=.row z l from by cases d<;>first|exact e|(simp only[D.wk]at e;cases e)])
 ·simp at e
theorem Mem.wk [Known]{g:G}{bx:List (List D)}{fr:List Fr}{w:World}(h:Mem g bx fr w):Mem g (bx.map D.wks) fr w where
 bl:=by rw[h.bl];simp
 bat i blk cs h1 h2:=by
  rw[List.getElem?_map]at h2
  cases hi:bx[i]? with
  | none=>simp[hi]at h2
  | some cs0=>
   simp[hi]at h2;subst h2
   obtain⟨vs,ty,q1,q2,q3⟩:=h.bat i blk cs0 h1 hi
   refine⟨vs,ty,q1,Lo q2,fun j d v hd hv=>?_⟩
   rw[RC,W1,List.getElem?_map]at hd
   cases hj:(D.ex cs0)[j]? with
   | none=>simp[hj]at hd
   | some d0=>simp[hj]at hd;subst hd;exact(q3 j d0 v hj hv).wk
 bC:=h.bC
 bN:=h.bN
 tl:=h.tl
 tat:=h.tat
 tN:=h.tN
 tρ:=h.tρ
 Clt:=h.Clt
 gl:=h.gl
def AQ [Known](P:Program)(f:FuncId)(args:List D)(bx:List (List D))(d:D)(bx':List (List D)):Prop:=AC P f args bx [] fun r b fr=>r=.ret d/\b=bx'/\fr=[]
theorem AQ.weak [Known]{P:Program}{f:FuncId}{args:List D}{bx bx':List (List D)}{d:D}(h:AC P f args bx [] fun r b fr=>∃ d0,r=.ret d0/\d0.wk=d/\b.map D.wks=bx'/\fr=[]):AQ P f args bx d bx':=by
 refine⟨fun g w vs hm hl hv=>(h.run g w vs hm hl hv).mono fun e w' ⟨g',b',fr',r,h1,h2,h3,d0,h4,h5,h6,h7⟩=>?_⟩
 subst h4 h5 h6 h7
 obtain⟨v,rfl,hv⟩:=h3
 exact⟨g',_,[],.ret d0.wk,h1,h2.wk,⟨v,rfl,hv.wk⟩,rfl,rfl,rfl⟩
theorem AP.ofA [Known]{P:Program}{f:FuncId}{args:List D}{d:D}(h:AC P f args [] [] fun r b fr=>∃ d0,r=.ret d0/\d0.wk=d/\b.map D.wks=[]/\fr=[]):AP P f args d []:=AQ.weak h
def VL:List Nat->Nat->Bool
 | [],_=>true
 | b::bs,n=>Nat.blt b n&&(!(bs.any (Nat.beq b))&&VL bs n)
theorem YS:∀ {bs:List Nat} {n:Nat},VL bs n=true->Y5 bs n
 | [],n,_=>ZI n
 | b::bs,n,h=>by
  simp only[VL,Bool.and_eq_true,Nat.blt_eq,Bool.not_eq_true',List.any_eq_false]at h
  obtain⟨h1,h2,h3⟩:=h
  have ih:=YS h3
  have hne:∀ j c:Nat,bs[j]?=some c->c ≠ b:=fun j c hj e=>by
   subst e
   exact h2 c (List.mem_of_getElem? hj) (Nat.beq_refl c)
  refine⟨fun i j c hi hj=>?_,fun c hc=>?_⟩
  ·cases i with
   | zero=>
    cases j with
    | zero=>rfl
    | succ j=>simp at hi hj;subst hi;exact(hne j _ hj rfl).elim
   | succ i=>
    cases j with
    | zero=>simp at hi hj;subst hj;exact(hne i _ hi rfl).elim
    | succ j=>simp at hi hj;rw[ih.1 i j c hi hj]
  ·rcases List.mem_cons.1 hc with rfl|hc
   ·exact h1
   ·exact ih.2 c hc
def XB (k:Nat)(bs:List Nat):Bool:=(List.range k).all fun i=>match bs[i]? with
 | some j=>Nat.beq i j
 | none=>false
theorem Ux {k:Nat}{bs:List Nat}(h:XB k bs=true):∀ i,i<k->bs[i]?=some i:=fun i hi=>by
 have:=List.all_eq_true.1 h i (List.mem_range.2 hi)
 split at this
 ·rename_i j hj
  rw[hj,Nat.eq_of_beq_eq_true this]
 ·cases this
theorem Zs {P:Program}{rs:List ResultVar}{S:St}{d d':D}{ds:List D}{bx' B:List (List D)}{k:Nat}(bs:List Nat)(h:ResL P S rs ds)(hb:VL bs S.bx.length=true)(hk:XB k bs=true)(hn:nf (((Ke ds).ren (idx bs) (idx [])).wk)=some d')(hB:nfb ((UL bs [] S.bx).map D.wks)=some B)(hd:d'=d)(hB':B=bx') :
  Uq P rs k 0 (fun r b fr=>∃ d0,r=.ret d0/\d0.wk=d/\b.map D.wks=bx'/\fr=[]) .ret S:=
 ⟨ds,bs,[],h,YS hb,ZI _,Ux hk,fun i h=>by omega,_,rfl,by rw[Y2 hn,hd],by rw[Vk hB,hB'],rfl⟩
theorem RD {P:Program}{rs:List ResultVar}{S:St}{d d':D}{ds:List D}{bx' B:List (List D)}{k:Nat}(bs:List Nat)(h:ResL P S rs ds)(hb:VL bs S.bx.length=true)(hk:XB k bs=true)(hn:nf (((Ke ds).ren (idx bs) (idx [])).wk)=some d')(hB:nfb ((UL bs [] S.bx).map D.wks)=some B)(hd:d'=d)(hB':B=bx') :
  Uq P rs k 0 (fun r b fr=>∃ d0,r=.ret d0/\d0.wk=d/\b.map D.wks=bx'/\fr=[]) .norm S:=
 ⟨ds,bs,[],h,YS hb,ZI _,Ux hk,fun i h=>by omega,_,rfl,by rw[Y2 hn,hd],by rw[Vk hB,hB'],rfl⟩
section
variable {P:Program} {Q:X->St->Prop} {n:Nat} {ee:Nat × Nat} {tm:List (Nat × D)} {bx:List (List D)} {fr:List Fr} {ops:Array Oper} {rest:List Oper} {ty:Nat} {pos:String} {after:Array Edge} {f:FuncId} {ars:Array Operand} {ats:Array TypeId}
theorem NQ [Known][Dfr]{t:Nat}{cds:List D}{d d':D}{bxs bxs' bx2:List (List D)}(bs:List Nat)(hQ:AQ P f cds bxs d bxs')(hf:Ji P f=true)
  (hc:(ars.toList.map (ev tm)).map (D.ren (idx bs) (idx []))=cds) (hb:VL bs bx.length=true) (hbx:UL bs [] bx=bxs) (hle:Nat.ble bs.length bxs'.length=true) (htd:Nat.blt t n=true) (hd:nf (d.ren (upN bs bx.length) (upN [] fr.length))=some d') (hB:nfb (QX bs [] bx fr.length bxs')=some bx2)
  (k:AL P ops rest ⟨n,(t,d')::tm,bx2,fr,ee⟩ Q):AL P ops (⟨some t,.call { callee:=.value (.func f),args:=ars,argTypes:=ats },ty,pos,after,none⟩::rest) ⟨n,tm,bx,fr,ee⟩ Q:=by
 refine Jj bs [] hf hQ hc (YS hb) (ZI _) hbx rfl htd (fun _ _ _ h=>by cases h.1) fun d0 bx' fr' h=>?_
 obtain⟨h1,rfl,rfl⟩:=h
 injection h1 with h1
 subst h1
 refine⟨Nat.le_of_ble_eq_true hle,?_⟩
 have e1:=Y2 hd
 have e2:=Vk hB
 subst e1 e2
 simpa[St.aft,Uv,Ve]using k
end
theorem AC.unwk [Known]{P:Program}{f:FuncId}{args:List D}{bx:List (List D)}{fr:List Fr}{post:R->List (List D)->List Fr->Prop}(h:AC P f (D.wks args) bx fr post):AC P f args bx fr post:=
 ⟨fun g w vs hm hl hv=>h.run g w vs hm (by rw[W1];simpa using hl) fun j d v hd hvv=>by
  rw[W1,List.getElem?_map]at hd
  cases hj:args[j]? with
  | none=>simp[hj]at hd
  | some d0=>simp[hj]at hd;subst hd;exact(hv j d0 v hj hvv).wk⟩
section
variable {P:Program} {Q:X->St->Prop} {n:Nat} {ee:Nat × Nat} {tm:List (Nat × D)} {bx:List (List D)} {fr:List Fr} {ops:Array Oper} {rest:List Oper} {ty:Nat} {pos:String} {after:Array Edge} {f:FuncId} {ars:Array Operand} {ats:Array TypeId}
theorem Zb [Known][Dfr]{t:Nat}{cds:List D}{d d':D}{frs fr':List Fr}(hAC:AP P f cds d frs)(hf:Ji P f=true)
  (hc:D.wks ((ars.toList.map (ev tm)).map (D.ren (idx []) (idx [])))=cds) (htd:Nat.blt t n=true) (hd:nf (d.ren (upN [] bx.length) (upN [] fr.length))=some d') (hfr:nfl (fr++frs)=some fr')
  (k:AL P ops rest ⟨n,(t,d')::tm,bx,fr',ee⟩ Q):AL P ops (⟨some t,.call { callee:=.value (.func f),args:=ars,argTypes:=ats },ty,pos,after,none⟩::rest) ⟨n,tm,bx,fr,ee⟩ Q:=by
 subst hc
 exact VX (AC.unwk hAC) hf rfl htd hd hfr k
theorem Zh [Known][Dfr]{t:Nat}{cds:List D}{d d':D}{bxs bxs' bx2:List (List D)}(bs:List Nat)(hQ:AQ P f cds bxs d bxs')(hf:Ji P f=true)
  (hc:D.wks ((ars.toList.map (ev tm)).map (D.ren (idx bs) (idx [])))=cds) (hb:VL bs bx.length=true) (hbx:UL bs [] bx=bxs) (hle:Nat.ble bs.length bxs'.length=true) (htd:Nat.blt t n=true) (hd:nf (d.ren (upN bs bx.length) (upN [] fr.length))=some d') (hB:nfb (QX bs [] bx fr.length bxs')=some bx2)
  (k:AL P ops rest ⟨n,(t,d')::tm,bx2,fr,ee⟩ Q):AL P ops (⟨some t,.call { callee:=.value (.func f),args:=ars,argTypes:=ats },ty,pos,after,none⟩::rest) ⟨n,tm,bx,fr,ee⟩ Q:=by
 subst hc
 exact NQ bs (AC.unwk hQ) hf rfl hb hbx hle htd hd hB k
end
end Go.Av
end
section
open Go.RowKit Go.Pl
namespace Go.Av
end Go.Av
end
section
open Go.RowKit Go.Pl
namespace Go.Av
theorem Uy [Known]{g:G}{w w':World}{e:Ending}{d:D}{v:Value}(hm:Mem g [] [] w)(hb:Below w.heap.size w w')(he:e=.returned v)(hv:V w g [] d v) :
  ∃ g' bx' fr' r,Evo ⟨g,[],w⟩ ⟨g',fr',w'⟩/\Mem g' bx' fr' w'/\R.is w' g' fr' e r/\(r=.ret d/\bx'=[]/\fr'=[]):=by
 have hρ:g.ρ=[]:=List.length_eq_zero_iff.1 hm.bl
 have hτ:g.τ=[]:=List.length_eq_zero_iff.1 hm.tl
 have hevo:Evo ⟨g,[],w⟩ ⟨g,[],w'⟩:=⟨hb.os,hb.tape,hb.output,hb.size,fun k hk _=>hb.block k hk,fun _ _ h=>h,fun k o hk=>World.cell?_of_block (hb.block k (hm.Clt k o hk)),fun _ _ h=>.inl h,fun _ _ h=>h,fun _ h=>.inl h,fun _ c h=>.inl ⟨c,h⟩,fun i f h=>by simp at h⟩
 exact⟨g,[],[],.ret d,hevo,⟨hm.bl,fun i k cs h=>by simp[hρ]at h,hm.bC,hm.bN,hm.tl,fun i k c f h=>by simp[hτ]at h,hm.tN,hm.tρ,fun k o hk=>Nat.lt_of_lt_of_le (hm.Clt k o hk) hb.size,hm.gl.evo hevo⟩,⟨v,he,hv.evo hevo⟩,rfl,rfl,rfl⟩
section
variable {P:Program} {Q:X->St->Prop} {n:Nat} {ee:Nat × Nat} {tm:List (Nat × D)} {bx bx':List (List D)} {fr fr':List Fr} {b0:Bs} {g:G} {w:World} {a:Act} {T:Tab}
variable {ops:Array Oper} {rest:List Oper} {t ty:Nat} {pos:String} {after:Array Edge}
theorem QF [Known][Dfr](hT:chk P T=true){x:Operand}{st:Nat}{s s2:List UInt8}{lo hi':Option Operand}{p q:Nat}{ti:Ti}(hx:ev tm x=.str s)(ht:tl T st=some ti)(hk:ti.kd=.str)(htd:Nat.blt t n=true)
  (hlo:Bnd tm lo 0 p) (hhi:Bnd tm hi' s.length q) (hpq:p<=q) (hq:q<=s.length) (hs2:(s.take q).drop p=s2)
  (kk:AL P ops rest ⟨n,(t,.str s2)::tm,bx,fr,ee⟩ Q):AL P ops (⟨some t,.slice st x lo hi' none,ty,pos,after,none⟩::rest) ⟨n,tm,bx,fr,ee⟩ Q:=
 Z5 _ htd (fun g a w hi=>by
  have h1:V w g fr (ev tm x) (a.eval x):=hi.ev x
  rw[hx]at h1
  obtain⟨h1,hl⟩:=h1.str_inv
  have hu:=(Z6 hT ht).str hk
  have hsz:(⟨s.toArray⟩:ByteArray).size=s.length:=by show s.toArray.size=_;simp
  have hb:=Bnd.runs (S:=⟨n,tm,bx,fr,_⟩) (P:=P) (cap:=s.length) hlo hhi hi hpq hq false
  refine⟨.string ⟨s2.toArray⟩,?_,.str _ (by subst hs2;simp;omega)⟩
  have hex:(⟨s.toArray⟩:ByteArray).extract p q=⟨s2.toArray⟩:=by
   apply ByteArray.ext
   subst hs2
   apply Array.ext'
   simp[ByteArray.data_extract,List.extract_eq_take_drop,List.drop_take]
  have hrun:(Instr.sliceAt st (.string ⟨s.toArray⟩) (lo.map a.eval) (hi'.map a.eval) none).run P w=.ok (.string ⟨s2.toArray⟩) w:=by
   simp[Instr.sliceAt,Instr.slice,Sem.run_bind,run_underlying hu,hsz,hb,hex]
  simp only[execOp,h1,Sem.run_bind,Option.map_none,hrun,Result.andThen_ok]
  rfl) kk
end
end Go.Av
end
section
open Go.RowKit Go.Pl
namespace Go.Av
def AN [Known][Dfr](P:Program)(c:Code)(Q:X->St->Prop):Nat->St->Prop
 | 0,_=>False
 | n+1,S=>AW P c S (X.then (AN P c Q n) Q)
structure ANs [Known][Dfr](P:Program) (c:Code) (Q:X->St->Prop) (n:Nat) (S:St):Prop where
 run:AN P c Q n S
theorem Uf [Known][Dfr]{P:Program}{c:Code}{Q:X->St->Prop}{n:Nat}{S:St}(h:AW P c S (X.then (ANs P c Q n) Q)):ANs P c Q (n+1) S:=
 ⟨HT h fun x S hx=>by
  cases x with
  | norm=>exact hx.run
  | _=>exact hx⟩
theorem Ok [Known][Dfr]{P:Program}{c:Code}{Q:X->St->Prop}{b0:Bs}:∀(n:Nat) (S:St) (g:G) (a:Act) (w:World),AN P c Q n S->Inv b0 S g a w->Code.rounds P c (VC b0 Q) n a w
 | 0,_,_,_,_,h,_=>h.elim
 | n+1,S,g,a,w,h,hi=>by
  rw[rounds_succ]
  refine wp_mono (AW.run (show AW P c S (X.then (AN P c Q n) Q) from h) b0 g a w hi) fun e a w hc=>?_
  cases e<;>simp only[VC,X.then,Exit.then]at hc ⊢
  ·obtain⟨S',g',hi',h'⟩:=hc
   exact Ok n S' g' a w h' hi'
  all_goals exact hc
theorem VB [Known][Dfr]{P:Program}{c:Code}{Q:X->St->Prop}{S:St}(n:Nat)(h:ANs P c Q n S):AW P (.loop c) S Q:=
 ⟨fun b0 g a w hi=>wp_loop_rounds n (Ok n S g a w h.run hi)⟩
end Go.Av
end
section
open Go.RowKit Go.Pl
namespace Go.Av
def AT [Known](P:Program)(f:FuncId)(args:List D)(bx:List (List D))(fr:List Fr)(d:D)(bx':List (List D))(fr':List Fr):Prop:=AC P f args bx fr fun r b t=>r=.ret d/\b=bx'/\t=fr'
theorem U7 {P:Program}{rs:List ResultVar}{S:St}{d d':D}{ds:List D}{bx' B:List (List D)}{fr' F:List Fr}{k m:Nat}(bs ts:List Nat)(h:ResL P S rs ds)(hb:VL bs S.bx.length=true)(ht:VL ts S.fr.length=true)(hk:XB k bs=true)(hm:XB m ts=true)
  (hn:nf ((Ke ds).ren (idx bs) (idx ts))=some d') (hB:nfb (UL bs ts S.bx)=some B) (hF:nfl (Up ts S.fr)=some F) (hd:d'=d) (hB':B=bx') (hF':F=fr') :
  Uq P rs k m (fun r b t=>r=.ret d/\b=bx'/\t=fr') .ret S:=
 ⟨ds,bs,ts,h,YS hb,YS ht,Ux hk,Ux hm,by rw[Y2 hn,hd],by rw[Vk hB,hB'],by rw[YV hF,hF']⟩
theorem SW {P:Program}{rs:List ResultVar}{S:St}{d d':D}{ds:List D}{bx' B:List (List D)}{fr' F:List Fr}{k m:Nat}(bs ts:List Nat)(h:ResL P S rs ds)(hb:VL bs S.bx.length=true)(ht:VL ts S.fr.length=true)(hk:XB k bs=true)(hm:XB m ts=true)
  (hn:nf ((Ke ds).ren (idx bs) (idx ts))=some d') (hB:nfb (UL bs ts S.bx)=some B) (hF:nfl (Up ts S.fr)=some F) (hd:d'=d) (hB':B=bx') (hF':F=fr') :
  Uq P rs k m (fun r b t=>r=.ret d/\b=bx'/\t=fr') .norm S:=
 ⟨ds,bs,ts,h,YS hb,YS ht,Ux hk,Ux hm,by rw[Y2 hn,hd],by rw[Vk hB,hB'],by rw[YV hF,hF']⟩
section
variable {P:Program} {Q:X->St->Prop} {n:Nat} {ee:Nat × Nat} {tm:List (Nat × D)} {bx:List (List D)} {fr:List Fr} {ops:Array Oper} {rest:List Oper} {ty:Nat} {pos:String} {after:Array Edge} {f:FuncId} {ars:Array Operand} {ats:Array TypeId}
theorem Zo [Known][Dfr]{t:Nat}{cds:List D}{d d':D}{bxs bxs' bx2:List (List D)}{frs frs' fr2:List Fr}(bs ts:List Nat)(hQ:AT P f cds bxs frs d bxs' frs')(hf:Ji P f=true)
  (hc:(ars.toList.map (ev tm)).map (D.ren (idx bs) (idx ts))=cds) (hb:VL bs bx.length=true) (ht:VL ts fr.length=true) (hbx:UL bs ts bx=bxs) (hfr:Up ts fr=frs) (hle:Nat.ble bs.length bxs'.length=true) (htd:Nat.blt t n=true)
  (hd:nf (d.ren (upN bs bx.length) (upN ts fr.length))=some d') (hB:nfb (QX bs ts bx fr.length bxs')=some bx2) (hF:nfl (Uv ts fr frs')=some fr2)
  (k:AL P ops rest ⟨n,(t,d')::tm,bx2,fr2,ee⟩ Q):AL P ops (⟨some t,.call { callee:=.value (.func f),args:=ars,argTypes:=ats },ty,pos,after,none⟩::rest) ⟨n,tm,bx,fr,ee⟩ Q:=by
 refine Jj bs ts hf hQ hc (YS hb) (YS ht) hbx hfr htd (fun _ _ _ h=>by cases h.1) fun d0 bx' fr' h=>?_
 obtain⟨h1,rfl,rfl⟩:=h
 injection h1 with h1
 subst h1
 refine⟨Nat.le_of_ble_eq_true hle,?_⟩
 have e1:=Y2 hd
 have e2:=Vk hB
 have e3:=YV hF
 subst e1 e2 e3
 exact k
end
end Go.Av
end
section
open Go.RowKit Go.Pl
namespace Go.Av
section
variable {P:Program} {Q:X->St->Prop} {n:Nat} {ee:Nat × Nat} {tm:List (Nat × D)} {bx:List (List D)} {fr:List Fr} {ops:Array Oper} {rest:List Oper}
end
section
variable {P:Program} {Q:X->St->Prop} {n:Nat} {ee:Nat × Nat} {tm:List (Nat × D)} {bx bx':List (List D)} {fr fr':List Fr} {b0:Bs} {g:G} {w:World} {a:Act} {T:Tab}
variable {ops:Array Oper} {rest:List Oper} {t ty:Nat} {pos:String} {after:Array Edge}
theorem Mem.lit2 [Known](hm:Mem g bx fr w)(cur:List Value)(l:List E)(sz cap:Nat)(e:TypeId)(mk:Nat × Nat)(hcur:l.length*sz<=cur.length)(hl:l.length<=cap)(hcap:cap<=maxLen)(hU:Uni sz l)
  (hv:∀(j:Nat) (x:E) (u:Value),(flat l)[j]?=some x->cur[j]?=some u->VE w g.C x u) :
  Evo ⟨g,fr,w⟩ ⟨g.lit w (l.length*sz),fr,w.alloc (.cells cur.toArray e mk)⟩/\Mem (g.lit w (l.length*sz)) bx fr (w.alloc (.cells cur.toArray e mk)) /\
   V (w.alloc (.cells cur.toArray e mk)) (g.lit w (l.length*sz)) fr (.sl .ext l) (.slice (some ⟨w.heap.size,0,none⟩) l.length cap):=by
 have hevo:Evo ⟨g,fr,w⟩ ⟨g.lit w (l.length*sz),fr,w.alloc (.cells cur.toArray e mk)⟩:=by
  refine⟨rfl,rfl,rfl,by simp,fun k hk _=>Below.heap_alloc w _ k hk,fun _ _ h=>.inl h,fun k o h=>WR w _ (hm.Clt k o h) o,fun k o h=>?_,fun _ _ h=>h,fun _ h=>.inl h,fun k c h=>.inl ⟨c,h⟩,WY.refl _ _⟩
  rcases h with h|⟨h,_⟩
  ·exact .inl h
  ·exact .inr (.inl (by simp[h]))
 have hflat:=hU.flat
 refine⟨hevo,?_,?_⟩
 ·constructor
  ·exact hm.bl
  ·intro i k cs h1 h2
   obtain⟨us,ut,k1,k2,k3⟩:=hm.bat i k cs h1 h2
   exact⟨us,ut,(Below.heap_alloc w _ k (Array.getElem?_eq_some_iff.1 k1).1).trans k1,k2,fun j d v hd hv=>(k3 j d v hd hv).evo hevo⟩
  ·intro k o hk hC
   rcases hC with hC|⟨hC,_⟩
   ·exact hm.bC k o hk hC
   ·have:=hm.lt (.inl hk);omega
  ·exact hm.bN
  ·exact hm.tl
  ·intro i k c f h1 h2
   have hTk:=hm.tat i k c f h1 h2
   obtain⟨cur',s1,s2⟩:=hTk.row
   have hklt:=(Array.getElem?_eq_some_iff.1 s1).1
   refine⟨⟨cur',(Below.heap_alloc w _ k hklt).trans s1,s2⟩,hTk.le,hTk.max,hTk.pos,fun o ho hC=>?_⟩
   rcases hC with hC|⟨hC,_⟩
   ·exact hTk.far o ho hC
   ·omega
  ·exact hm.tN
  ·exact hm.tρ
  ·intro k o hC
   rcases hC with hC|⟨hC,_⟩
   ·have:=hm.Clt k o hC;simp;omega
   ·simp[hC]
  ·exact hm.gl.evo hevo
 ·refine .sl _ _ _ (.slC l w.heap.size 0 cap (fun j=>cur.getD j undef) hl hcap (fun j hj=>.inr ⟨rfl,by rw[hflat]at hj;omega⟩) (fun j hj=>?_) (fun j x hx=>?_)) trivial
  ·rw[Nat.zero_add,World.cell?_alloc_mark]
   have:j<cur.length:=by omega
   simp[List.getD,this]
  ·have hj:=(List.getElem?_eq_some_iff.1 hx).1
   have hlt:j<cur.length:=by omega
   refine(hv j x _ hx (by rw[List.getElem?_eq_getElem hlt];simp[List.getD,hlt])).mono (fun _ _ h=>.inl h) fun k o h=>WR w _ (hm.Clt k o h) o
theorem NR [Known][Dfr](hT:chk P T=true){x:Operand}{src dst e:Nat}{s:List UInt8}{ti td te:Ti}(hx:ev tm x=.str s)(ht:tl T src=some ti)(hk:ti.kd=.str)(htds:tl T dst=some td)(hkd:td.kd=.slice e)(hte:tl T e=some te)(hke:te.kd=.int .u8)(htd:Nat.blt t n=true)
  (k:AL P ops rest ⟨n,(t,.sl .ext (s.map E.byte))::tm,bx,fr,ee⟩ Q):AL P ops (⟨some t,.convert src dst x,ty,pos,after,none⟩::rest) ⟨n,tm,bx,fr,ee⟩ Q:=
 Q8 _ htd (fun g a w hi=>by
  have h1:V w g fr (ev tm x) (a.eval x):=hi.ev x
  rw[hx]at h1
  obtain⟨h1,hl⟩:=h1.str_inv
  have hs:=(Z6 hT ht).str hk
  have hd:=(Z6 hT htds).slice hkd
  have he:=(Z6 hT hte).int hke
  have hsz:(⟨s.toArray⟩:ByteArray).size=s.length:=by show s.toArray.size=_;simp
  have hrun:=run_bytes_of_string (P:=P) w src dst e ⟨s.toArray⟩ hs hd he
  rw[hsz]at hrun
  have hge:=grownCap_ge w s.length 0 e
  have hcm:=grownCap_le_maxLen w s.length 0 e hl
  generalize grownCap w s.length 0 e=C at hrun hge hcm
  have hrow:bytesRow ⟨s.toArray⟩ C=(bytesRow ⟨s.toArray⟩ C).toList.toArray:=by simp
  rw[hrow]at hrun
  have hcell:∀ j,j<s.length->(bytesRow ⟨s.toArray⟩ C).toList[j]?=some (.int .u8 ((s[j]?.getD 0).toNat:Int)):=fun j hj=>by
   simp only[bytesRow,Array.toList_append,Array.toList_map,List.toList_toArray,Array.toList_replicate]
   rw[List.getElem?_append_left (by simpa using hj)]
   simp[hj]
  have hlen:s.length<=(bytesRow ⟨s.toArray⟩ C).toList.length:=by
   simp[bytesRow]
  have hfl:∀ l:List UInt8,flat (l.map E.byte)=l.map E.byte:=fun l=>by induction l with|nil=>rfl|cons x l ih=>simp[E.cells,ih]
  obtain⟨k1,k2,k3⟩:=(hi.mem.drew).lit2 (bytesRow ⟨s.toArray⟩ C).toList (s.map E.byte) 1 C e ((bytesRow ⟨s.toArray⟩ C).toList.toArray.size,(bytesRow ⟨s.toArray⟩ C).toList.toArray.size+1) (by simpa using hlen) (by simpa using hge) hcm (Uni.map (f:=E.byte) (fun _=>rfl) s) (fun j x u hx hu=>by
   rw[hfl]at hx
   have hj:j<s.length:=by have:=(List.getElem?_eq_some_iff.1 hx).1;simpa using this
   rw[hcell j hj]at hu
   injection hu with hu
   subst hu
   rw[List.getElem?_map,List.getElem?_eq_getElem hj]at hx
   simp at hx
   subst hx
   simp[hj]
   exact .int _ _)
  refine⟨.slice (some ⟨w.heap.size,0,none⟩) (s.map E.byte).length C,_,_,?_,Evo.drew.trans k1,k2,k3⟩
  rw[List.length_map]
  simp only[execOp,h1,Sem.run_bind,hrun,Result.andThen_ok]
  rfl) k
theorem Sa [Known][Dfr]{x y:Operand}{k0 k1:IntKind}{m q:Int}{ats:Array TypeId}(hx:ev tm x=.int k0 m)(hy:ev tm y=.int k1 q)(htd:Nat.blt t n=true)
  (k:AL P ops rest ⟨n,(t,.int k0 (if q>m then q else m))::tm,bx,fr,ee⟩ Q):AL P ops (⟨some t,.call { callee:=.builtin .max,args := #[x,y],argTypes:=ats },ty,pos,after,none⟩::rest) ⟨n,tm,bx,fr,ee⟩ Q:=
 Z5 _ htd (fun g a w hi=>by
  have h1:V w g fr (ev tm x) (a.eval x):=hi.ev x
  have h2:V w g fr (ev tm y) (a.eval y):=hi.ev y
  rw[hx]at h1
  rw[hy]at h2
  have h1:=h1.int_inv
  have h2:=h2.int_inv
  exact⟨.int k0 (if q>m then q else m),by simp[execOp,resolve,invoke,builtin,Builtin.max_,Builtin.max2,Sem.run_bind,h1,h2],.int _ _⟩) k
def TQ:List E->Option (List UInt8)
 | []=>some []
 | .int .u8 n::l=>match Int.decEq ((UInt8.ofNat n.toNat).toNat:Int) n,TQ l with
  | .isTrue _,some bs=>some (UInt8.ofNat n.toNat::bs)
  | _,_=>none
 | _::_=>none
theorem H4:∀ {l:List E} {bs:List UInt8},TQ l=some bs->l=bs.map E.byte
 | [],bs,h=>by simp[TQ]at h;subst h;rfl
 | .int .u8 n::l,bs,h=>by
  simp only[TQ]at h
  cases hd:Int.decEq ((UInt8.ofNat n.toNat).toNat:Int) n with
  | isFalse hf=>simp[hd]at h
  | isTrue hn=>
   cases hl:TQ l with
   | none=>simp[hd,hl]at h
   | some bs'=>
    simp[hd,hl]at h
    subst h
    rw[H4 hl,List.map_cons]
    congr 1
    show E.int .u8 n=E.int .u8 _
    rw[hn]
theorem Lp [Known][Dfr](hT:chk P T=true){x:Operand}{src dst e:Nat}{tk:Tok}{l:List E}{bs:List UInt8}{ti td te:Ti}(hx:ev tm x=.sl tk l)(hl:TQ l=some bs)(ht:tl T src=some ti)(hk:ti.kd=.slice e)(hte:tl T e=some te)(hke:te.kd=.int .u8)(htds:tl T dst=some td)(hkd:td.kd=.str)(htd:Nat.blt t n=true)
  (k:AL P ops rest ⟨n,(t,.str bs)::tm,bx,fr,ee⟩ Q):AL P ops (⟨some t,.convert src dst x,ty,pos,after,none⟩::rest) ⟨n,tm,bx,fr,ee⟩ Q:=
 Vl hT hx (H4 hl) ht hk hte hke htds hkd htd k
end
end Go.Av
end
section
open Go.RowKit Go.Pl
namespace Go.Av
section
variable {P:Program} {Q:X->St->Prop} {n:Nat} {ee:Nat × Nat} {tm:List (Nat × D)} {bx:List (List D)} {fr:List Fr}
variable {ops:Array Oper} {rest:List Oper} {t ty:Nat} {pos:String} {after:Array Edge}
theorem Ki [Known][Dfr]{op:BinOp}{x:Operand}{xt yt:Nat}{d:D}(hx:ev tm x=.nili)(hu:P.underlying xt=some (.interface (P.methodsAt xt)))(hd:(match op with | .eql=>some (D.bool true) | .neq=>some (D.bool false)|_=>none)=some d)(htd:Nat.blt t n=true)
  (k:AL P ops rest ⟨n,(t,d)::tm,bx,fr,ee⟩ Q):AL P ops (⟨some t,.binOp op xt x (.const .nilIface) yt,ty,pos,after,none⟩::rest) ⟨n,tm,bx,fr,ee⟩ Q:=
 Z5 _ htd (fun g a w hi=>by
  have h1:V w g fr (ev tm x) (a.eval x):=hi.ev x
  rw[hx]at h1
  have h1:a.eval x=.nilIface:=by
   generalize a.eval x=v at h1
   cases h1 with|nili=>rfl
  have h2:a.eval (.const .nilIface)=.nilIface:=rfl
  have hrun:(Op.equal xt .nilIface .nilIface).run P w=.ok true w:=run_equal_nil_nil w xt hu
  cases op<;>simp at hd<;>subst hd<;>first|exact⟨.bool true,by simp[execOp,h1,h2,eqGuard,binOp,Sem.run_bind,hrun],.bool _⟩ | exact⟨.bool false,by simp[execOp,h1,h2,eqGuard,binOp,Sem.run_bind,hrun],.bool _⟩) k
end
end Go.Av
end
