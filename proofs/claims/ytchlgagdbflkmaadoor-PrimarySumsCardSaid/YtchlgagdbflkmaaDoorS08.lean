/- Jumps back to a label; slices cut with a bound on their room; slices held against nil. -/
import Derived.Test.YtchlgagdbflkmaaDoorS07
import Derived.ScopeJumps
import Derived.Lib.SlBytesConst
import Derived.Laws.IdiomStrings
import Derived.LoopN
import Derived.WideLaws
set_option linter.unusedSimpArgs false
set_option linter.unusedVariables false
section
open Go.RowKit Go.Pl
namespace Go.Av
section
variable {P:Program} {Q:X->St->Prop} {S:St}
end
section
variable {P:Program} {Q:X->St->Prop} {n:Nat} {ee:Nat × Nat} {tm:List (Nat × D)} {bx bx':List (List D)} {fr fr':List Fr} {b0:Bs} {g:G} {w:World} {a:Act} {T:Tab}
variable {ops:Array Oper} {rest:List Oper} {t ty:Nat} {pos:String} {after:Array Edge}
theorem U0 [Known][Dfr](hT:chk P T=true){op:BinOp}{x:Operand}{xt yt e:Nat}{tk:Tok}{l:List E}{d:Bool->D}{ti:Ti}(hx:ev tm x=.sl tk l)(ht:tl T xt=some ti)(hk:ti.kd=.slice e)(hd:(match op with | .eql=>some (fun b=>D.bool b) | .neq=>some (fun b=>D.bool (!b))|_=>none)=some d)(htd:Nat.blt t n=true)
  (k:∀ b:Bool,(l ≠ []->b=false)->AL P ops rest ⟨n,(t,d b)::tm,bx,fr,ee⟩ Q):AL P ops (⟨some t,.binOp op xt x (.const (.slice none 0 0)) yt,ty,pos,after,none⟩::rest) ⟨n,tm,bx,fr,ee⟩ Q:=by
 refine⟨fun b0 g a w hi=>?_⟩
 have h1:V w g fr (ev tm x) (a.eval x):=hi.ev x
 rw[hx]at h1
 obtain⟨a1,_⟩:=Wz h1
 obtain⟨A,cap,hv,hA⟩:∃ A cap,a.eval x=.slice A l.length cap/\(l ≠ []->A.isNone=false):=by
  generalize hq:E.sl l=q at a1
  generalize a.eval x=v at a1
  cases a1 with
  | slC l' b off cap us h1 _ _ _ _=>injection hq with hq;subst hq;exact⟨_,cap,rfl,fun _=>rfl⟩
  | slE A cap h=>injection hq with hq;subst hq;exact⟨A,cap,rfl,fun h=>(h rfl).elim⟩
  | _=>cases hq
 have hu:=(ZF hT ht).slice hk
 have hrun:(Op.equal xt (.slice A l.length cap) (.slice none 0 0)).run P w=.ok A.isNone w:=Go.run_equal_slice_nil w xt e A l.length cap hu
 have hc0:a.eval (.const (.slice none 0 0))=.slice none 0 0:=rfl
 refine wpList_plain rfl fun K hK=>?_
 have hex:∃ v,(execOp a.eval ⟨some t,.binOp op xt x (.const (.slice none 0 0)) yt,ty,pos,after,none⟩).run P w=.ok (.value v) w/\V w g fr (d A.isNone) v:=by
  cases op<;>simp at hd<;>subst hd<;>first|exact⟨.bool A.isNone,by simp[execOp,hv,hc0,eqGuard,binOp,Sem.run_bind,hrun],.bool _⟩ | exact⟨.bool (!A.isNone),by simp[execOp,hv,hc0,eqGuard,binOp,Sem.run_bind,hrun],.bool _⟩
 obtain⟨v,hr,hvv⟩:=hex
 unfold Oper.wp
 rw[hr]
 exact hK _ _ ((k A.isNone hA).run b0 g _ w (hi.put htd hvv))
def G.lit (g:G)(w:World)(m:Nat):G:=⟨fun b o=>g.C b o\/(b=w.heap.size/\o<m),g.ρ,g.τ⟩
end
end Go.Av
end
section
open Go.RowKit Go.Pl
namespace Go.Av
@[simp] theorem GS (e:E):(D.ofC e).wk=D.ofC e:=by
 cases e<;>simp only[D.ofC,D.wk]
theorem GB (cs:List D):D.ex (D.wks cs)=D.wks (D.ex cs):=by
 cases hr:D.isRow cs with
 | true=>
  have key:∀ l:List E,l.map D.ofC=(l.map D.ofC).map D.wk:=fun l=>by
   rw[List.map_map]
   exact List.map_congr_left fun x _=>(GS x).symm
  rcases VR hr with⟨z,l,rfl⟩ | ⟨l,ds,rfl⟩
  ·show l.map D.ofC=D.wks (l.map D.ofC)
   rw[YI];exact key l
  ·show l.map D.ofC++D.wks ds=D.wks (l.map D.ofC++ds)
   rw[YI,YI,List.map_append,<- key l]
 | false=>
  rw[VN hr,VN]
  match cs,hr with
  | [],_=>rfl
  | [d],hr=>cases d<;>first|rfl|(simp[D.isRow]at hr)
  | _::_::_,_=>rfl
theorem IW {cs:List D}{n:Nat}(hf:D.fits cs n):D.fits (D.wks cs) n:=by
 refine⟨by rw[YI,List.length_map];exact hf.1,by rw[GB,YI,List.length_map];exact hf.2.1,fun z l e=>?_⟩
 rw[YI]at e
 rcases cs with _|⟨d,_|⟨d2,r⟩⟩
 ·simp at e
 ·simp at e;exact hf.2.2 z l (by rw[show d=.row z l from by cases d<;>first|exact e|(simp only[D.wk]at e;cases e)])
 ·simp at e
theorem Mem.wk [Known]{g:G}{bx:List (List D)}{fr:List Fr}{w:World}(h:Mem g bx fr w):Mem g (bx.map D.wks) fr w where
 bl:=by rw[h.bl];simp
 bat i blk cs h1 h2:=by
  rw[List.getElem?_map]at h2
  cases hi:bx[i]? with
  | none=>simp[hi]at h2
  | some cs0=>
   simp[hi]at h2;subst h2
   obtain⟨vs,ty,q1,q2,q3⟩:=h.bat i blk cs0 h1 hi
   refine⟨vs,ty,q1,IW q2,fun j d v hd hv=>?_⟩
   rw[GB,YI,List.getElem?_map]at hd
   cases hj:(D.ex cs0)[j]? with
   | none=>simp[hj]at hd
   | some d0=>simp[hj]at hd;subst hd;exact(q3 j d0 v hj hv).wk
 bC:=h.bC
 bN:=h.bN
 tl:=h.tl
 tat:=h.tat
 tN:=h.tN
 tρ:=h.tρ
 Clt:=h.Clt
 gl:=h.gl
def AQ [Known](P:Program)(f:FuncId)(args:List D)(bx:List (List D))(d:D)(bx':List (List D)):Prop:=AC P f args bx [] fun r b fr=>r=.ret d/\b=bx'/\fr=[]
theorem AQ.weak [Known]{P:Program}{f:FuncId}{args:List D}{bx bx':List (List D)}{d:D}(h:AC P f args bx [] fun r b fr=>∃ d0,r=.ret d0/\d0.wk=d/\b.map D.wks=bx'/\fr=[]):AQ P f args bx d bx':=by
 refine⟨fun g w vs hm hl hv=>(h.run g w vs hm hl hv).mono fun e w' ⟨g',b',fr',r,h1,h2,h3,d0,h4,h5,h6,h7⟩=>?_⟩
 subst h4 h5 h6 h7
 obtain⟨v,rfl,hv⟩:=h3
 exact⟨g',_,[],.ret d0.wk,h1,h2.wk,⟨v,rfl,hv.wk⟩,rfl,rfl,rfl⟩
theorem AP.ofA [Known]{P:Program}{f:FuncId}{args:List D}{d:D}(h:AC P f args [] [] fun r b fr=>∃ d0,r=.ret d0/\d0.wk=d/\b.map D.wks=[]/\fr=[]):AP P f args d []:=AQ.weak h
def Vm:List Nat->Nat->Bool
 | [],_=>true
 | b::bs,n=>Nat.blt b n&&(!(bs.any (Nat.beq b))&&Vm bs n)
theorem Wi:∀ {bs:List Nat} {n:Nat},Vm bs n=true->YL bs n
 | [],n,_=>Z2 n
 | b::bs,n,h=>by
  simp only[Vm,Bool.and_eq_true,Nat.blt_eq,Bool.not_eq_true',List.any_eq_false]at h
  obtain⟨h1,h2,h3⟩:=h
  have ih:=Wi h3
  have hne:∀ j c:Nat,bs[j]?=some c->c ≠ b:=fun j c hj e=>by
   subst e
   exact h2 c (List.mem_of_getElem? hj) (Nat.beq_refl c)
  refine⟨fun i j c hi hj=>?_,fun c hc=>?_⟩
  ·cases i with
   | zero=>
    cases j with
    | zero=>rfl
    | succ j=>simp at hi hj;subst hi;exact(hne j _ hj rfl).elim
   | succ i=>
    cases j with
    | zero=>simp at hi hj;subst hj;exact(hne i _ hi rfl).elim
    | succ j=>simp at hi hj;rw[ih.1 i j c hi hj]
  ·rcases List.mem_cons.1 hc with rfl|hc
   ·exact h1
   ·exact ih.2 c hc
def Kt (k:Nat)(bs:List Nat):Bool:=(List.range k).all fun i=>match bs[i]? with
 | some j=>Nat.beq i j
 | none=>false
theorem Qc {k:Nat}{bs:List Nat}(h:Kt k bs=true):∀ i,i<k->bs[i]?=some i:=fun i hi=>by
 have:=List.all_eq_true.1 h i (List.mem_range.2 hi)
 split at this
 ·rename_i j hj
  rw[hj,Nat.eq_of_beq_eq_true this]
 ·cases this
theorem Zu {P:Program}{rs:List ResultVar}{S:St}{d d':D}{ds:List D}{bx' B:List (List D)}{k:Nat}(bs:List Nat)(h:ResL P S rs ds)(hb:Vm bs S.bx.length=true)(hk:Kt k bs=true)(hn:nf (((JM ds).ren (idx bs) (idx [])).wk)=some d')(hB:nfb ((Uo bs [] S.bx).map D.wks)=some B)(hd:d'=d)(hB':B=bx') :
  VT P rs k 0 (fun r b fr=>∃ d0,r=.ret d0/\d0.wk=d/\b.map D.wks=bx'/\fr=[]) .ret S:=
 ⟨ds,bs,[],h,Wi hb,Z2 _,Qc hk,fun i h=>by omega,_,rfl,by rw[Yj hn,hd],by rw[Yv hB,hB'],rfl⟩
section
variable {P:Program} {Q:X->St->Prop} {n:Nat} {ee:Nat × Nat} {tm:List (Nat × D)} {bx:List (List D)} {fr:List Fr} {ops:Array Oper} {rest:List Oper} {ty:Nat} {pos:String} {after:Array Edge} {f:FuncId} {ars:Array Operand} {ats:Array TypeId}
theorem ON [Known][Dfr]{t:Nat}{cds:List D}{d d':D}{bxs bxs' bx2:List (List D)}(bs:List Nat)(hQ:AQ P f cds bxs d bxs')(hf:Ur P f=true)
  (hc:(ars.toList.map (ev tm)).map (D.ren (idx bs) (idx []))=cds) (hb:Vm bs bx.length=true) (hbx:Uo bs [] bx=bxs) (hle:Nat.ble bs.length bxs'.length=true) (htd:Nat.blt t n=true) (hd:nf (d.ren (upN bs bx.length) (upN [] fr.length))=some d') (hB:nfb (VU bs [] bx fr.length bxs')=some bx2)
  (k:AL P ops rest ⟨n,(t,d')::tm,bx2,fr,ee⟩ Q):AL P ops (⟨some t,.call { callee:=.value (.func f),args:=ars,argTypes:=ats },ty,pos,after,none⟩::rest) ⟨n,tm,bx,fr,ee⟩ Q:=by
 refine UY bs [] hf hQ hc (Wi hb) (Z2 _) hbx rfl htd (fun _ _ _ h=>by cases h.1) fun d0 bx' fr' h=>?_
 obtain⟨h1,rfl,rfl⟩:=h
 injection h1 with h1
 subst h1
 refine⟨Nat.le_of_ble_eq_true hle,?_⟩
 have e1:=Yj hd
 have e2:=Yv hB
 subst e1 e2
 simpa[St.aft,WK,YW]using k
end
theorem AC.unwk [Known]{P:Program}{f:FuncId}{args:List D}{bx:List (List D)}{fr:List Fr}{post:R->List (List D)->List Fr->Prop}(h:AC P f (D.wks args) bx fr post):AC P f args bx fr post:=
 ⟨fun g w vs hm hl hv=>h.run g w vs hm (by rw[YI];simpa using hl) fun j d v hd hvv=>by
  rw[YI,List.getElem?_map]at hd
  cases hj:args[j]? with
  | none=>simp[hj]at hd
  | some d0=>simp[hj]at hd;subst hd;exact(hv j d0 v hj hvv).wk⟩
section
variable {P:Program} {Q:X->St->Prop} {n:Nat} {ee:Nat × Nat} {tm:List (Nat × D)} {bx:List (List D)} {fr:List Fr} {ops:Array Oper} {rest:List Oper} {ty:Nat} {pos:String} {after:Array Edge} {f:FuncId} {ars:Array Operand} {ats:Array TypeId}
theorem Zb [Known][Dfr]{t:Nat}{cds:List D}{d d':D}{frs fr':List Fr}(hAC:AP P f cds d frs)(hf:Ur P f=true)
  (hc:D.wks ((ars.toList.map (ev tm)).map (D.ren (idx []) (idx [])))=cds) (htd:Nat.blt t n=true) (hd:nf (d.ren (upN [] bx.length) (upN [] fr.length))=some d') (hfr:nfl (fr++frs)=some fr')
  (k:AL P ops rest ⟨n,(t,d')::tm,bx,fr',ee⟩ Q):AL P ops (⟨some t,.call { callee:=.value (.func f),args:=ars,argTypes:=ats },ty,pos,after,none⟩::rest) ⟨n,tm,bx,fr,ee⟩ Q:=by
 subst hc
 exact WO (AC.unwk hAC) hf rfl htd hd hfr k
theorem Uv [Known][Dfr]{t:Nat}{cds:List D}{d d':D}{bxs bxs' bx2:List (List D)}(bs:List Nat)(hQ:AQ P f cds bxs d bxs')(hf:Ur P f=true)
  (hc:D.wks ((ars.toList.map (ev tm)).map (D.ren (idx bs) (idx [])))=cds) (hb:Vm bs bx.length=true) (hbx:Uo bs [] bx=bxs) (hle:Nat.ble bs.length bxs'.length=true) (htd:Nat.blt t n=true) (hd:nf (d.ren (upN bs bx.length) (upN [] fr.length))=some d') (hB:nfb (VU bs [] bx fr.length bxs')=some bx2)
  (k:AL P ops rest ⟨n,(t,d')::tm,bx2,fr,ee⟩ Q):AL P ops (⟨some t,.call { callee:=.value (.func f),args:=ars,argTypes:=ats },ty,pos,after,none⟩::rest) ⟨n,tm,bx,fr,ee⟩ Q:=by
 subst hc
 exact ON bs (AC.unwk hQ) hf rfl hb hbx hle htd hd hB k
end
end Go.Av
end
section
open Go.RowKit Go.Pl
namespace Go.Av
end Go.Av
end
section
open Go.RowKit Go.Pl
namespace Go.Av
theorem JX [Known]{g:G}{w w':World}{e:Ending}{d:D}{v:Value}(hm:Mem g [] [] w)(hb:Below w.heap.size w w')(he:e=.returned v)(hv:V w g [] d v) :
  ∃ g' bx' fr' r,Evo ⟨g,[],w⟩ ⟨g',fr',w'⟩/\Mem g' bx' fr' w'/\R.is w' g' fr' e r/\(r=.ret d/\bx'=[]/\fr'=[]):=by
 have hρ:g.ρ=[]:=List.length_eq_zero_iff.1 hm.bl
 have hτ:g.τ=[]:=List.length_eq_zero_iff.1 hm.tl
 have hevo:Evo ⟨g,[],w⟩ ⟨g,[],w'⟩:=⟨hb.os,hb.tape,hb.output,hb.size,fun k hk _=>hb.block k hk,fun _ _ h=>h,fun k o hk=>World.cell?_of_block (hb.block k (hm.Clt k o hk)),fun _ _ h=>.inl h,fun _ _ h=>h,fun _ h=>.inl h,fun _ c h=>.inl ⟨c,h⟩,fun i f h=>by simp at h⟩
 exact⟨g,[],[],.ret d,hevo,⟨hm.bl,fun i k cs h=>by simp[hρ]at h,hm.bC,hm.bN,hm.tl,fun i k c f h=>by simp[hτ]at h,hm.tN,hm.tρ,fun k o hk=>Nat.lt_of_lt_of_le (hm.Clt k o hk) hb.size,hm.gl.evo hevo⟩,⟨v,he,hv.evo hevo⟩,rfl,rfl,rfl⟩
section
variable {P:Program} {Q:X->St->Prop} {n:Nat} {ee:Nat × Nat} {tm:List (Nat × D)} {bx bx':List (List D)} {fr fr':List Fr} {b0:Bs} {g:G} {w:World} {a:Act} {T:Tab}
variable {ops:Array Oper} {rest:List Oper} {t ty:Nat} {pos:String} {after:Array Edge}
theorem VH [Known][Dfr](hT:chk P T=true){x:Operand}{st:Nat}{s s2:List UInt8}{lo hi':Option Operand}{p q:Nat}{ti:Ti}(hx:ev tm x=.str s)(ht:tl T st=some ti)(hk:ti.kd=.str)(htd:Nat.blt t n=true)
  (hlo:Bnd tm lo 0 p) (hhi:Bnd tm hi' s.length q) (hpq:p<=q) (hq:q<=s.length) (hs2:(s.take q).drop p=s2)
  (kk:AL P ops rest ⟨n,(t,.str s2)::tm,bx,fr,ee⟩ Q):AL P ops (⟨some t,.slice st x lo hi' none,ty,pos,after,none⟩::rest) ⟨n,tm,bx,fr,ee⟩ Q:=
 ZR _ htd (fun g a w hi=>by
  have h1:V w g fr (ev tm x) (a.eval x):=hi.ev x
  rw[hx]at h1
  obtain⟨h1,hl⟩:=h1.str_inv
  have hu:=(ZF hT ht).str hk
  have hsz:(⟨s.toArray⟩:ByteArray).size=s.length:=by show s.toArray.size=_;simp
  have hb:=Bnd.runs (S:=⟨n,tm,bx,fr,_⟩) (P:=P) (cap:=s.length) hlo hhi hi hpq hq false
  refine⟨.string ⟨s2.toArray⟩,?_,.str _ (by subst hs2;simp;omega)⟩
  have hex:(⟨s.toArray⟩:ByteArray).extract p q=⟨s2.toArray⟩:=by
   apply ByteArray.ext
   subst hs2
   apply Array.ext'
   simp[ByteArray.data_extract,List.extract_eq_take_drop,List.drop_take]
  have hrun:(Instr.sliceAt st (.string ⟨s.toArray⟩) (lo.map a.eval) (hi'.map a.eval) none).run P w=.ok (.string ⟨s2.toArray⟩) w:=by
   simp[Instr.sliceAt,Instr.slice,Sem.run_bind,run_underlying hu,hsz,hb,hex]
  simp only[execOp,h1,Sem.run_bind,Option.map_none,hrun,Result.andThen_ok]
  rfl) kk
end
end Go.Av
end
section
open Go.RowKit Go.Pl
namespace Go.Av
def AN [Known][Dfr](P:Program)(c:Code)(Q:X->St->Prop):Nat->St->Prop
 | 0,_=>False
 | n+1,S=>AW P c S (X.then (AN P c Q n) Q)
structure ANs [Known][Dfr](P:Program) (c:Code) (Q:X->St->Prop) (n:Nat) (S:St):Prop where
 run:AN P c Q n S
theorem U1 [Known][Dfr]{P:Program}{c:Code}{Q:X->St->Prop}{n:Nat}{S:St}(h:AW P c S (X.then (ANs P c Q n) Q)):ANs P c Q (n+1) S:=
 ⟨Kj h fun x S hx=>by
  cases x with
  | norm=>exact hx.run
  | _=>exact hx⟩
theorem Q4 [Known][Dfr]{P:Program}{c:Code}{Q:X->St->Prop}{b0:Bs}:∀(n:Nat) (S:St) (g:G) (a:Act) (w:World),AN P c Q n S->Inv b0 S g a w->Code.rounds P c (Ve b0 Q) n a w
 | 0,_,_,_,_,h,_=>h.elim
 | n+1,S,g,a,w,h,hi=>by
  rw[rounds_succ]
  refine wp_mono (AW.run (show AW P c S (X.then (AN P c Q n) Q) from h) b0 g a w hi) fun e a w hc=>?_
  cases e<;>simp only[Ve,X.then,Exit.then]at hc ⊢
  ·obtain⟨S',g',hi',h'⟩:=hc
   exact Q4 n S' g' a w h' hi'
  all_goals exact hc
theorem V9 [Known][Dfr]{P:Program}{c:Code}{Q:X->St->Prop}{S:St}(n:Nat)(h:ANs P c Q n S):AW P (.loop c) S Q:=
 ⟨fun b0 g a w hi=>wp_loop_rounds n (Q4 n S g a w h.run hi)⟩
end Go.Av
end
section
open Go.RowKit Go.Pl
namespace Go.Av
def AT [Known](P:Program)(f:FuncId)(args:List D)(bx:List (List D))(fr:List Fr)(d:D)(bx':List (List D))(fr':List Fr):Prop:=AC P f args bx fr fun r b t=>r=.ret d/\b=bx'/\t=fr'
theorem Vf {P:Program}{rs:List ResultVar}{S:St}{d d':D}{ds:List D}{bx' B:List (List D)}{fr' F:List Fr}{k m:Nat}(bs ts:List Nat)(h:ResL P S rs ds)(hb:Vm bs S.bx.length=true)(ht:Vm ts S.fr.length=true)(hk:Kt k bs=true)(hm:Kt m ts=true)
  (hn:nf ((JM ds).ren (idx bs) (idx ts))=some d') (hB:nfb (Uo bs ts S.bx)=some B) (hF:nfl (WX ts S.fr)=some F) (hd:d'=d) (hB':B=bx') (hF':F=fr') :
  VT P rs k m (fun r b t=>r=.ret d/\b=bx'/\t=fr') .ret S:=
 ⟨ds,bs,ts,h,Wi hb,Wi ht,Qc hk,Qc hm,by rw[Yj hn,hd],by rw[Yv hB,hB'],by rw[Yq hF,hF']⟩
section
variable {P:Program} {Q:X->St->Prop} {n:Nat} {ee:Nat × Nat} {tm:List (Nat × D)} {bx:List (List D)} {fr:List Fr} {ops:Array Oper} {rest:List Oper} {ty:Nat} {pos:String} {after:Array Edge} {f:FuncId} {ars:Array Operand} {ats:Array TypeId}
theorem ZZ [Known][Dfr]{t:Nat}{cds:List D}{d d':D}{bxs bxs' bx2:List (List D)}{frs frs' fr2:List Fr}(bs ts:List Nat)(hQ:AT P f cds bxs frs d bxs' frs')(hf:Ur P f=true)
  (hc:(ars.toList.map (ev tm)).map (D.ren (idx bs) (idx ts))=cds) (hb:Vm bs bx.length=true) (ht:Vm ts fr.length=true) (hbx:Uo bs ts bx=bxs) (hfr:WX ts fr=frs) (hle:Nat.ble bs.length bxs'.length=true) (htd:Nat.blt t n=true)
  (hd:nf (d.ren (upN bs bx.length) (upN ts fr.length))=some d') (hB:nfb (VU bs ts bx fr.length bxs')=some bx2) (hF:nfl (WK ts fr frs')=some fr2)
  (k:AL P ops rest ⟨n,(t,d')::tm,bx2,fr2,ee⟩ Q):AL P ops (⟨some t,.call { callee:=.value (.func f),args:=ars,argTypes:=ats },ty,pos,after,none⟩::rest) ⟨n,tm,bx,fr,ee⟩ Q:=by
 refine UY bs ts hf hQ hc (Wi hb) (Wi ht) hbx hfr htd (fun _ _ _ h=>by cases h.1) fun d0 bx' fr' h=>?_
 obtain⟨h1,rfl,rfl⟩:=h
 injection h1 with h1
 subst h1
 refine⟨Nat.le_of_ble_eq_true hle,?_⟩
 have e1:=Yj hd
 have e2:=Yv hB
 have e3:=Yq hF
 subst e1 e2 e3
 exact k
end
end Go.Av
end
section
open Go.RowKit Go.Pl
namespace Go.Av
section
variable {P:Program} {Q:X->St->Prop} {n:Nat} {ee:Nat × Nat} {tm:List (Nat × D)} {bx:List (List D)} {fr:List Fr} {ops:Array Oper} {rest:List Oper}
end
section
variable {P:Program} {Q:X->St->Prop} {n:Nat} {ee:Nat × Nat} {tm:List (Nat × D)} {bx bx':List (List D)} {fr fr':List Fr} {b0:Bs} {g:G} {w:World} {a:Act} {T:Tab}
variable {ops:Array Oper} {rest:List Oper} {t ty:Nat} {pos:String} {after:Array Edge}
theorem Mem.lit2 [Known](hm:Mem g bx fr w)(cur:List Value)(l:List E)(sz cap:Nat)(e:TypeId)(mk:Nat × Nat)(hcur:l.length*sz<=cur.length)(hl:l.length<=cap)(hcap:cap<=maxLen)(hU:Uni sz l)
  (hv:∀(j:Nat) (x:E) (u:Value),(flat l)[j]?=some x->cur[j]?=some u->VE w g.C x u) :
  Evo ⟨g,fr,w⟩ ⟨g.lit w (l.length*sz),fr,w.alloc (.cells cur.toArray e mk)⟩/\Mem (g.lit w (l.length*sz)) bx fr (w.alloc (.cells cur.toArray e mk)) /\
   V (w.alloc (.cells cur.toArray e mk)) (g.lit w (l.length*sz)) fr (.sl .ext l) (.slice (some ⟨w.heap.size,0,none⟩) l.length cap):=by
 have hevo:Evo ⟨g,fr,w⟩ ⟨g.lit w (l.length*sz),fr,w.alloc (.cells cur.toArray e mk)⟩:=by
  refine⟨rfl,rfl,rfl,by simp,fun k hk _=>Below.heap_alloc w _ k hk,fun _ _ h=>.inl h,fun k o h=>Y9 w _ (hm.Clt k o h) o,fun k o h=>?_,fun _ _ h=>h,fun _ h=>.inl h,fun k c h=>.inl ⟨c,h⟩,YK.refl _ _⟩
  rcases h with h|⟨h,_⟩
  ·exact .inl h
  ·exact .inr (.inl (by simp[h]))
 have hflat:=hU.flat
 refine⟨hevo,?_,?_⟩
 ·constructor
  ·exact hm.bl
  ·intro i k cs h1 h2
   obtain⟨us,ut,k1,k2,k3⟩:=hm.bat i k cs h1 h2
   exact⟨us,ut,(Below.heap_alloc w _ k (Array.getElem?_eq_some_iff.1 k1).1).trans k1,k2,fun j d v hd hv=>(k3 j d v hd hv).evo hevo⟩
  ·intro k o hk hC
   rcases hC with hC|⟨hC,_⟩
   ·exact hm.bC k o hk hC
   ·have:=hm.lt (.inl hk);omega
  ·exact hm.bN
  ·exact hm.tl
  ·intro i k c f h1 h2
   have hTk:=hm.tat i k c f h1 h2
   obtain⟨cur',s1,s2⟩:=hTk.row
   have hklt:=(Array.getElem?_eq_some_iff.1 s1).1
   refine⟨⟨cur',(Below.heap_alloc w _ k hklt).trans s1,s2⟩,hTk.le,hTk.max,hTk.pos,fun o ho hC=>?_⟩
   rcases hC with hC|⟨hC,_⟩
   ·exact hTk.far o ho hC
   ·omega
  ·exact hm.tN
  ·exact hm.tρ
  ·intro k o hC
   rcases hC with hC|⟨hC,_⟩
   ·have:=hm.Clt k o hC;simp;omega
   ·simp[hC]
  ·exact hm.gl.evo hevo
 ·refine .sl _ _ _ (.slC l w.heap.size 0 cap (fun j=>cur.getD j undef) hl hcap (fun j hj=>.inr ⟨rfl,by rw[hflat]at hj;omega⟩) (fun j hj=>?_) (fun j x hx=>?_)) trivial
  ·rw[Nat.zero_add,World.cell?_alloc_mark]
   have:j<cur.length:=by omega
   simp[List.getD,this]
  ·have hj:=(List.getElem?_eq_some_iff.1 hx).1
   have hlt:j<cur.length:=by omega
   refine(hv j x _ hx (by rw[List.getElem?_eq_getElem hlt];simp[List.getD,hlt])).mono (fun _ _ h=>.inl h) fun k o h=>Y9 w _ (hm.Clt k o h) o
theorem GT [Known][Dfr](hT:chk P T=true){x:Operand}{src dst e:Nat}{s:List UInt8}{ti td te:Ti}(hx:ev tm x=.str s)(ht:tl T src=some ti)(hk:ti.kd=.str)(htds:tl T dst=some td)(hkd:td.kd=.slice e)(hte:tl T e=some te)(hke:te.kd=.int .u8)(htd:Nat.blt t n=true)
  (k:AL P ops rest ⟨n,(t,.sl .ext (s.map E.byte))::tm,bx,fr,ee⟩ Q):AL P ops (⟨some t,.convert src dst x,ty,pos,after,none⟩::rest) ⟨n,tm,bx,fr,ee⟩ Q:=
 Vj _ htd (fun g a w hi=>by
  have h1:V w g fr (ev tm x) (a.eval x):=hi.ev x
  rw[hx]at h1
  obtain⟨h1,hl⟩:=h1.str_inv
  have hs:=(ZF hT ht).str hk
  have hd:=(ZF hT htds).slice hkd
  have he:=(ZF hT hte).int hke
  have hsz:(⟨s.toArray⟩:ByteArray).size=s.length:=by show s.toArray.size=_;simp
  have hrun:=run_bytes_of_string (P:=P) w src dst e ⟨s.toArray⟩ hs hd he
  rw[hsz]at hrun
  have hge:=grownCap_ge w s.length 0 e
  have hcm:=grownCap_le_maxLen w s.length 0 e hl
  generalize grownCap w s.length 0 e=C at hrun hge hcm
  have hrow:bytesRow ⟨s.toArray⟩ C=(bytesRow ⟨s.toArray⟩ C).toList.toArray:=by simp
  rw[hrow]at hrun
  have hcell:∀ j,j<s.length->(bytesRow ⟨s.toArray⟩ C).toList[j]?=some (.int .u8 ((s[j]?.getD 0).toNat:Int)):=fun j hj=>by
   simp only[bytesRow,Array.toList_append,Array.toList_map,List.toList_toArray,Array.toList_replicate]
   rw[List.getElem?_append_left (by simpa using hj)]
   simp[hj]
  have hlen:s.length<=(bytesRow ⟨s.toArray⟩ C).toList.length:=by
   simp[bytesRow]
  have hfl:∀ l:List UInt8,flat (l.map E.byte)=l.map E.byte:=fun l=>by induction l with|nil=>rfl|cons x l ih=>simp[E.cells,ih]
  obtain⟨k1,k2,k3⟩:=(hi.mem.drew).lit2 (bytesRow ⟨s.toArray⟩ C).toList (s.map E.byte) 1 C e ((bytesRow ⟨s.toArray⟩ C).toList.toArray.size,(bytesRow ⟨s.toArray⟩ C).toList.toArray.size+1) (by simpa using hlen) (by simpa using hge) hcm (Uni.map (f:=E.byte) (fun _=>rfl) s) (fun j x u hx hu=>by
   rw[hfl]at hx
   have hj:j<s.length:=by have:=(List.getElem?_eq_some_iff.1 hx).1;simpa using this
   rw[hcell j hj]at hu
   injection hu with hu
   subst hu
   rw[List.getElem?_map,List.getElem?_eq_getElem hj]at hx
   simp at hx
   subst hx
   simp[hj]
   exact .int _ _)
  refine⟨.slice (some ⟨w.heap.size,0,none⟩) (s.map E.byte).length C,_,_,?_,Evo.drew.trans k1,k2,k3⟩
  rw[List.length_map]
  simp only[execOp,h1,Sem.run_bind,hrun,Result.andThen_ok]
  rfl) k
end
end Go.Av
end
section
open Go.RowKit Go.Pl
namespace Go.Av
section
variable {P:Program} {Q:X->St->Prop} {n:Nat} {ee:Nat × Nat} {tm:List (Nat × D)} {bx:List (List D)} {fr:List Fr}
variable {ops:Array Oper} {rest:List Oper} {t ty:Nat} {pos:String} {after:Array Edge}
end
end Go.Av
end
section
open Go.RowKit Go.Pl
namespace Go.Av
inductive Y where
 | pu (d:D)
 | ef (d:D) (bx:List (List D)) (fr:List Fr)
def Y.d:Y->D
 | .pu d=>d
 | .ef d _ _=>d
def Y.aft:Y->List (List D) × List Fr->List (List D) × List Fr
 | .pu _,s=>s
 | .ef _ b f,_=>(b,f)
def Yc (n i:Nat)(o:Oper):Nat:=match o.dst with
 | some t=>t
 | none=>n+i
def qY (o:Oper)(bx:List (List D))(fr:List Fr):Y->X->St->Prop
 | .pu d,.norm,S=>match o.dst with
  | some t=>qp t d bx fr .norm S
  | none=>d=.junk/\S.bx=bx/\S.fr=fr
 | .ef d b f,.norm,S=>S.bx=b/\S.fr=f/\match o.dst with
  | some t=>look S.tm t=d
  | none=>d=.junk
 | _,_,_=>False
theorem GU {o:Oper}{bx:List (List D)}{fr:List Fr}{y:Y}{x:X}{S:St}(h:qY o bx fr y x S):x=.norm:=by
 cases y<;>cases x<;>simp[qY]at h ⊢
def Vn (n:Nat)(o:Oper):Bool:=match o.dst with
 | some t=>Nat.blt t n
 | none=>true
inductive AE [Known][Dfr](P:Program) (l:List Oper) (n:Nat):Nat->List Oper->List (Nat × D)->List (List D)->List Fr->List Y->List (Nat × D)->List (List D)->List Fr->Prop
 | nil (i:Nat) (tm:List (Nat × D)) (bx:List (List D)) (fr:List Fr):AE P l n i [] tm bx fr [] tm bx fr
 | cons (i:Nat) (o:Oper) (rest:List Oper) (tm:List (Nat × D)) (bx:List (List D)) (fr:List Fr) (y:Y) (ys:List Y) (tm':List (Nat × D)) (bx':List (List D)) (fr':List Fr) (ht:Vn n o=true)
   (h:AL P l.toArray [o] ⟨n,Yi l o tm,bx,fr,(bx.length,fr.length)⟩ (qY o bx fr y)) (k:AE P l n (i+1) rest ((Yc n i o,y.d)::tm) (y.aft (bx,fr)).1 (y.aft (bx,fr)).2 ys tm' bx' fr'):AE P l n i (o::rest) tm bx fr (y::ys) tm' bx' fr'
def stg:List Y->List (List D) × List Fr->(Nat->Bool)->List (List D) × List Fr
 | [],s,_=>s
 | y::ys,s,p=>stg ys (match p 0 with|true=>y.aft s|false=>s) (fun j=>p (j+1))
def OO (ys:List Y)(i:Nat):Prop:=∃ d b f,ys[i]?=some (.ef d b f)
theorem Wc:∀(ys:List Y) (s:List (List D) × List Fr) (p q:Nat->Bool),(∀ i,OO ys i->p i=q i)->stg ys s p=stg ys s q
 | [],s,p,q,_=>rfl
 | y::ys,s,p,q,h=>by
  simp only[stg]
  have h1:(match p 0 with|true=>y.aft s|false=>s)=(match q 0 with|true=>y.aft s|false=>s):=by
   cases y with
   | pu d=>cases p 0<;>cases q 0<;>rfl
   | ef d b f=>rw[h 0 ⟨d,b,f,rfl⟩]
  rw[h1]
  exact Wc ys _ _ _ fun i ⟨d,b,f,hi⟩=>h (i+1) ⟨d,b,f,by simpa using hi⟩
theorem WQ:∀(ys:List Y) (s:List (List D) × List Fr) (p:Nat->Bool),(∀ i,OO ys i->p i=false)->stg ys s p=s
 | [],s,p,_=>rfl
 | y::ys,s,p,h=>by
  simp only[stg]
  have h1:(match p 0 with|true=>y.aft s|false=>s)=s:=by
   cases y with
   | pu d=>cases p 0<;>rfl
   | ef d b f=>rw[h 0 ⟨d,b,f,rfl⟩]
  rw[h1]
  exact WQ ys _ _ fun i ⟨d,b,f,hi⟩=>h (i+1) ⟨d,b,f,by simpa using hi⟩
theorem XS:∀(ys:List Y) (s:List (List D) × List Fr) (i:Nat) (y:Y),ys[i]?=some y->stg ys s (fun j=>decide (j<i+1))=y.aft (stg ys s (fun j=>decide (j<i)))
 | [],s,i,y,h=>by simp at h
 | y0::ys,s,0,y,h=>by
  simp at h;subst h
  simp only[stg]
  have e1:(match decide (0<0+1) with|true=>y0.aft s|false=>s)=y0.aft s:=by simp
  have e2:(match decide (0<0) with|true=>y0.aft s|false=>s)=s:=by simp
  rw[e1,e2,WQ ys _ _ (by intro i _;simp),WQ ys _ _ (by intro i _;simp)]
 | y0::ys,s,i+1,y,h=>by
  simp only[stg]
  have e1:(match decide (0<i+1+1) with|true=>y0.aft s|false=>s)=y0.aft s:=by simp
  have e2:(match decide (0<i+1) with|true=>y0.aft s|false=>s)=y0.aft s:=by simp
  rw[e1,e2]
  have:=XS ys (y0.aft s) i y (by simpa using h)
  simpa using this
section
variable {P:Program} {Q:X->St->Prop} {n:Nat} {ee:Nat × Nat} {tm tm':List (Nat × D)} {bx bx':List (List D)} {fr fr':List Fr} {b0:Bs} {g:G} {w:World} {a:Act} {ys:List Y}
theorem AE.steps [Known][Dfr]{l:List Oper}{i0:Nat}{rest:List Oper}(h:AE P l n i0 rest tm bx fr ys tm' bx' fr'):∃ ds:List (Nat × D),ds.length=rest.length/\ys.length=rest.length/\tm'=ds.reverse++tm/\stg ys (bx,fr) (fun _=>true)=(bx',fr') /\
  ∀(i:Nat) (o:Oper),rest[i]?=some o->∃ y,ys[i]?=some y/\ds[i]?=some (Yc n (i0+i) o,y.d)/\Vn n o=true /\
   AL P l.toArray [o] ⟨n,Yi l o ((ds.take i).reverse++tm),(stg ys (bx,fr) (fun j=>decide (j<i))).1,(stg ys (bx,fr) (fun j=>decide (j<i))).2,((stg ys (bx,fr) (fun j=>decide (j<i))).1.length,(stg ys (bx,fr) (fun j=>decide (j<i))).2.length)⟩ (qY o (stg ys (bx,fr) (fun j=>decide (j<i))).1 (stg ys (bx,fr) (fun j=>decide (j<i))).2 y):=by
 induction h with
 | nil i tm bx fr=>exact⟨[],rfl,rfl,rfl,rfl,fun i o h=>by simp at h⟩
 | cons i o rest tm bx fr y ys tm' bx' fr' ht h k ih=>
  obtain⟨ds,h1,h2,h3,h4,h5⟩:=ih
  refine⟨(Yc n i o,y.d)::ds,by simp[h1],by simp[h2],by simp[h3],?_,fun j o' ho=>?_⟩
  ·simp only[stg];exact h4
  cases j with
  | zero=>
   simp at ho;subst ho
   have e:stg (y::ys) (bx,fr) (fun j=>decide (j<0))=(bx,fr):=WQ _ _ _ (by intro i _;simp)
   refine⟨y,rfl,by simp,ht,?_⟩
   rw[e]
   simpa using h
  | succ j=>
   simp at ho
   obtain⟨y',q1,q2,q3,q4⟩:=h5 j o' ho
   have e:stg (y::ys) (bx,fr) (fun x=>decide (x<j+1))=stg ys (y.aft (bx,fr)) (fun x=>decide (x<j)):=by
    simp only[stg]
    have e2:(match decide (0<j+1) with|true=>y.aft (bx,fr)|false=>(bx,fr))=y.aft (bx,fr):=by simp
    rw[e2]
    exact Wc _ _ _ _ fun i _=>by simp
   refine⟨y',by simpa using q1,by rw[show i+(j+1)=i+1+j from by omega];simpa using q2,q3,?_⟩
   rw[e]
   simpa using q4
def Vg:Nat->List Y->List Nat
 | _,[]=>[]
 | i,.pu _::ys=>Vg (i+1) ys
 | i,.ef _ _ _::ys=>i::Vg (i+1) ys
def Ua:Nat->List Y->List (Nat × List (List D) × List Fr)
 | _,[]=>[]
 | i,.pu _::ys=>Ua (i+1) ys
 | i,.ef _ b f::ys=>(i+1,b,f)::Ua (i+1) ys
theorem YR:∀ {ys:List Y} {i0 e:Nat},e ∈ Vg i0 ys ↔ ∃ i,e=i0+i/\OO ys i
 | [],i0,e=>by simp[Vg,OO]
 | .pu d::ys,i0,e=>by
  simp only[Vg]
  rw[YR]
  constructor
  ·rintro⟨i,rfl,d,b,f,h⟩;exact⟨i+1,by omega,d,b,f,by simpa using h⟩
  ·rintro⟨i,rfl,d,b,f,h⟩
   cases i with
   | zero=>simp at h
   | succ i=>exact⟨i,by omega,d,b,f,by simpa using h⟩
 | .ef d b f::ys,i0,e=>by
  simp only[Vg,List.mem_cons]
  rw[YR]
  constructor
  ·rintro(rfl|⟨i,rfl,d,b,f,h⟩)
   ·exact⟨0,by omega,d,b,f,rfl⟩
   ·exact⟨i+1,by omega,d,b,f,by simpa using h⟩
  ·rintro⟨i,rfl,d,b,f,h⟩
   cases i with
   | zero=>exact .inl (by omega)
   | succ i=>exact .inr ⟨i,by omega,d,b,f,by simpa using h⟩
theorem Uw:∀ {ys:List Y} {i0 i:Nat} {d:D} {b:List (List D)} {f:List Fr},ys[i]?=some (.ef d b f)->(i0+i+1,b,f) ∈ Ua i0 ys
 | .pu d::ys,i0,0,_,_,_,h=>by simp at h
 | .pu d::ys,i0,i+1,_,_,_,h=>by
  simp only[Ua]
  have:=Uw (i0:=i0+1) (by simpa using h)
  rw[show i0+(i+1)+1=i0+1+i+1 from by omega];exact this
 | .ef d b f::ys,i0,0,_,_,_,h=>by
  simp at h
  obtain⟨_,rfl,rfl⟩:=h
  simp[Ua]
 | .ef d b f::ys,i0,i+1,_,_,_,h=>by
  simp only[Ua]
  have:=Uw (i0:=i0+1) (by simpa using h)
  rw[show i0+(i+1)+1=i0+1+i+1 from by omega];exact List.mem_cons_of_mem _ this
 | [],i0,i,_,_,_,h=>by simp at h
def IX (l:List Oper)(es:List Nat)(i c:Nat):Bool:=!(es.all fun e=>decide (e<c)==decide (e<i))&&es.all fun e=>(!up (Yr [] l) i e||decide (e<c))&&(!up (Yr [] l) e i||decide (c<=e))
def GC (l:List Oper)(es:List Nat):Bool:=es.all fun e=>es.all fun e'=>!decide (e<e')||up (Yr [] l) e' e
def Qf (n:Nat)(l:List Oper):Bool:=l.all fun o=>(YQ l o).all fun t=>Nat.blt t n
inductive AOs [Known][Dfr](P:Program) (l:List Oper) (n:Nat) (es:List Nat) (i:Nat) (o:Oper) (tm:List (Nat × D)) (d:D):List (Nat × List (List D) × List Fr)->Prop
 | nil:AOs P l n es i o tm d []
 | skip (c:Nat) (bx:List (List D)) (fr:List Fr) (sts:List (Nat × List (List D) × List Fr)) (h:IX l es i c=false) (k:AOs P l n es i o tm d sts):AOs P l n es i o tm d ((c,bx,fr)::sts)
 | go (c:Nat) (bx:List (List D)) (fr:List Fr) (sts:List (Nat × List (List D) × List Fr)) (h:AL P l.toArray [o] ⟨n,Yi l o tm,bx,fr,(bx.length,fr.length)⟩ (qY o bx fr (.pu d))) (k:AOs P l n es i o tm d sts):AOs P l n es i o tm d ((c,bx,fr)::sts)
inductive AO [Known][Dfr](P:Program) (l:List Oper) (n:Nat) (es:List Nat) (sts:List (Nat × List (List D) × List Fr)):Nat->List Oper->List Y->List (Nat × D)->Prop
 | nil (i:Nat) (ys:List Y) (tm:List (Nat × D)):AO P l n es sts i [] ys tm
 | ef (i:Nat) (o:Oper) (rest:List Oper) (d:D) (bx:List (List D)) (fr:List Fr) (ys:List Y) (tm:List (Nat × D)) (k:AO P l n es sts (i+1) rest ys ((Yc n i o,d)::tm)):AO P l n es sts i (o::rest) (.ef d bx fr::ys) tm
 | pu (i:Nat) (o:Oper) (rest:List Oper) (d:D) (ys:List Y) (tm:List (Nat × D)) (h:AOs P l n es i o tm d sts) (k:AO P l n es sts (i+1) rest ys ((Yc n i o,d)::tm)):AO P l n es sts i (o::rest) (.pu d::ys) tm
theorem AOs.get [Known][Dfr]{l:List Oper}{es:List Nat}{i:Nat}{o:Oper}{d:D}{sts:List (Nat × List (List D) × List Fr)}(h:AOs P l n es i o tm d sts):∀ {c:Nat} {b:List (List D)} {f:List Fr},(c,b,f) ∈ sts->IX l es i c=false\/AL P l.toArray [o] ⟨n,Yi l o tm,b,f,(b.length,f.length)⟩ (qY o b f (.pu d)):=by
 induction h with
 | nil=>intro c b f h;cases h
 | skip c bx fr sts h k ih=>
  intro c' b f hm
  rcases List.mem_cons.1 hm with hm|hm
  ·cases hm;exact .inl h
  ·exact ih hm
 | go c bx fr sts h k ih=>
  intro c' b f hm
  rcases List.mem_cons.1 hm with hm|hm
  ·cases hm;exact .inr h
  ·exact ih hm
theorem AO.get [Known][Dfr]{l:List Oper}{es:List Nat}{sts:List (Nat × List (List D) × List Fr)}{i0:Nat}{rest:List Oper}(h:AO P l n es sts i0 rest ys tm):∀ {i:Nat} {o:Oper} {d:D},rest[i]?=some o->ys[i]?=some (.pu d)->∀(ds:List (Nat × D)),(∀(j:Nat) (oj:Oper) (y:Y),j<i->rest[j]?=some oj->ys[j]?=some y->ds[j]?=some (Yc n (i0+j) oj,y.d))->i<=ds.length->AOs P l n es (i0+i) o ((ds.take i).reverse++tm) d sts:=by
 induction h with
 | nil i ys tm=>intro i o d h;simp at h
 | ef i0 o0 rest d0 bx fr ys tm k ih=>
  intro i o d ho hy ds hds hl
  cases i with
  | zero=>simp at hy
  | succ i=>
   cases ds with
   | nil=>simp at hl
   | cons p ds=>
    have h0:=hds 0 o0 _ (by omega) rfl rfl
    simp at h0
    subst h0
    have:=ih (i:=i) (by simpa using ho) (by simpa using hy) ds (fun j oj y hj h1 h2=>by
     have:=hds (j+1) oj y (by omega) (by simpa using h1) (by simpa using h2)
     rw[show i0+1+j=i0+(j+1) from by omega];simpa using this) (by simpa using hl)
    rw[show i0+(i+1)=i0+1+i from by omega]
    simpa[Y.d]using this
 | pu i0 o0 rest d0 ys tm h k ih=>
  intro i o d ho hy ds hds hl
  cases i with
  | zero=>
   simp at ho hy
   subst ho hy
   simpa using h
  | succ i=>
   cases ds with
   | nil=>simp at hl
   | cons p ds=>
    have h0:=hds 0 o0 _ (by omega) rfl rfl
    simp at h0
    subst h0
    have:=ih (i:=i) (by simpa using ho) (by simpa using hy) ds (fun j oj y hj h1 h2=>by
     have:=hds (j+1) oj y (by omega) (by simpa using h1) (by simpa using h2)
     rw[show i0+1+j=i0+(j+1) from by omega];simpa using this) (by simpa using hl)
    rw[show i0+(i+1)=i0+1+i from by omega]
    simpa[Y.d]using this
theorem OP {p:Nat->Bool}:∀(es:List Nat),(∀ e ∈ es,∀ e' ∈ es,e<e'->p e'=true->p e=true)->∃ c,(c=0\/∃ e ∈ es,c=e+1/\p e=true)/\∀ e ∈ es,p e=decide (e<c)
 | [],_=>⟨0,.inl rfl,by simp⟩
 | e::es,h=>by
  obtain⟨c,h1,h2⟩:=OP es fun x hx y hy=>h x (by simp[hx]) y (by simp[hy])
  cases hp:p e with
  | true=>
   rcases Nat.lt_or_ge e c with hc|hc
   ·refine⟨c,h1.imp id fun⟨x,hx,k⟩=>⟨x,by simp[hx],k⟩,fun x hx=>?_⟩
    rcases List.mem_cons.1 hx with rfl|hx
    ·simp[hp,hc]
    ·exact h2 x hx
   ·refine⟨e+1,.inr ⟨e,by simp,rfl,hp⟩,fun x hx=>?_⟩
    rcases List.mem_cons.1 hx with rfl|hx'
    ·simp[hp]
    ·rcases Nat.lt_trichotomy x e with hlt|rfl|hgt
     ·rw[h x hx e (by simp) hlt hp];simp;omega
     ·rw[hp];simp
     ·rw[h2 x hx'];simp;omega
  | false=>
   refine⟨c,h1.imp id fun⟨x,hx,k⟩=>⟨x,by simp[hx],k⟩,fun x hx=>?_⟩
   rcases List.mem_cons.1 hx with rfl|hx'
   ·rw[hp]
    rcases h1 with rfl|⟨y,hy,rfl,hpy⟩
    ·simp
    ·have:¬ x<y+1:=fun hlt=>by
      rcases Nat.lt_or_ge x y with h3|h3
      ·have:=h x (by simp) y (by simp[hy]) h3 hpy
       rw[hp]at this;cases this
      ·have:x=y:=by omega
       subst this
       rw[hp]at hpy;cases hpy
     simp[this]
   ·exact h2 x hx'
end
end Go.Av
end
