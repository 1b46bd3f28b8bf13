/- Contracts of functions that are handed variables and tokens. -/
import Derived.Test.YtchlgagdbflkmaaP06
import Derived.WideLaws
set_option linter.unusedSimpArgs false
set_option linter.unusedVariables false
section
open Go.RowKit Go.Pl
namespace Go.Av
def AT [Known](P:Program)(f:FuncId)(args:List D)(bx:List (List D))(fr:List Fr)(d:D)(bx':List (List D))(fr':List Fr):Prop:=AC P f args bx fr fun r b t=>r=.ret d/\b=bx'/\t=fr'
theorem Yu {P:Program}{rs:List ResultVar}{S:St}{d d':D}{ds:List D}{bx' B:List (List D)}{fr' F:List Fr}{k m:Nat}(bs ts:List Nat)(h:ResL P S rs ds)(hb:YC bs S.bx.length=true)(ht:YC ts S.fr.length=true)(hk:Vs k bs=true)(hm:Vs m ts=true)
  (hn:nf ((Vl ds).ren (idx bs) (idx ts))=some d') (hB:nfb (Wk bs ts S.bx)=some B) (hF:nfl (YV ts S.fr)=some F) (hd:d'=d) (hB':B=bx') (hF':F=fr') :
  Vm P rs k m (fun r b t=>r=.ret d/\b=bx'/\t=fr') .ret S:=
 ⟨ds,bs,ts,h,Yc hb,Yc ht,Y7 hk,Y7 hm,by rw[Yd hn,hd],by rw[Yi hB,hB'],by rw[Z4 hF,hF']⟩
theorem Xq {P:Program}{rs:List ResultVar}{S:St}{d d':D}{ds:List D}{bx' B:List (List D)}{fr' F:List Fr}{k m:Nat}(bs ts:List Nat)(h:ResL P S rs ds)(hb:YC bs S.bx.length=true)(ht:YC ts S.fr.length=true)(hk:Vs k bs=true)(hm:Vs m ts=true)
  (hn:nf ((Vl ds).ren (idx bs) (idx ts))=some d') (hB:nfb (Wk bs ts S.bx)=some B) (hF:nfl (YV ts S.fr)=some F) (hd:d'=d) (hB':B=bx') (hF':F=fr') :
  Vm P rs k m (fun r b t=>r=.ret d/\b=bx'/\t=fr') .norm S:=
 ⟨ds,bs,ts,h,Yc hb,Yc ht,Y7 hk,Y7 hm,by rw[Yd hn,hd],by rw[Yi hB,hB'],by rw[Z4 hF,hF']⟩
section
variable {P:Program} {Q:X->St->Prop} {n:Nat} {ee:Nat × Nat} {tm:List (Nat × D)} {bx:List (List D)} {fr:List Fr} {ops:Array Oper} {rest:List Oper} {ty:Nat} {pos:String} {after:Array Edge} {f:FuncId} {ars:Array Operand} {ats:Array TypeId}
theorem Zc [Known][Dfr]{t:Nat}{cds:List D}{d d':D}{bxs bxs' bx2:List (List D)}{frs frs' fr2:List Fr}(bs ts:List Nat)(hQ:AT P f cds bxs frs d bxs' frs')(hf:W1 P f=true)
  (hc:(ars.toList.map (ev tm)).map (D.ren (idx bs) (idx ts))=cds) (hb:YC bs bx.length=true) (ht:YC ts fr.length=true) (hbx:Wk bs ts bx=bxs) (hfr:YV ts fr=frs) (hle:Nat.ble bs.length bxs'.length=true) (htd:Nat.blt t n=true)
  (hd:nf (d.ren (upN bs bx.length) (upN ts fr.length))=some d') (hB:nfb (WL bs ts bx fr.length bxs')=some bx2) (hF:nfl (Y5 ts fr frs')=some fr2)
  (k:AL P ops rest ⟨n,(t,d')::tm,bx2,fr2,ee⟩ Q):AL P ops (⟨some t,.call { callee:=.value (.func f),args:=ars,argTypes:=ats },ty,pos,after,none⟩::rest) ⟨n,tm,bx,fr,ee⟩ Q:=by
 refine V6 bs ts hf hQ hc (Yc hb) (Yc ht) hbx hfr htd (fun _ _ _ h=>by cases h.1) fun d0 bx' fr' h=>?_
 obtain⟨h1,rfl,rfl⟩:=h
 injection h1 with h1
 subst h1
 refine⟨Nat.le_of_ble_eq_true hle,?_⟩
 have e1:=Yd hd
 have e2:=Yi hB
 have e3:=Z4 hF
 subst e1 e2 e3
 exact k
end
end Go.Av
end
section
open Go.RowKit Go.Pl
namespace Go.Av
def XD (t:Option Nat)(d:D)(tm:List (Nat × D)):List (Nat × D):=match t with
 | some t=>(t,d)::tm
 | none=>tm
def X2 (t:Option Nat)(n:Nat):Bool:=match t with
 | some t=>Nat.blt t n
 | none=>true
def U3 [Known](P:Program)(rs:List ResultVar)(t:Option Nat)(n:Nat)(tm:List (Nat × D))(ee:Nat × Nat)(ops:Array Oper)(rest:List Oper)(Q:X->St->Prop):X->St->Prop
 | .norm,S=>∃ ds d,ResL P S rs ds/\Vl ds=d/\AL P ops rest ⟨n,XD t d tm,S.bx,S.fr,ee⟩ Q
 | .ret,S=>∃ ds d,ResL P S rs ds/\Vl ds=d/\AL P ops rest ⟨n,XD t d tm,S.bx,S.fr,ee⟩ Q
 | .pan d,S=>Q (.pan d) ⟨n,tm,S.bx,S.fr,ee⟩
 | _,_=>False
section
variable {P:Program} {Q:X->St->Prop} {n:Nat} {ee:Nat × Nat} {tm:List (Nat × D)} {bx:List (List D)} {fr:List Fr} {ops:Array Oper} {rest:List Oper}
theorem Y3 [Known]{rs:List ResultVar}{t:Nat}{S:St}{ds:List D}{d:D}(h:ResL P S rs ds)(hn:nf (Vl ds)=some d)(k:AL P ops rest ⟨n,(t,d)::tm,S.bx,S.fr,ee⟩ Q):U3 P rs (some t) n tm ee ops rest Q .ret S:=
 ⟨ds,d,h,Yd hn,k⟩
theorem X3 [Known]{t:Option Nat}{ty:Nat}{pos:String}{after:Array Edge}{f:FuncId}{ars:Array Operand}{ats:Array TypeId}{fn:Func}{c:Code}{n':Nat}{rs:List ResultVar}{cds:List D}
  (hf:P.funcs[f]?=some fn) (hn:fn.ntmps=n') (hb:fn.body=some c) (hr:fn.results=rs.toArray) (hif:W1 P f=true) (hc:nfs (ars.toList.map (ev tm))=some cds) (hl:Nat.ble cds.length n'=true) (ht:X2 t n=true)
  (h:AW P c ⟨n',Y9 0 cds,bx,fr,(bx.length,fr.length)⟩ (U3 P rs t n tm ee ops rest Q)):AL P ops (⟨t,.call { callee:=.value (.func f),args:=ars,argTypes:=ats },ty,pos,after,none⟩::rest) ⟨n,tm,bx,fr,ee⟩ Q:=by
 refine⟨fun b0 g a w hi=>?_⟩
 refine wpList_plain rfl fun K hK=>?_
 have hrun:(execOp a.eval ⟨t,.call { callee:=.value (.func f),args:=ars,argTypes:=ats },ty,pos,after,none⟩).run P w=.ok (.enter f (ars.toList.map a.eval).toArray) w:=by
  have e:ars.map a.eval=(ars.toList.map a.eval).toArray:=by rw[<- Array.toList_map,Array.toArray_toList]
  have hz:=Y0 hif (ars.toList.map a.eval).toArray w
  rw[<- e]at hz ⊢
  simpa[execOp,resolve,Act.eval,Deferred.ofValue,invoke,Sem.run_bind]using hz
 unfold Oper.wp
 rw[hrun]
 have hm:=hi.mem
 have hcds:=YD hc
 have hle:=Nat.le_of_ble_eq_true hl
 have hlen:(ars.toList.map a.eval).length=cds.length:=by rw[<- hcds];simp
 have hv:=evs hi ars
 rw[hcds]at hv
 show Calls P f _ w _
 clear hrun
 generalize ars.toList.map a.eval=vs at hlen hv
 refine calls_of_wp hf hb ?_
 have hi2:Inv ⟨g,fr,w⟩ ⟨n',Y9 0 cds,bx,fr,(bx.length,fr.length)⟩ g { tmps:=vs.toArray++Array.replicate (fn.ntmps-vs.toArray.size) undef,defers:=[] } w:=by
  refine⟨by simp[hn];omega,rfl,hm,fun t=>?_,Evo.refl _,by rw[hm.bl];exact Nat.le_refl _,Nat.le_refl _⟩
  rw[Vb]
  simp only[Nat.zero_le,if_true,Nat.sub_zero]
  cases htt:cds[t]? with
  | none=>exact .junk _
  | some d=>
   have hlt:t<cds.length:=(List.getElem?_eq_some_iff.1 htt).1
   refine hv t d _ htt ?_
   have hlt2:t<vs.length:=by omega
   simp[Array.getD_getElem?,Array.getElem?_append,hlt2]
 refine wp_mono (h.run ⟨g,fr,w⟩ g _ w hi2) fun e a' w' hcc=>?_
 have fin:∀ S g',Inv ⟨g,fr,w⟩ S g' a' w'->(∃ ds d,ResL P S rs ds/\Vl ds=d/\AL P ops rest ⟨n,XD t d tm,S.bx,S.fr,ee⟩ Q)->∃ v,(results fn a'.tmps).run P w'=.ok v w'/\K (a.put t v) w':=by
  intro S g' hi' hq
  obtain⟨ds,d,hrs,hd,hk⟩:=hq
  obtain⟨v,hrun,hv⟩:=Vc hi' hr hrs
  rw[hd]at hv
  refine⟨v,hrun,hK _ _ (hk.run b0 g' _ w' ?_)⟩
  have hi3:Inv b0 ⟨n,tm,S.bx,S.fr,ee⟩ g' a w':=⟨hi.size,hi.defers,hi'.mem,fun t=>(hi.tm t).evo hi'.evo,hi.evo.trans hi'.evo,hi.bd⟩
  cases t with
  | none=>exact hi3
  | some t=>exact hi3.put ht hv
 cases e with
 | normal=>
  obtain⟨S,g',hi',hq⟩:=hcc
  obtain⟨v,h1,h2⟩:=fin S g' hi' hq
  exact⟨hi'.defers,v,h1,h2⟩
 | ret=>
  obtain⟨S,g',hi',hq⟩:=hcc
  obtain⟨v,h1,h2⟩:=fin S g' hi' hq
  exact⟨hi'.defers,v,h1,h2⟩
 | panic chain=>
  obtain⟨S,g',v,d,hi',rfl,hd,hq⟩:=hcc
  exact⟨hi'.defers,⟨n,tm,S.bx,S.fr,ee⟩,g',v,d,⟨hi.size,hi.defers,hi'.mem,fun t=>(hi.tm t).evo hi'.evo,hi.evo.trans hi'.evo,hi.bd⟩,rfl,hd,hq⟩
 | exit id=>obtain⟨S,g',hi',hq⟩:=hcc;exact hq.elim
 | goto l=>obtain⟨S,g',hi',hq⟩:=hcc;exact hq.elim
 | outgrown=>exact hcc.elim
end
section
variable {P:Program} {Q:X->St->Prop} {n:Nat} {ee:Nat × Nat} {tm:List (Nat × D)} {bx bx':List (List D)} {fr fr':List Fr} {b0:Bs} {g:G} {w:World} {a:Act} {T:Tab}
variable {ops:Array Oper} {rest:List Oper} {t ty:Nat} {pos:String} {after:Array Edge}
def QL:List E->Option (List UInt8)
 | []=>some []
 | .int .u8 n::l=>match Int.decEq ((UInt8.ofNat n.toNat).toNat:Int) n,QL l with
  | .isTrue _,some bs=>some (UInt8.ofNat n.toNat::bs)
  | _,_=>none
 | _::_=>none
theorem Qm:∀ {l:List E} {bs:List UInt8},QL l=some bs->l=bs.map E.byte
 | [],bs,h=>by simp[QL]at h;subst h;rfl
 | .int .u8 n::l,bs,h=>by
  simp only[QL]at h
  cases hd:Int.decEq ((UInt8.ofNat n.toNat).toNat:Int) n with
  | isFalse hf=>simp[hd]at h
  | isTrue hn=>
   cases hl:QL l with
   | none=>simp[hd,hl]at h
   | some bs'=>
    simp[hd,hl]at h
    subst h
    rw[Qm hl,List.map_cons]
    congr 1
    show E.int .u8 n=E.int .u8 _
    rw[hn]
theorem Ww [Known][Dfr](hT:chk P T=true){x:Operand}{src dst e:Nat}{tk:Tok}{l:List E}{bs:List UInt8}{ti td te:Ti}(hx:ev tm x=.sl tk l)(hl:QL l=some bs)(ht:tl T src=some ti)(hk:ti.kd=.slice e)(hte:tl T e=some te)(hke:te.kd=.int .u8)(htds:tl T dst=some td)(hkd:td.kd=.str)(htd:Nat.blt t n=true)
  (k:AL P ops rest ⟨n,(t,.str bs)::tm,bx,fr,ee⟩ Q):AL P ops (⟨some t,.convert src dst x,ty,pos,after,none⟩::rest) ⟨n,tm,bx,fr,ee⟩ Q:=
 Yq hT hx (Qm hl) ht hk hte hke htds hkd htd k
end
end Go.Av
end
section
open Go.RowKit Go.Pl
namespace Go.Av
section
variable {P:Program} {Q:X->St->Prop} {n:Nat} {ee:Nat × Nat} {tm:List (Nat × D)} {bx:List (List D)} {fr:List Fr}
variable {ops:Array Oper} {rest:List Oper} {t ty:Nat} {pos:String} {after:Array Edge}
end
end Go.Av
end
section
open Go.RowKit Go.Pl
namespace Go.Av
inductive Y where
 | pu (d:D)
 | ef (d:D) (bx:List (List D)) (fr:List Fr)
def Y.d:Y->D
 | .pu d=>d
 | .ef d _ _=>d
def Y.aft:Y->List (List D) × List Fr->List (List D) × List Fr
 | .pu _,s=>s
 | .ef _ b f,_=>(b,f)
def ZN (n i:Nat)(o:Oper):Nat:=match o.dst with
 | some t=>t
 | none=>n+i
def qY (o:Oper)(bx:List (List D))(fr:List Fr):Y->X->St->Prop
 | .pu d,.norm,S=>match o.dst with
  | some t=>qp t d bx fr .norm S
  | none=>d=.junk/\S.bx=bx/\S.fr=fr
 | .ef d b f,.norm,S=>S.bx=b/\S.fr=f/\match o.dst with
  | some t=>look S.tm t=d
  | none=>d=.junk
 | _,_,_=>False
theorem Jm {o:Oper}{bx:List (List D)}{fr:List Fr}{y:Y}{x:X}{S:St}(h:qY o bx fr y x S):x=.norm:=by
 cases y<;>cases x<;>simp[qY]at h ⊢
def WR (n:Nat)(o:Oper):Bool:=match o.dst with
 | some t=>Nat.blt t n
 | none=>true
inductive AE [Known][Dfr](P:Program) (l:List Oper) (n:Nat):Nat->List Oper->List (Nat × D)->List (List D)->List Fr->List Y->List (Nat × D)->List (List D)->List Fr->Prop
 | nil (i:Nat) (tm:List (Nat × D)) (bx:List (List D)) (fr:List Fr):AE P l n i [] tm bx fr [] tm bx fr
 | cons (i:Nat) (o:Oper) (rest:List Oper) (tm:List (Nat × D)) (bx:List (List D)) (fr:List Fr) (y:Y) (ys:List Y) (tm':List (Nat × D)) (bx':List (List D)) (fr':List Fr) (ht:WR n o=true)
   (h:AL P l.toArray [o] ⟨n,ZT l o tm,bx,fr,(bx.length,fr.length)⟩ (qY o bx fr y)) (k:AE P l n (i+1) rest ((ZN n i o,y.d)::tm) (y.aft (bx,fr)).1 (y.aft (bx,fr)).2 ys tm' bx' fr'):AE P l n i (o::rest) tm bx fr (y::ys) tm' bx' fr'
def stg:List Y->List (List D) × List Fr->(Nat->Bool)->List (List D) × List Fr
 | [],s,_=>s
 | y::ys,s,p=>stg ys (match p 0 with|true=>y.aft s|false=>s) (fun j=>p (j+1))
def QM (ys:List Y)(i:Nat):Prop:=∃ d b f,ys[i]?=some (.ef d b f)
theorem YJ:∀(ys:List Y) (s:List (List D) × List Fr) (p q:Nat->Bool),(∀ i,QM ys i->p i=q i)->stg ys s p=stg ys s q
 | [],s,p,q,_=>rfl
 | y::ys,s,p,q,h=>by
  simp only[stg]
  have h1:(match p 0 with|true=>y.aft s|false=>s)=(match q 0 with|true=>y.aft s|false=>s):=by
   cases y with
   | pu d=>cases p 0<;>cases q 0<;>rfl
   | ef d b f=>rw[h 0 ⟨d,b,f,rfl⟩]
  rw[h1]
  exact YJ ys _ _ _ fun i ⟨d,b,f,hi⟩=>h (i+1) ⟨d,b,f,by simpa using hi⟩
theorem YU:∀(ys:List Y) (s:List (List D) × List Fr) (p:Nat->Bool),(∀ i,QM ys i->p i=false)->stg ys s p=s
 | [],s,p,_=>rfl
 | y::ys,s,p,h=>by
  simp only[stg]
  have h1:(match p 0 with|true=>y.aft s|false=>s)=s:=by
   cases y with
   | pu d=>cases p 0<;>rfl
   | ef d b f=>rw[h 0 ⟨d,b,f,rfl⟩]
  rw[h1]
  exact YU ys _ _ fun i ⟨d,b,f,hi⟩=>h (i+1) ⟨d,b,f,by simpa using hi⟩
theorem U4:∀(ys:List Y) (s:List (List D) × List Fr) (i:Nat) (y:Y),ys[i]?=some y->stg ys s (fun j=>decide (j<i+1))=y.aft (stg ys s (fun j=>decide (j<i)))
 | [],s,i,y,h=>by simp at h
 | y0::ys,s,0,y,h=>by
  simp at h;subst h
  simp only[stg]
  have e1:(match decide (0<0+1) with|true=>y0.aft s|false=>s)=y0.aft s:=by simp
  have e2:(match decide (0<0) with|true=>y0.aft s|false=>s)=s:=by simp
  rw[e1,e2,YU ys _ _ (by intro i _;simp),YU ys _ _ (by intro i _;simp)]
 | y0::ys,s,i+1,y,h=>by
  simp only[stg]
  have e1:(match decide (0<i+1+1) with|true=>y0.aft s|false=>s)=y0.aft s:=by simp
  have e2:(match decide (0<i+1) with|true=>y0.aft s|false=>s)=y0.aft s:=by simp
  rw[e1,e2]
  have:=U4 ys (y0.aft s) i y (by simpa using h)
  simpa using this
section
variable {P:Program} {Q:X->St->Prop} {n:Nat} {ee:Nat × Nat} {tm tm':List (Nat × D)} {bx bx':List (List D)} {fr fr':List Fr} {b0:Bs} {g:G} {w:World} {a:Act} {ys:List Y}
theorem AE.steps [Known][Dfr]{l:List Oper}{i0:Nat}{rest:List Oper}(h:AE P l n i0 rest tm bx fr ys tm' bx' fr'):∃ ds:List (Nat × D),ds.length=rest.length/\ys.length=rest.length/\tm'=ds.reverse++tm/\stg ys (bx,fr) (fun _=>true)=(bx',fr') /\
  ∀(i:Nat) (o:Oper),rest[i]?=some o->∃ y,ys[i]?=some y/\ds[i]?=some (ZN n (i0+i) o,y.d)/\WR n o=true /\
   AL P l.toArray [o] ⟨n,ZT l o ((ds.take i).reverse++tm),(stg ys (bx,fr) (fun j=>decide (j<i))).1,(stg ys (bx,fr) (fun j=>decide (j<i))).2,((stg ys (bx,fr) (fun j=>decide (j<i))).1.length,(stg ys (bx,fr) (fun j=>decide (j<i))).2.length)⟩ (qY o (stg ys (bx,fr) (fun j=>decide (j<i))).1 (stg ys (bx,fr) (fun j=>decide (j<i))).2 y):=by
 induction h with
 | nil i tm bx fr=>exact⟨[],rfl,rfl,rfl,rfl,fun i o h=>by simp at h⟩
 | cons i o rest tm bx fr y ys tm' bx' fr' ht h k ih=>
  obtain⟨ds,h1,h2,h3,h4,h5⟩:=ih
  refine⟨(ZN n i o,y.d)::ds,by simp[h1],by simp[h2],by simp[h3],?_,fun j o' ho=>?_⟩
  ·simp only[stg];exact h4
  cases j with
  | zero=>
   simp at ho;subst ho
   have e:stg (y::ys) (bx,fr) (fun j=>decide (j<0))=(bx,fr):=YU _ _ _ (by intro i _;simp)
   refine⟨y,rfl,by simp,ht,?_⟩
   rw[e]
   simpa using h
  | succ j=>
   simp at ho
   obtain⟨y',q1,q2,q3,q4⟩:=h5 j o' ho
   have e:stg (y::ys) (bx,fr) (fun x=>decide (x<j+1))=stg ys (y.aft (bx,fr)) (fun x=>decide (x<j)):=by
    simp only[stg]
    have e2:(match decide (0<j+1) with|true=>y.aft (bx,fr)|false=>(bx,fr))=y.aft (bx,fr):=by simp
    rw[e2]
    exact YJ _ _ _ _ fun i _=>by simp
   refine⟨y',by simpa using q1,by rw[show i+(j+1)=i+1+j from by omega];simpa using q2,q3,?_⟩
   rw[e]
   simpa using q4
def YW:Nat->List Y->List Nat
 | _,[]=>[]
 | i,.pu _::ys=>YW (i+1) ys
 | i,.ef _ _ _::ys=>i::YW (i+1) ys
def WE:Nat->List Y->List (Nat × List (List D) × List Fr)
 | _,[]=>[]
 | i,.pu _::ys=>WE (i+1) ys
 | i,.ef _ b f::ys=>(i+1,b,f)::WE (i+1) ys
theorem Yh:∀ {ys:List Y} {i0 e:Nat},e ∈ YW i0 ys ↔ ∃ i,e=i0+i/\QM ys i
 | [],i0,e=>by simp[YW,QM]
 | .pu d::ys,i0,e=>by
  simp only[YW]
  rw[Yh]
  constructor
  ·rintro⟨i,rfl,d,b,f,h⟩;exact⟨i+1,by omega,d,b,f,by simpa using h⟩
  ·rintro⟨i,rfl,d,b,f,h⟩
   cases i with
   | zero=>simp at h
   | succ i=>exact⟨i,by omega,d,b,f,by simpa using h⟩
 | .ef d b f::ys,i0,e=>by
  simp only[YW,List.mem_cons]
  rw[Yh]
  constructor
  ·rintro(rfl|⟨i,rfl,d,b,f,h⟩)
   ·exact⟨0,by omega,d,b,f,rfl⟩
   ·exact⟨i+1,by omega,d,b,f,by simpa using h⟩
  ·rintro⟨i,rfl,d,b,f,h⟩
   cases i with
   | zero=>exact .inl (by omega)
   | succ i=>exact .inr ⟨i,by omega,d,b,f,by simpa using h⟩
theorem Wx:∀ {ys:List Y} {i0 i:Nat} {d:D} {b:List (List D)} {f:List Fr},ys[i]?=some (.ef d b f)->(i0+i+1,b,f) ∈ WE i0 ys
 | .pu d::ys,i0,0,_,_,_,h=>by simp at h
 | .pu d::ys,i0,i+1,_,_,_,h=>by
  simp only[WE]
  have:=Wx (i0:=i0+1) (by simpa using h)
  rw[show i0+(i+1)+1=i0+1+i+1 from by omega];exact this
 | .ef d b f::ys,i0,0,_,_,_,h=>by
  simp at h
  obtain⟨_,rfl,rfl⟩:=h
  simp[WE]
 | .ef d b f::ys,i0,i+1,_,_,_,h=>by
  simp only[WE]
  have:=Wx (i0:=i0+1) (by simpa using h)
  rw[show i0+(i+1)+1=i0+1+i+1 from by omega];exact List.mem_cons_of_mem _ this
 | [],i0,i,_,_,_,h=>by simp at h
def Jn (l:List Oper)(es:List Nat)(i c:Nat):Bool:=!(es.all fun e=>decide (e<c)==decide (e<i))&&es.all fun e=>(!up (Z0 [] l) i e||decide (e<c))&&(!up (Z0 [] l) e i||decide (c<=e))
def Xr (l:List Oper)(es:List Nat):Bool:=es.all fun e=>es.all fun e'=>!decide (e<e')||up (Z0 [] l) e' e
def Vt (n:Nat)(l:List Oper):Bool:=l.all fun o=>(WD l o).all fun t=>Nat.blt t n
inductive AOs [Known][Dfr](P:Program) (l:List Oper) (n:Nat) (es:List Nat) (i:Nat) (o:Oper) (tm:List (Nat × D)) (d:D):List (Nat × List (List D) × List Fr)->Prop
 | nil:AOs P l n es i o tm d []
 | skip (c:Nat) (bx:List (List D)) (fr:List Fr) (sts:List (Nat × List (List D) × List Fr)) (h:Jn l es i c=false) (k:AOs P l n es i o tm d sts):AOs P l n es i o tm d ((c,bx,fr)::sts)
 | go (c:Nat) (bx:List (List D)) (fr:List Fr) (sts:List (Nat × List (List D) × List Fr)) (h:AL P l.toArray [o] ⟨n,ZT l o tm,bx,fr,(bx.length,fr.length)⟩ (qY o bx fr (.pu d))) (k:AOs P l n es i o tm d sts):AOs P l n es i o tm d ((c,bx,fr)::sts)
inductive AO [Known][Dfr](P:Program) (l:List Oper) (n:Nat) (es:List Nat) (sts:List (Nat × List (List D) × List Fr)):Nat->List Oper->List Y->List (Nat × D)->Prop
 | nil (i:Nat) (ys:List Y) (tm:List (Nat × D)):AO P l n es sts i [] ys tm
 | ef (i:Nat) (o:Oper) (rest:List Oper) (d:D) (bx:List (List D)) (fr:List Fr) (ys:List Y) (tm:List (Nat × D)) (k:AO P l n es sts (i+1) rest ys ((ZN n i o,d)::tm)):AO P l n es sts i (o::rest) (.ef d bx fr::ys) tm
 | pu (i:Nat) (o:Oper) (rest:List Oper) (d:D) (ys:List Y) (tm:List (Nat × D)) (h:AOs P l n es i o tm d sts) (k:AO P l n es sts (i+1) rest ys ((ZN n i o,d)::tm)):AO P l n es sts i (o::rest) (.pu d::ys) tm
theorem AOs.get [Known][Dfr]{l:List Oper}{es:List Nat}{i:Nat}{o:Oper}{d:D}{sts:List (Nat × List (List D) × List Fr)}(h:AOs P l n es i o tm d sts):∀ {c:Nat} {b:List (List D)} {f:List Fr},(c,b,f) ∈ sts->Jn l es i c=false\/AL P l.toArray [o] ⟨n,ZT l o tm,b,f,(b.length,f.length)⟩ (qY o b f (.pu d)):=by
 induction h with
 | nil=>intro c b f h;cases h
 | skip c bx fr sts h k ih=>
  intro c' b f hm
  rcases List.mem_cons.1 hm with hm|hm
  ·cases hm;exact .inl h
  ·exact ih hm
 | go c bx fr sts h k ih=>
  intro c' b f hm
  rcases List.mem_cons.1 hm with hm|hm
  ·cases hm;exact .inr h
  ·exact ih hm
theorem AO.get [Known][Dfr]{l:List Oper}{es:List Nat}{sts:List (Nat × List (List D) × List Fr)}{i0:Nat}{rest:List Oper}(h:AO P l n es sts i0 rest ys tm):∀ {i:Nat} {o:Oper} {d:D},rest[i]?=some o->ys[i]?=some (.pu d)->∀(ds:List (Nat × D)),(∀(j:Nat) (oj:Oper) (y:Y),j<i->rest[j]?=some oj->ys[j]?=some y->ds[j]?=some (ZN n (i0+j) oj,y.d))->i<=ds.length->AOs P l n es (i0+i) o ((ds.take i).reverse++tm) d sts:=by
 induction h with
 | nil i ys tm=>intro i o d h;simp at h
 | ef i0 o0 rest d0 bx fr ys tm k ih=>
  intro i o d ho hy ds hds hl
  cases i with
  | zero=>simp at hy
  | succ i=>
   cases ds with
   | nil=>simp at hl
   | cons p ds=>
    have h0:=hds 0 o0 _ (by omega) rfl rfl
    simp at h0
    subst h0
    have:=ih (i:=i) (by simpa using ho) (by simpa using hy) ds (fun j oj y hj h1 h2=>by
     have:=hds (j+1) oj y (by omega) (by simpa using h1) (by simpa using h2)
     rw[show i0+1+j=i0+(j+1) from by omega];simpa using this) (by simpa using hl)
    rw[show i0+(i+1)=i0+1+i from by omega]
    simpa[Y.d]using this
 | pu i0 o0 rest d0 ys tm h k ih=>
  intro i o d ho hy ds hds hl
  cases i with
  | zero=>
   simp at ho hy
   subst ho hy
   simpa using h
  | succ i=>
   cases ds with
   | nil=>simp at hl
   | cons p ds=>
    have h0:=hds 0 o0 _ (by omega) rfl rfl
    simp at h0
    subst h0
    have:=ih (i:=i) (by simpa using ho) (by simpa using hy) ds (fun j oj y hj h1 h2=>by
     have:=hds (j+1) oj y (by omega) (by simpa using h1) (by simpa using h2)
     rw[show i0+1+j=i0+(j+1) from by omega];simpa using this) (by simpa using hl)
    rw[show i0+(i+1)=i0+1+i from by omega]
    simpa[Y.d]using this
theorem Jo {p:Nat->Bool}:∀(es:List Nat),(∀ e ∈ es,∀ e' ∈ es,e<e'->p e'=true->p e=true)->∃ c,(c=0\/∃ e ∈ es,c=e+1/\p e=true)/\∀ e ∈ es,p e=decide (e<c)
 | [],_=>⟨0,.inl rfl,by simp⟩
 | e::es,h=>by
  obtain⟨c,h1,h2⟩:=Jo es fun x hx y hy=>h x (by simp[hx]) y (by simp[hy])
  cases hp:p e with
  | true=>
   rcases Nat.lt_or_ge e c with hc|hc
   ·refine⟨c,h1.imp id fun⟨x,hx,k⟩=>⟨x,by simp[hx],k⟩,fun x hx=>?_⟩
    rcases List.mem_cons.1 hx with rfl|hx
    ·simp[hp,hc]
    ·exact h2 x hx
   ·refine⟨e+1,.inr ⟨e,by simp,rfl,hp⟩,fun x hx=>?_⟩
    rcases List.mem_cons.1 hx with rfl|hx'
    ·simp[hp]
    ·rcases Nat.lt_trichotomy x e with hlt|rfl|hgt
     ·rw[h x hx e (by simp) hlt hp];simp;omega
     ·rw[hp];simp
     ·rw[h2 x hx'];simp;omega
  | false=>
   refine⟨c,h1.imp id fun⟨x,hx,k⟩=>⟨x,by simp[hx],k⟩,fun x hx=>?_⟩
   rcases List.mem_cons.1 hx with rfl|hx'
   ·rw[hp]
    rcases h1 with rfl|⟨y,hy,rfl,hpy⟩
    ·simp
    ·have:¬ x<y+1:=fun hlt=>by
      rcases Nat.lt_or_ge x y with h3|h3
      ·have:=h x (by simp) y (by simp[hy]) h3 hpy
       rw[hp]at this;cases this
      ·have:x=y:=by omega
       subst this
       rw[hp]at hpy;cases hpy
     simp[this]
   ·exact h2 x hx'
end
end Go.Av
end
