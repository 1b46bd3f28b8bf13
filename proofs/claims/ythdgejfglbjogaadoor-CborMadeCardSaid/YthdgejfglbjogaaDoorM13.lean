/- A function that defers a call which recovers. -/
import Derived.Test.YthdgejfglbjogaaDoorM09
import Derived.Recover
import Derived.Test.YthdgejfglbjogaaDoorM12
set_option linter.unusedSimpArgs false
set_option linter.unusedVariables false
section
open Go.RowKit Go.Pl
namespace Go.Av
section
variable {P:Program} {Q:X->St->Prop} {n:Nat} {ee:Nat × Nat} {tm tm':List (Nat × D)} {bx bx':List (List D)} {fr fr':List Fr} {b0:Bs} {g:G} {w:World} {a:Act} {T:Tab}
variable {ops:Array Oper} {rest:List Oper} {t ty:Nat} {pos:String} {after:Array Edge}
def IC (P:Program)(t:TypeId):Option (List Value):=match P.info? t with
 | some i=>match i.zero with
  | some (.agg cs)=>some cs.toList
  | _=>none
 | none=>none
theorem Ic [Known][Dfr](hT:chk P T=true){x:Operand}{xt at_:TypeId}{d:D}{ti:Ti}{fs:List Fd}(hx:ev tm x=.iface at_ d)(ht:tl T at_=some ti)(hk:ti.kd=.struct fs)(htd:Nat.blt t n=true)
  (k:AL P ops rest ⟨n,(t,.tup [d,.bool true])::tm,bx,fr,ee⟩ Q):AL P ops (⟨some t,.typeAssert x xt at_ true,ty,pos,after,none⟩::rest) ⟨n,tm,bx,fr,ee⟩ Q:=
 ZF _ htd (fun g a w hi=>by
  have h1:V w g fr (ev tm x) (a.eval x):=hi.ev x
  rw[hx]at h1
  obtain⟨fields,hu,_⟩:=(Zx hT ht).struct hk
  generalize hv:a.eval x=v at h1
  cases h1 with
  | iface _ _ u hu'=>
   refine⟨.tuple #[u,.bool true],?_,.tup _ [u,.bool true] rfl fun j d' v' hd' hv'=>?_⟩
   ·simp[execOp,hv,Instr.typeAssert,Sem.run_bind,run_underlying hu]
   ·match j with
    | 0=>simp at hd' hv';subst hd' hv';exact hu'
    | 1=>simp at hd' hv';subst hd' hv';exact .bool true
    | j+2=>simp at hd') k
theorem Id [Known][Dfr](hT:chk P T=true){x:Operand}{xt at_:TypeId}{cs:List Value}{ti:Ti}{fs:List Fd}(hx:ev tm x=.nili)(ht:tl T at_=some ti)(hk:ti.kd=.struct fs)(hz:IC P at_=some cs)(htd:Nat.blt t n=true)
  (k:AL P ops rest ⟨n,(t,.tup [.agg (cs.map WN),.bool false])::tm,bx,fr,ee⟩ Q):AL P ops (⟨some t,.typeAssert x xt at_ true,ty,pos,after,none⟩::rest) ⟨n,tm,bx,fr,ee⟩ Q:=
 ZF _ htd (fun g a w hi=>by
  have h1:V w g fr (ev tm x) (a.eval x):=hi.ev x
  rw[hx]at h1
  obtain⟨fields,hu,_⟩:=(Zx hT ht).struct hk
  generalize hv:a.eval x=v at h1
  have hzv:(zeroValue at_).run P w=.ok (.agg cs.toArray) w:=by
   unfold IC at hz
   cases hi':P.info? at_ with
   | none=>simp[hi']at hz
   | some i=>
    simp only[hi']at hz
    cases hz':i.zero with
    | none=>simp[hz']at hz
    | some z=>
     simp only[hz']at hz
     cases z with
     | agg c=>simp at hz;subst hz;simp[zeroValue,typeInfo,Sem.run_bind,hi',hz']
     | _=>simp at hz
  cases h1 with
  | nili=>
   refine⟨.tuple #[.agg cs.toArray,.bool false],?_,.tup _ [.agg cs.toArray,.bool false] rfl fun j d' v' hd' hv'=>?_⟩
   ·simp[execOp,hv,Instr.typeAssert,Sem.run_bind,run_underlying hu,hzv]
   ·match j with
    | 0=>
     simp at hd' hv';subst hd' hv'
     refine .agg _ cs (by simp) fun j d v hd hv=>?_
     rw[List.getElem?_map,hv]at hd
     simp at hd
     exact hd ▸ Wv _ _ _ v
    | 1=>simp at hd' hv';subst hd' hv';exact .bool false
    | j+2=>simp at hd') k
theorem Ie {o:Oper}{K K':Act->World->Prop}{R R':Exit->Act->World->Prop}{r:Result Next}(h:o.upon P a K R r)(hK:∀ a w,K a w->K' a w)(hR:∀ c w,R (.panic c) a w->R' (.panic c) a w)(hL:LetsOut R->False):o.upon P a K' R' r:=by
 cases r with
 | ok nx w'=>
  cases nx<;>simp only[Oper.upon]at h ⊢
  case value v=>exact hK _ _ h
  case skip=>exact hK _ _ h
  case defer d=>exact hK _ _ h
  case enter f args=>
   refine Calls.mono h (fun e w'' he=>?_)
   cases e with
   | returned u=>exact hK _ _ he
   | panicked c=>exact hR _ _ he
   | outgrown=>exact(hL he).elim
  case row row args=>exact Rows.mono h fun u w'' he=>hK _ _ he
 | halt x w'=>
  cases x<;>simp only[Oper.upon]at h ⊢
  case panic u=>exact hR _ _ h
theorem VG {ops:Array Oper}{cs:List Frame}{R:Exit->Act->World->Prop}{Q':Exit->Act->List Frame->World->Prop}(hR:∀ e a w,R e a w->Q' e a cs w)(hL:LetsOut R->False) :
  ∀(l:List Oper) (k:Nat) (a:Act) (w:World),(∀ j,l[j]?=ops[k+j]?)->wpList P ops R l a w->wpOpsS P ops Q' (List.range' k l.length) a cs w
 | [],k,a,w,_,h=>by
  simp only[List.length_nil,List.range'_zero,wpOpsS]
  exact hR _ _ _ h
 | o::l,k,a,w,hl,h=>by
  have h0:ops[k]?=some o:=by simpa using(hl 0).symm
  have ih:=fun a w=>VG hR hL l (k+1) a w (fun j=>by have:=hl (j+1);simpa[Nat.add_assoc,Nat.add_comm 1 j]using this)
  rw[List.length_cons,List.range'_succ]
  simp only[wpOpsS,h0]
  unfold wpList at h
  by_cases hw:Region.wanted o (yielded ops a.tmps)=true
  ·rw[if_pos hw]at h
   rw[if_pos hw]
   rcases h with h|⟨_,hlo⟩
   ·unfold Oper.wp at h
    split
    ·rename_i w' hr
     rw[hr]at h
     exact h.elim
    ·exact Ie h (fun a w h=>ih a w h) (fun c w h=>hR _ _ _ h) hL
   ·exact(hL hlo).elim
  ·rw[if_neg hw]at h
   rw[if_neg hw]
   exact ih _ _ h
end
theorem U5 [Known]{n:Nat}{args:List D}{bx:List (List D)}{fr:List Fr}{g:G}{w:World}{vs:List Value}(hle:args.length<=n)(hm:Mem g bx fr w)(hlen:vs.length=args.length)(hv:∀(j:Nat) (d:D) (v:Value),args[j]?=some d->vs[j]?=some v->V w g fr d v) :
  Inv ⟨g,fr,w⟩ ⟨n,WC 0 args,bx,fr,(bx.length,fr.length)⟩ g { tmps:=vs.toArray++Array.replicate (n-vs.toArray.size) undef,defers:=[] } w:=by
 refine⟨by simp;omega,rfl,hm,fun t=>?_,Evo.refl _,by rw[hm.bl];exact Nat.le_refl _,Nat.le_refl _⟩
 rw[V3]
 simp only[Nat.zero_le,if_true,Nat.sub_zero]
 cases ht:args[t]? with
 | none=>exact .junk _
 | some d=>
  have hlt:t<args.length:=(List.getElem?_eq_some_iff.1 ht).1
  refine hv t d _ ht ?_
  have hlt2:t<vs.length:=by omega
  simp[Array.getD_getElem?,Array.getElem?_append,hlt2]
theorem OQ [Known]{P:Program}{f:FuncId}{fn:Func}{id n t0:Nat}{o0:Oper}{l:List Oper}{y:Code}{args:List D}{bx:List (List D)}{fr:List Fr}{u u':FrameMode}{dv:D}{post:St->Prop}
  (hf:P.funcs[f]?=some fn) (hb:fn.body=some ((Code.region id (o0::l).toArray false).seq y)) (hn:fn.ntmps=n) (hr:fn.results = #[]) (hl:Nat.ble args.length n=true) (ht:Nat.blt t0 n=true)
  (ho:o0.dst=some t0) (hg:o0.guard=none) {w:World} (hop:∀ ρ,(execOp ρ o0).run P w=.ok .recover w) {g:G} {vs:List Value} (hm:Mem g bx fr w) (hlen:vs.length=args.length) (hv:∀(j:Nat) (d:D) (v:Value),args[j]?=some d->vs[j]?=some v->V w g fr d v)
  (hrec:∀(c₀:Frame) (cs:List Frame),c₀.mode=u->match recoverD (c₀::cs) with
   | some (v,cs')=>V w g fr dv v/\cs' = { c₀ with mode:=u' }::cs
   | none=>dv=.nili/\u'=u)
  (h1:AL P (o0::l).toArray l ⟨n,(t0,dv)::WC 0 args,bx,fr,(bx.length,fr.length)⟩ (fun x S=>x=.norm/\AW P y S (fun x S=>x=.norm/\post S))) :
  CallsD P f vs.toArray u w fun e u2 w'=>(∃ v,e=.returned v)/\u2=u'/\∃ S g',Mem g' S.bx S.fr w'/\Evo ⟨g,fr,w⟩ ⟨g',S.fr,w'⟩/\post S:=by
 refine callsD_of_wpS hf hb fun c₀ cs hc=>?_
 refine wpS_seq (wpS_region ?_)
 have hi0:=U5 (Nat.le_of_ble_eq_true hl) hm hlen hv
 rw[hn]
 generalize ha:({ tmps:=vs.toArray++Array.replicate (n-vs.toArray.size) undef,defers:=[] }:Act)=a at hi0
 obtain⟨v0,cs1,hcs1,hV0,hstep⟩:∃(v0:Value) (cs1:List Frame),cs1 = { c₀ with mode:=u' }::cs/\V w g fr dv v0/\∀ Q',wpOpsS P (o0::l).toArray Q' (List.range' 1 l.length) (a.put o0.dst v0) cs1 w->wpOpsS P (o0::l).toArray Q' (List.range (o0::l).toArray.size) a (c₀::cs) w:=by
  have h0:((o0::l).toArray)[0]?=some o0:=by simp
  have hw:Region.wanted o0 (yielded (o0::l).toArray a.tmps)=true:=by simp[Region.wanted,hg]
  have hsz:List.range (o0::l).toArray.size=0::List.range' 1 l.length:=by
   rw[List.range_eq_range'];simp[List.range'_succ]
  have hre:=hrec c₀ cs hc
  cases hrd:recoverD (c₀::cs) with
  | none=>
   rw[hrd]at hre
   obtain⟨rfl,rfl⟩:=hre
   refine⟨.nilIface,c₀::cs,by subst hc;rfl,.nili,fun Q' h=>?_⟩
   rw[hsz]
   simp only[wpOpsS,h0,if_pos hw,hop,hrd]
   exact h
  | some y=>
   obtain⟨v,cs'⟩:=y
   rw[hrd]at hre
   refine⟨v,cs',hre.2,hre.1,fun Q' h=>?_⟩
   rw[hsz]
   simp only[wpOpsS,h0,if_pos hw,hop,hrd]
   exact h
 refine hstep _ ?_
 have hi1:Inv ⟨g,fr,w⟩ ⟨n,(t0,dv)::WC 0 args,bx,fr,(bx.length,fr.length)⟩ g (a.put o0.dst v0) w:=by
  rw[ho];exact hi0.put ht hV0
 refine VG (R:=Wc ⟨g,fr,w⟩ (fun x S=>x=.norm/\AW P y S (fun x S=>x=.norm/\post S))) (fun e a' w' h=>?_) (fun⟨_,_,h⟩=>h) l 1 _ _ (fun j=>by simp[Nat.add_comm 1 j]) (h1.run _ _ _ _ hi1)
 cases e with
 | normal=>
  obtain⟨S,g',hi,_,hy⟩:=h
  refine wpS_of_wp ?_
  refine wp_mono (hy.run _ _ _ _ hi) fun e a2 w2 hc2=>?_
  cases e with
  | normal=>
   obtain⟨S2,g2,hi2,_,hp⟩:=hc2
   refine⟨hi2.defers,u',hcs1,.tuple #[],by simp[results,hr,Sem.run_bind],⟨_,rfl⟩,rfl,S2,g2,hi2.mem,hi2.evo,hp⟩
  | panic c=>obtain⟨_,_,_,_,_,_,_,h,_⟩:=hc2;cases h
  | ret=>obtain⟨_,_,_,h,_⟩:=hc2;cases h
  | exit i=>obtain⟨_,_,_,h,_⟩:=hc2;cases h
  | goto i=>obtain⟨_,_,_,h,_⟩:=hc2;cases h
  | outgrown=>exact hc2.elim
 | panic c=>obtain⟨_,_,_,_,_,_,_,h,_⟩:=h;cases h
 | ret=>obtain⟨_,_,_,h,_⟩:=h;cases h
 | exit i=>obtain⟨_,_,_,h,_⟩:=h;cases h
 | goto i=>obtain⟨_,_,_,h,_⟩:=h;cases h
 | outgrown=>exact h.elim
theorem XS [Known]{P:Program}{R:Exit->Act->World->Prop}{id t fd:Nat}{caps:Array Operand}{ds:List D}{ats:Array TypeId}{ty1 ty2:Nat}{pos1 pos2:String}{af1 af2:Array Edge}{n:Nat}{ee:Nat × Nat}{tm:List (Nat × D)}{bx:List (List D)}{fr:List Fr}{b0:Bs}{g:G}{a:Act}{w:World}{y:Code}
  (hi:Inv b0 ⟨n,tm,bx,fr,ee⟩ g a w) (hds:caps.toList.map (ev tm)=ds) (htd:Nat.blt t n=true)
  (k:∀(cvs:List Value) (a':Act),cvs.length=ds.length->(∀(j:Nat) (d:D) (v:Value),ds[j]?=some d->cvs[j]?=some v->V w g fr d v) ->
   @Inv _ ⟨[{ target:=.fn (.func fd) cvs.toArray,args := #[] }]⟩ b0 ⟨n,(t,.fn fd ds)::tm,bx,fr,ee⟩ g a' w->y.wp P R a' w) :
  ((Code.region id #[⟨some t,.makeFunc (.func fd) #[] caps,ty1,pos1,af1,none⟩,⟨none,.defer { callee:=.value (.tmp t),args := #[],argTypes:=ats },ty2,pos2,af2,none⟩] false).seq y).wp P R a w:=by
 refine wp_seq ?_
 have hcv:=evs hi caps
 generalize hcvs:caps.toList.map a.eval=cvs at hcv
 have hce:caps.map a.eval=cvs.toArray:=by rw[<- hcvs,<- Array.toList_map,Array.toArray_toList]
 have hV:V w g fr (.fn fd ds) (.func (.func fd) #[] cvs.toArray):=.fn fd ds cvs (by rw[<- hds,<- hcvs];simp) (by rw[<- hds];exact hcv)
 have hi1:=hi.put htd hV
 have hlt:t<a.tmps.size:=by rw[hi.size];simpa using htd
 have e1:(execOp a.eval ⟨some t,.makeFunc (.func fd) #[] caps,ty1,pos1,af1,none⟩).run P w=.ok (.value (.func (.func fd) #[] cvs.toArray)) w:=by
  simp[execOp,hce,Instr.makeFunc,Sem.run_bind]
 have e2:(execOp (a.put (some t) (.func (.func fd) #[] cvs.toArray)).eval ⟨none,.defer { callee:=.value (.tmp t),args := #[],argTypes:=ats },ty2,pos2,af2,none⟩).run P w=.ok (.defer { target:=.fn (.func fd) cvs.toArray,args := #[] }) w:=by
  simp[execOp,resolve,Act.eval,Act.put,hlt,Deferred.ofValue,Sem.run_bind]
 refine wp_region_lit ?_
 unfold wpList
 rw[if_pos (by simp[Region.wanted])]
 refine .inl ?_
 unfold Oper.wp
 rw[e1]
 show wpList _ _ _ _ _ _
 unfold wpList
 rw[if_pos (by simp[Region.wanted])]
 refine .inl ?_
 unfold Oper.wp
 rw[e2]
 rw[Oper.upon_defer]
 refine k cvs _ (by rw[<- hds,<- hcvs];simp) (by rw[<- hds];exact hcv) ?_
 refine @Inv.mk _ ⟨[{ target:=.fn (.func fd) cvs.toArray,args := #[] }]⟩ _ _ _ _ _ ?_ ?_ hi1.mem (fun t'=>?_) hi1.evo hi1.bd
 ·have:=hi1.size;simpa[Act.put]using this
 ·have:=hi1.defers
  simp only[Act.put]at this ⊢
  rw[this];rfl
 ·have:=hi1.tm t';simpa[Act.put]using this
theorem Inv.parts [Known][Dfr]{b:Bs}{S:St}{g:G}{a:Act}{w:World}(h:Inv b S g a w):a.tmps.size=S.n/\Mem g S.bx S.fr w/\(∀ t,V w g S.fr (look S.tm t) (a.tmps.getD t undef))/\Evo b ⟨g,S.fr,w⟩:=⟨h.size,h.mem,h.tm,h.evo⟩
theorem UC [Known]{P:Program}{fn:Func}{rs:List ResultVar}(hr:fn.results=rs.toArray){b:Bs}(hbρ:b.g.ρ=[])(hbf:b.fr=[]){S:St}{g:G}{a:Act}{w:World}{d:Deferred}(hi : @Inv _ ⟨[d]⟩ b S g a w){bs:List Nat}(hbs:Yg bs S.bx.length)
  {fd:FuncId} {cvs:List Value} (hd:d = { target:=.fn (.func fd) cvs.toArray,args := #[] }) (hfd:Uc P fd=true) {args:List D} (hlen:cvs.length=args.length) (hV:∀(j:Nat) (d:D) (v:Value),args[j]?=some d->cvs[j]?=some v->V w g S.fr d v)
  {u u':FrameMode} (hu:u ≠ .run) (hset:settle u'=.returning) {bxs bxs':List (List D)} (hsel:WO bs [] S.bx=bxs)
  (hC:∀(g:G) (w:World) (vs:List Value),Mem g bxs [] w->vs.length=(args.map (D.ren (idx bs) (idx []))).length->(∀(j:Nat) (d:D) (v:Value),(args.map (D.ren (idx bs) (idx [])))[j]?=some d->vs[j]?=some v->V w g [] d v) ->
   CallsD P fd vs.toArray u w fun e u2 w'=>(∃ v,e=.returned v)/\u2=u'/\∃ g',Mem g' bxs' [] w'/\Evo ⟨g,[],w⟩ ⟨g',[],w'⟩)
  {tmR:List (Nat × D)} (htm:∀ t,V w (g.sel bs []) [] (look tmR t) (a.tmps.getD t undef)) {ds:List D} (hres:ResL P ⟨S.n,tmR,bxs',[],(0,0)⟩ rs ds) {R:Ending->World->Prop}
  (hR:∀ g' w' v,Evo b ⟨g',[],w'⟩->Mem g' [] [] w'->V w' g' [] ((UH ds).ren (idx []) (idx [])) v->R (.returned v) w'):Leaves P fn a.tmps R [d] u w:=by
 subst hd
 obtain⟨isz,hm,itm,iev⟩:=@Inv.parts _ ⟨[{ target:=.fn (.func fd) cvs.toArray,args := #[] }]⟩ b S g a w hi
 refine leaves_cons (f:=fd) (args:=cvs.toArray) hu (by
  have:=Vc hfd cvs.toArray w
  simpa[invoke]using this) ?_
 have hms:=hm.sel hbs (Zo _)
 rw[hsel]at hms
 have hsF:WB [] S.fr=[]:=rfl
 rw[hsF]at hms
 refine(hC (g.sel bs []) w cvs hms (by simpa using hlen) (fun j d v hd hv=>?_)).mono fun e u2 w' ⟨⟨v,he⟩,hu2,g',hm',hev⟩=>?_
 ·rw[List.getElem?_map]at hd
  cases hj:args[j]? with
  | none=>simp[hj]at hd
  | some d0=>
   simp[hj]at hd;subst hd
   have:=(hV j d0 v hj hv).sel hm hbs (Zo _)
   rw[hsF]at this;exact this
 ·subst he hu2
  show Leaves P fn a.tmps R [] (settle u2) w'
  rw[hset]
  have hevS:Evo b ⟨g.sel bs [],[],w⟩:=by
   have:=iev.sel hm hbs (Zo _) (fun i hi=>by rw[hbρ]at hi;simp at hi) (fun i hi=>by rw[hbf]at hi;simp at hi)
   rw[hsF]at this;exact this
  have hinv : @Inv _ ⟨a.defers⟩ b ⟨S.n,tmR,bxs',[],(0,0)⟩ g' a w':=@Inv.mk _ ⟨a.defers⟩ _ _ _ _ _ isz rfl hm' (fun t=>(htm t).evo hev) (hevS.trans hev) ⟨by rw[hbρ];simp,by rw[hbf];simp⟩
  obtain⟨v,hrun,hv⟩:=@V4 _ ⟨a.defers⟩ _ _ _ _ _ _ hinv _ _ hr _ hres
  refine⟨v,hrun,hR (g'.sel [] []) w' v ?_ ?_ ?_⟩
  ·have:=(hevS.trans hev).sel hm' (Zo bxs'.length) (Zo _) (fun i hi=>by rw[hbρ]at hi;simp at hi) (fun i hi=>by rw[hbf]at hi;simp at hi)
   exact this
  ·exact hm'.sel (Zo _) (Zo _)
  ·exact hv.sel hm' (Zo _) (Zo _)
theorem XT [Known][Dfr]{P:Program}{Q:X->St->Prop}{n:Nat}{ee:Nat × Nat}{tm:List (Nat × D)}{bx:List (List D)}{fr:List Fr}{ops:Array Oper}{rest:List Oper}{ty:Nat}{pos:String}{after:Array Edge}{f:FuncId}{ars:Array Operand}{ats:Array TypeId}{t:Option Nat}{cds:List D}{p p':D}{bxs:List (List D)}(bs:List Nat)(hX:AX P f cds bxs p)(hf:Uc P f=true)
  (hc:D.wks ((ars.toList.map (ev tm)).map (D.ren (idx bs) (idx [])))=cds) (hb:Wq bs bx.length=true) (hbx:WO bs [] bx=bxs) (hle:Nat.ble bs.length bxs.length=true) (htd:(match t with|some t=>Nat.blt t n|none=>true)=true) (hp:nf (p.ren (upN bs bx.length) (upN [] fr.length))=some p')
  (k:∀ bx2 fr2,bxs.length<=bx2.length->Q (.pan p') ⟨n,tm,VL bs [] bx fr.length bx2,fr2,ee⟩):AL P ops (⟨t,.call { callee:=.value (.func f),args:=ars,argTypes:=ats },ty,pos,after,none⟩::rest) ⟨n,tm,bx,fr,ee⟩ Q:=by
 refine Vp bs [] hf (AC.unwk (hc ▸ hX)) rfl (Yf hb) (Zo _) hbx rfl htd (fun d bx' fr' h=>?_) fun d0 bx' fr' h=>by cases h.1
 obtain⟨h1,h2⟩:=h
 injection h1 with h1
 subst h1
 have hle:=Nat.le_of_ble_eq_true hle
 refine⟨by omega,?_⟩
 have e:=Yd hp
 subst e
 exact k _ _ h2
theorem U6 [Known][Dfr]{P:Program}{x y:Code}{S:St}{R:Exit->Act->World->Prop}{b0:Bs}{g:G}{a:Act}{w:World}(n:Nat)(tm:List (Nat × D))(bx:List (List D))(fr:List Fr)(ee:Nat × Nat)(hi:Inv b0 S g a w)
  (h:AW P x S (fun X S'=>X=.norm/\S'.n=n/\S'.bx=bx/\S'.fr=fr/\S'.e=ee/\Sub S'.tm tm)) (k:∀ g a w,Inv b0 ⟨n,tm,bx,fr,ee⟩ g a w->y.wp P R a w):(x.seq y).wp P R a w:=by
 refine wp_seq (wp_mono (h.run _ _ _ _ hi) fun e a' w' hc=>?_)
 cases e with
 | normal=>
  obtain⟨⟨n',tm',bx',fr',ee'⟩,g',hi',_,h1,h2,h3,h4,h5⟩:=hc
  dsimp only at h1 h2 h3 h4 h5
  subst h1 h2 h3 h4
  exact k _ _ _ (hi'.sub h5)
 | panic c=>obtain⟨_,_,_,_,_,_,_,h,_⟩:=hc;cases h
 | ret=>obtain⟨_,_,_,h,_⟩:=hc;cases h
 | exit i=>obtain⟨_,_,_,h,_⟩:=hc;cases h
 | goto i=>obtain⟨_,_,_,h,_⟩:=hc;cases h
 | outgrown=>exact hc.elim
theorem Inv.dl [Known][Dfr]{b:Bs}{S:St}{g:G}{a:Act}{w:World}(h:Inv b S g a w):a.defers=Dfr.l:=h.defers
theorem Inv.rebase [Known][Dfr]{b:Bs}{n:Nat}{tm:List (Nat × D)}{bx:List (List D)}{fr:List Fr}{ee:Nat × Nat}{g:G}{a:Act}{w:World}(h:Inv b ⟨n,tm,bx,fr,ee⟩ g a w)(p q:Nat)(hp:bx.length=p)(hq:fr.length=q):Inv ⟨g,fr,w⟩ ⟨n,tm,bx,fr,(p,q)⟩ g a w:=
 ⟨h.size,h.defers,h.mem,h.tm,Evo.refl _,by show g.ρ.length<=p;rw[h.mem.bl];exact Nat.le_of_eq hp,Nat.le_of_eq hq⟩
theorem Inv.base [Known][Dfr]{b b1:Bs}{S:St}{g:G}{a:Act}{w:World}(h:Inv b1 S g a w)(he:Evo b b1)(hρ:b.g.ρ=[])(hf:b.fr=[]):Inv b S g a w:=
 ⟨h.size,h.defers,h.mem,h.tm,he.trans h.evo,by rw[hρ];simp,by rw[hf];simp⟩
theorem Xo [Known]{P:Program}{c:Code}{S:St}{Q:X->St->Prop}{b:Bs}{g:G}{a:Act}{w:World}{R:Exit->Act->World->Prop}(df:List Deferred)(h : @AW _ ⟨df⟩ P c S Q)(hi : @Inv _ ⟨df⟩ b S g a w)
  (k1:∀ S g a w,@Inv _ ⟨df⟩ b S g a w->a.defers=df->Q .ret S->R .ret a w) (k2:∀ S g a w v d,@Inv _ ⟨df⟩ b S g a w->a.defers=df->V w g S.fr d v->Q (.pan d) S->R (.panic [{ v,recovered:=false }]) a w)
  (k3:∀ S,Q .norm S->False) (k4:∀ S i,Q (.exit i) S->False) (k5:∀ S i,Q (.goto i) S->False):c.wp P R a w:=by
 refine wp_mono (@AW.run _ ⟨df⟩ P c S Q h b g a w hi) fun e a' w' hc=>?_
 cases e with
 | normal=>obtain⟨S',g',hi',h⟩:=hc;exact(k3 _ h).elim
 | ret=>obtain⟨S',g',hi',h⟩:=hc;exact k1 _ _ _ _ hi' (@Inv.dl _ ⟨df⟩ _ _ _ _ _ hi') h
 | exit i=>obtain⟨S',g',hi',h⟩:=hc;exact(k4 _ _ h).elim
 | goto i=>obtain⟨S',g',hi',h⟩:=hc;exact(k5 _ _ h).elim
 | panic c=>obtain⟨S',g',v,d,hi',rfl,hv,h⟩:=hc;exact k2 _ _ _ _ v d hi' (@Inv.dl _ ⟨df⟩ _ _ _ _ _ hi') hv h
 | outgrown=>exact hc.elim
end Go.Av
end
section
open Go.RowKit Go.Pl
namespace Go.Av
inductive Zy where
 | pu (d:D)
 | al (cs:List D)
def z0 (p:Nat × Zy):Nat × D:=(p.1,match p.2 with | .pu d=>d | .al _=>.junk)
def Oo:Nat->List (Nat × Zy)->List (Nat × D)->List (Nat × D)
 | _,[],tm=>tm
 | m,(_,.pu _)::zs,tm=>Oo m zs tm
 | m,(t,.al _)::zs,tm=>Oo (m+1) zs ((t,.ptr m 0)::tm)
def zcs:List (Nat × Zy)->List (List D)
 | []=>[]
 | (_,.pu _)::zs=>zcs zs
 | (_,.al cs)::zs=>cs::zcs zs
section
variable {P:Program} {T:Tab} {Q:X->St->Prop} {n:Nat} {ee:Nat × Nat} {tm tm':List (Nat × D)} {bx:List (List D)} {fr:List Fr} {b0:Bs} {g g':G} {w w':World} {a:Act}
inductive AZ [Known][Dfr](P:Program) (T:Tab) (l:List Oper) (n:Nat) (bx:List (List D)) (fr:List Fr):List Oper->List (Nat × D)->List (Nat × Zy)->List (Nat × D)->Prop
 | nil (tm:List (Nat × D)):AZ P T l n bx fr [] tm [] tm
 | pu (o:Oper) (rest:List Oper) (t:Nat) (d:D) (tm:List (Nat × D)) (zs:List (Nat × Zy)) (tm':List (Nat × D)) (hd:o.dst=some t) (ht:Nat.blt t n=true) (h:AL P l.toArray [o] ⟨n,ZU l o tm,bx,fr,(bx.length,fr.length)⟩ (qY o bx fr (.pu d))) (k:AZ P T l n bx fr rest ((t,d)::tm) zs tm'):AZ P T l n bx fr (o::rest) tm ((t,.pu d)::zs) tm'
 | al (t:Nat) (e:TypeId) (ty:Nat) (pos:String) (after:Array Edge) (rest:List Oper) (ti:Ti) (tm:List (Nat × D)) (zs:List (Nat × Zy)) (tm':List (Nat × D)) (ht:Nat.blt t n=true) (hti:tl T e=some ti) (k:AZ P T l n bx fr rest ((t,.junk)::tm) zs tm'):AZ P T l n bx fr (⟨some t,.alloc e,ty,pos,after,none⟩::rest) tm ((t,.al (ti.zero.map ZK.d))::zs) tm'
theorem WG (l:List Oper)(o:Oper):∀ tm:List (Nat × D),ZU l o tm=tm.filter fun p=>(YM l o).contains p.1
 | []=>rfl
 | p::tm=>by
  rw[ZU,List.filter_cons,WG l o tm]
  cases(YM l o).contains p.1<;>rfl
def Jc (b0:Bs)(g:G)(w:World)(k:Nat)(cs:List D):Prop:=b0.w.heap.size<=k/\¬ M g k/\(∀ o,¬ g.C k o)/\∃ vs ty,w.heap[k]?=some (.cells vs ty (0,0))/\(vs.size=cs.length/\D.isRow cs=false)/\∀(w:World) (g:G) (fr:List Fr) (j:Nat) (d:D) (v:Value),cs[j]?=some d->vs[j]?=some v->V w g fr d v
theorem Jc.lt {k:Nat}{cs:List D}(h:Jc b0 g w k cs):k<w.heap.size:=by
 obtain⟨_,_,_,vs,ty,h1,_⟩:=h
 exact(Array.getElem?_eq_some_iff.1 h1).1
theorem Jc.evo {k:Nat}{cs:List D}(h:Jc b0 g w k cs){fr fr':List Fr}(e:Evo ⟨g,fr,w⟩ ⟨g',fr',w'⟩):Jc b0 g' w' k cs:=by
 have hlt:=h.lt
 obtain⟨h1,h2,h3,vs,ty,h4,h5,h6⟩:=h
 refine⟨h1,fun hm=>?_,fun o hc=>?_,vs,ty,(e.block k hlt h2).trans h4,h5,h6⟩
 ·rcases e.own hm with hm|hm
  ·exact h2 hm
  ·exact absurd hlt (Nat.not_lt.2 hm)
 ·rcases e.newC k o hc with hc|hc|hc
  ·exact h3 o hc
  ·exact absurd hlt (Nat.not_lt.2 hc)
  ·exact h2 hc
theorem Evo.al [Known](hm:Mem g bx fr w)(o:Obj):Evo ⟨g,fr,w⟩ ⟨g,fr,w.alloc o⟩:=
 ⟨rfl,rfl,rfl,by simp,fun k hk _=>Below.heap_alloc w _ k hk,fun _ _ h=>h,fun k p h=>YW w _ (hm.Clt k p h) p,fun _ _ h=>.inl h,fun _ _ h=>h,fun _ h=>.inl h,fun k c h=>.inl ⟨c,h⟩,YU.refl _ _⟩
theorem Mem.al [Known](hm:Mem g bx fr w)(o:Obj):Mem g bx fr (w.alloc o) where
 bl:=hm.bl
 bat i k cs' h1 h2:=by
  obtain⟨us,ty,k1,k2,k3⟩:=hm.bat i k cs' h1 h2
  exact⟨us,ty,(Below.heap_alloc w _ k (Array.getElem?_eq_some_iff.1 k1).1).trans k1,k2,fun j d v hd hv=>(k3 j d v hd hv).evo (Evo.al hm o)⟩
 bC:=hm.bC
 bN:=hm.bN
 tl:=hm.tl
 tat i k c f h1 h2:=by
  have hT:=hm.tat i k c f h1 h2
  obtain⟨cur,r1,r2⟩:=hT.row
  exact⟨⟨cur,(Below.heap_alloc w _ k (Array.getElem?_eq_some_iff.1 r1).1).trans r1,r2⟩,hT.le,hT.max,hT.pos,hT.far⟩
 tN:=hm.tN
 tρ:=hm.tρ
 Clt k p hC:=by
  have:=hm.Clt k p hC
  simp;omega
 gl:=hm.gl.evo (Evo.al hm o)
theorem Inv.addB [Known][Dfr]{k t:Nat}{cs:List D}(hi:Inv b0 ⟨n,tm,bx,fr,ee⟩ g a w)(hG:Jc b0 g w k cs)(ht:a.tmps.getD t undef=.pointer (some ⟨k,0,none⟩)):Inv b0 ⟨n,(t,.ptr bx.length 0)::tm,bx++[cs],fr,ee⟩ ⟨g.C,g.ρ++[k],g.τ⟩ a w:=by
 obtain⟨h1,h2,h3,vs,ty,h4,h5,h6⟩:=hG
 have hm:=hi.mem
 have hρ:∀(i b:Nat),g.ρ[i]?=some b->(g.ρ++[k])[i]?=some b:=fun i b h=>(List.getElem?_append_left (List.getElem?_eq_some_iff.1 h).1).trans h
 have hV:∀ {d:D} {v:Value},V w g fr d v->V w ⟨g.C,g.ρ++[k],g.τ⟩ fr d v:=fun h=>h.mono (fun _ _ h=>h) (fun _ _ _=>rfl) hρ (YU.refl g fr)
 have hget:∀(i b:Nat),(g.ρ++[k])[i]?=some b->g.ρ[i]?=some b\/(i=g.ρ.length/\b=k):=fun i b h=>by
  rcases Nat.lt_or_ge i g.ρ.length with hlt|hge
  ·rw[List.getElem?_append_left hlt]at h;exact .inl h
  ·rw[List.getElem?_append_right hge]at h
   have h0:i-g.ρ.length=0:=by have:=(List.getElem?_eq_some_iff.1 h).1;simp at this;omega
   simp[h0]at h
   exact .inr ⟨by omega,h.symm⟩
 refine⟨hi.size,hi.defers,⟨?_,?_,?_,?_,hm.tl,?_,hm.tN,?_,hm.Clt,hm.gl⟩,fun x=>?_,⟨hi.evo.os,hi.evo.tape,hi.evo.output,hi.evo.size,hi.evo.block,hi.evo.C,hi.evo.cell,hi.evo.newC,fun i b h=>hρ i b (hi.evo.ρp i b h),fun b h=>?_,hi.evo.τn,hi.evo.tok⟩,hi.bd⟩
 ·simp[hm.bl]
 ·intro i b cs' e1 e2
  rcases hget i b e1 with e3|⟨rfl,rfl⟩
  ·have hlt:i<bx.length:=by rw[<- hm.bl];exact(List.getElem?_eq_some_iff.1 e3).1
   rw[List.getElem?_append_left hlt]at e2
   obtain⟨us,ty',k1,k2,k3⟩:=hm.bat i b cs' e3 e2
   exact⟨us,ty',k1,k2,fun j d v hd hv=>hV (k3 j d v hd hv)⟩
  ·rw[List.getElem?_append_right (by rw[hm.bl];exact Nat.le_refl _),hm.bl]at e2
   simp at e2;subst e2
   exact⟨vs,ty,h4,J2 h5.1 h5.2,fun j d v hd hv=>h6 _ _ _ j d v (by rw[Va h5.2]at hd;exact hd) hv⟩
 ·intro b o hb hC
  rcases List.mem_append.1 hb with h|h
  ·exact hm.bC b o h hC
  ·simp at h;subst h
   exact h3 o hC
 ·intro i j b e1 e2
  have cross:∀ i:Nat,g.ρ[i]?=some b->b=k->False:=fun i e3 e=>by
   subst e;exact h2 (.inl (List.mem_of_getElem? e3))
  rcases hget i b e1 with e3|⟨e3,e3'⟩<;>rcases hget j b e2 with e4|⟨e4,e4'⟩
  ·exact hm.bN i j b e3 e4
  ·exact(cross i e3 e4').elim
  ·exact(cross j e4 e3').elim
  ·omega
 ·intro i b c f e1 e2
  have hT:=hm.tat i b c f e1 e2
  exact⟨hT.row,hT.le,hT.max,hT.pos,hT.far⟩
 ·intro b c hb hr
  rcases List.mem_append.1 hr with h|h
  ·exact hm.tρ b c hb h
  ·simp at h;subst h
   exact h2 (.inr ⟨c,hb⟩)
 ·cases hb:Nat.beq t x with
  | true=>
   have e:=Nat.eq_of_beq_eq_true hb
   subst e
   simp only[look,hb]
   rw[ht]
   exact .ptr _ _ _ (by rw[List.getElem?_append_right (by rw[hm.bl];exact Nat.le_refl _),hm.bl];simp)
  | false=>
   simp only[look,hb]
   exact hV (hi.tm x)
 ·rcases List.mem_append.1 h with h|h
  ·exact hi.evo.ρn b h
  ·simp at h;subst h;exact .inr h1
structure AZk [Known][Dfr](P:Program) (l acts:List Oper) (n:Nat) (zs:List (Nat × Zy)) (tm:List (Nat × D)) (bx:List (List D)) (fr:List Fr) (ee:Nat × Nat) (Q:X->St->Prop):Prop where
 run:AL P l.toArray acts ⟨n,Oo bx.length zs tm,bx++zcs zs,fr,ee⟩ Q
theorem KL [Known][Dfr]{l acts:List Oper}{zs:List (Nat × Zy)}{bx2:List (List D)}{tm2:List (Nat × D)}{k0:Nat}(hk0:WU bx=some k0)(htm:nfl (Oo k0 zs tm)=some tm2)(hbx:nfb (bx++zcs zs)=some bx2)(k:AL P l.toArray acts ⟨n,tm2,bx2,fr,ee⟩ Q):AZk P l acts n zs tm bx fr ee Q:=by
 have e1:=YE hk0
 have e2:=Yb htm
 have e3:=YF hbx
 subst e1 e2 e3
 exact⟨k⟩
end
end Go.Av
end
section
open Go.RowKit Go.Pl
namespace Go.Av
mutual
def stD (b:Nat)(l:List E):D->D
 | .bsl b' o n c=>match Nat.blt b' b with
  | true=>.bsl b' o n c
  | false=>match Nat.beq b' b with
   | true=>.sl .ext l
   | false=>.junk
 | .ptr b' o=>match Nat.blt b' b with
  | true=>.ptr b' o
  | false=>.junk
 | .sl t l'=>.sl t l'
 | .agg ds=>.agg (Oq b l ds)
 | .tup ds=>.tup (Oq b l ds)
 | .fn f ds=>.fn f (Oq b l ds)
 | .iface t d=>.iface t (stD b l d)
 | .bool b=>.bool b
 | .int k n=>.int k n
 | .str s=>.str s
 | .nilp=>.nilp
 | .eptr cs o=>.eptr cs o
 | .gptr k o=>.gptr k o
 | .nilf=>.nilf
 | .nili=>.nili
 | .junk=>.junk
 | .row z l=>.row z l
def Oq (b:Nat)(l:List E):List D->List D
 | []=>[]
 | d::ds=>stD b l d::Oq b l ds
end
mutual
def SOk (b n:Nat):D->Prop
 | .bsl b' o n' _=>Nat.blt b' b=true\/Nat.blt b b'=true\/(b'=b/\o=0/\n'=n)
 | .agg ds=>Ot b n ds
 | .tup ds=>Ot b n ds
 | .fn _ ds=>Ot b n ds
 | .iface _ d=>SOk b n d
 | _=>True
def Ot (b n:Nat):List D->Prop
 | []=>True
 | d::ds=>SOk b n d/\Ot b n ds
end
section
variable {P:Program} {Q:X->St->Prop} {n:Nat} {ee:Nat × Nat} {tm:List (Nat × D)} {bx bx':List (List D)} {fr fr':List Fr} {b0:Bs} {g g':G} {w w':World} {a:Act} {T:Tab}
variable {ops:Array Oper} {rest:List Oper} {t ty:Nat} {pos:String} {after:Array Edge}
theorem QC [Known][Dfr](hT:chk P T=true){st e:Nat}{ti te:Ti}{parts:Array (Nat × Operand)}(ht:tl T st=some ti)(hk:ti.kd=.slice e)(hte:tl T e=some te)(hp:parts = #[])(hpos:Nat.blt 0 te.size=true)(htd:Nat.blt t n=true)
  (k:AL P ops rest ⟨n,(t,.sl .zero [])::tm,bx,fr,ee⟩ Q):AL P ops (⟨some t,.buildSlice st 0 parts,ty,pos,after,none⟩::rest) ⟨n,tm,bx,fr,ee⟩ Q:=
 JR (fun b0 g a w hi=>by
  obtain⟨cs,c1,c2,c3,c4,c5⟩:=Kl (t:=t) (ty:=ty) (pos:=pos) (after:=after) hT ht hk hte (parts:=parts) (xs:=[]) (ds:=[]) (es:=[]) (len:=0) (by rw[hp];rfl) rfl rfl rfl rfl hpos (by rw[Nat.zero_mul];rfl) hi
  have hev:Evo ⟨g,fr,w⟩ ⟨g,fr,w.alloc (.cells cs.toArray e)⟩:=Evo.al hi.mem _
  have hi2:Inv b0 ⟨n,tm,bx,fr,ee⟩ g a (w.alloc (.cells cs.toArray e)):=⟨hi.size,hi.defers,Mem.al hi.mem _,fun t=>(hi.tm t).evo hev,hi.evo.trans hev,hi.bd⟩
  exact⟨.slice (some ⟨w.heap.size,0,none⟩) 0 0,_,tm,bx,fr,g,.sl .zero [],c5,hi2,.sl _ _ _ (.slE _ _ (Nat.zero_le _)) ⟨_,rfl⟩,k⟩) htd
end
end Go.Av
end
