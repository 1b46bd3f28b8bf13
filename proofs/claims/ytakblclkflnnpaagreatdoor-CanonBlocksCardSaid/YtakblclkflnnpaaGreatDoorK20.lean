/- A function that defers a call which recovers. -/
import Derived.Test.YtakblclkflnnpaaGreatDoorK10
import Derived.Recover
import Derived.Test.YtakblclkflnnpaaGreatDoorK12
import Derived.Test.YtakblclkflnnpaaGreatDoorK19
set_option linter.unusedSimpArgs false
set_option linter.unusedVariables false
section
open Go.RowKit Go.Pl
namespace Go.Av
section
variable {P:Program} {Q:X->St->Prop} {n:Nat} {ee:Nat × Nat} {tm tm':List (Nat × D)} {bx bx':List (List D)} {fr fr':List Fr} {b0:Bs} {g:G} {w:World} {a:Act} {T:Tab}
variable {ops:Array Oper} {rest:List Oper} {t ty:Nat} {pos:String} {after:Array Edge}
def ZqN (P:Program)(t:TypeId):Option (List Value):=match P.info? t with
 | some i=>match i.zero with
  | some (.agg cs)=>some cs.toList
  | _=>none
 | none=>none
theorem Zpq [Known][Dfr](hT:chk P T=true){x:Operand}{xt at_:TypeId}{d:D}{ti:Ti}{fs:List Fd}(hx:ev tm x=.iface at_ d)(ht:tl T at_=some ti)(hk:ti.kd=.struct fs)(htd:Nat.blt t n=true)
  (k:AL P ops rest ⟨n,(t,.tup [d,.bool true])::tm,bx,fr,ee⟩ Q):AL P ops (⟨some t,.typeAssert x xt at_ true,ty,pos,after,none⟩::rest) ⟨n,tm,bx,fr,ee⟩ Q:=
 Za5 _ htd (fun g a w hi=>by
  have h1:V w g fr (ev tm x) (a.eval x):=hi.ev x
  rw[hx]at h1
  obtain⟨fields,hu,_⟩:=(Zbd hT ht).struct hk
  generalize hv:a.eval x=v at h1
  cases h1 with
  | iface _ _ u hu'=>
   refine⟨.tuple #[u,.bool true],?_,.tup _ [u,.bool true] rfl fun j d' v' hd' hv'=>?_⟩
   ·simp[execOp,hv,Instr.typeAssert,Sem.run_bind,run_underlying hu]
   ·match j with
    | 0=>simp at hd' hv';subst hd' hv';exact hu'
    | 1=>simp at hd' hv';subst hd' hv';exact .bool true
    | j+2=>simp at hd') k
theorem Zpr [Known][Dfr](hT:chk P T=true){x:Operand}{xt at_:TypeId}{cs:List Value}{ti:Ti}{fs:List Fd}(hx:ev tm x=.nili)(ht:tl T at_=some ti)(hk:ti.kd=.struct fs)(hz:ZqN P at_=some cs)(htd:Nat.blt t n=true)
  (k:AL P ops rest ⟨n,(t,.tup [.agg (cs.map ZeQ),.bool false])::tm,bx,fr,ee⟩ Q):AL P ops (⟨some t,.typeAssert x xt at_ true,ty,pos,after,none⟩::rest) ⟨n,tm,bx,fr,ee⟩ Q:=
 Za5 _ htd (fun g a w hi=>by
  have h1:V w g fr (ev tm x) (a.eval x):=hi.ev x
  rw[hx]at h1
  obtain⟨fields,hu,_⟩:=(Zbd hT ht).struct hk
  generalize hv:a.eval x=v at h1
  have hzv:(zeroValue at_).run P w=.ok (.agg cs.toArray) w:=by
   unfold ZqN at hz
   cases hi':P.info? at_ with
   | none=>simp[hi']at hz
   | some i=>
    simp only[hi']at hz
    cases hz':i.zero with
    | none=>simp[hz']at hz
    | some z=>
     simp only[hz']at hz
     cases z with
     | agg c=>simp at hz;subst hz;simp[zeroValue,typeInfo,Sem.run_bind,hi',hz']
     | _=>simp at hz
  cases h1 with
  | nili=>
   refine⟨.tuple #[.agg cs.toArray,.bool false],?_,.tup _ [.agg cs.toArray,.bool false] rfl fun j d' v' hd' hv'=>?_⟩
   ·simp[execOp,hv,Instr.typeAssert,Sem.run_bind,run_underlying hu,hzv]
   ·match j with
    | 0=>
     simp at hd' hv';subst hd' hv'
     refine .agg _ cs (by simp) fun j d v hd hv=>?_
     rw[List.getElem?_map,hv]at hd
     simp at hd
     exact hd ▸ Zdu _ _ _ v
    | 1=>simp at hd' hv';subst hd' hv';exact .bool false
    | j+2=>simp at hd') k
theorem Zps {o:Oper}{K K':Act->World->Prop}{R R':Exit->Act->World->Prop}{r:Result Next}(h:o.upon P a K R r)(hK:∀ a w,K a w->K' a w)(hR:∀ c w,R (.panic c) a w->R' (.panic c) a w)(hL:LetsOut R->False):o.upon P a K' R' r:=by
 cases r with
 | ok nx w'=>
  cases nx<;>simp only[Oper.upon]at h ⊢
  case value v=>exact hK _ _ h
  case skip=>exact hK _ _ h
  case defer d=>exact hK _ _ h
  case enter f args=>
   refine Calls.mono h (fun e w'' he=>?_)
   cases e with
   | returned u=>exact hK _ _ he
   | panicked c=>exact hR _ _ he
   | outgrown=>exact(hL he).elim
  case row row args=>exact Rows.mono h fun u w'' he=>hK _ _ he
 | halt x w'=>
  cases x<;>simp only[Oper.upon]at h ⊢
  case panic u=>exact hR _ _ h
theorem ZeW {ops:Array Oper}{cs:List Frame}{R:Exit->Act->World->Prop}{Q':Exit->Act->List Frame->World->Prop}(hR:∀ e a w,R e a w->Q' e a cs w)(hL:LetsOut R->False) :
  ∀(l:List Oper) (k:Nat) (a:Act) (w:World),(∀ j,l[j]?=ops[k+j]?)->wpList P ops R l a w->wpOpsS P ops Q' (List.range' k l.length) a cs w
 | [],k,a,w,_,h=>by
  simp only[List.length_nil,List.range'_zero,wpOpsS]
  exact hR _ _ _ h
 | o::l,k,a,w,hl,h=>by
  have h0:ops[k]?=some o:=by simpa using(hl 0).symm
  have ih:=fun a w=>ZeW hR hL l (k+1) a w (fun j=>by have:=hl (j+1);simpa[Nat.add_assoc,Nat.add_comm 1 j]using this)
  rw[List.length_cons,List.range'_succ]
  simp only[wpOpsS,h0]
  unfold wpList at h
  by_cases hw:Region.wanted o (yielded ops a.tmps)=true
  ·rw[if_pos hw]at h
   rw[if_pos hw]
   rcases h with h|⟨_,hlo⟩
   ·unfold Oper.wp at h
    split
    ·rename_i w' hr
     rw[hr]at h
     exact h.elim
    ·exact Zps h (fun a w h=>ih a w h) (fun c w h=>hR _ _ _ h) hL
   ·exact(hL hlo).elim
  ·rw[if_neg hw]at h
   rw[if_neg hw]
   exact ih _ _ h
end
theorem Zhw [Known]{n:Nat}{args:List D}{bx:List (List D)}{fr:List Fr}{g:G}{w:World}{vs:List Value}(hle:args.length<=n)(hm:Mem g bx fr w)(hlen:vs.length=args.length)(hv:∀(j:Nat) (d:D) (v:Value),args[j]?=some d->vs[j]?=some v->V w g fr d v) :
  Inv ⟨g,fr,w⟩ ⟨n,Zbr 0 args,bx,fr,(bx.length,fr.length)⟩ g { tmps:=vs.toArray++Array.replicate (n-vs.toArray.size) undef,defers:=[] } w:=by
 refine⟨by simp;omega,rfl,hm,fun t=>?_,Evo.refl _,by rw[hm.bl];exact Nat.le_refl _,Nat.le_refl _⟩
 rw[Zfh]
 simp only[Nat.zero_le,if_true,Nat.sub_zero]
 cases ht:args[t]? with
 | none=>exact .junk _
 | some d=>
  have hlt:t<args.length:=(List.getElem?_eq_some_iff.1 ht).1
  refine hv t d _ ht ?_
  have hlt2:t<vs.length:=by omega
  simp[Array.getD_getElem?,Array.getElem?_append,hlt2]
theorem Zpt [Known]{P:Program}{f:FuncId}{fn:Func}{id n t0:Nat}{o0:Oper}{l:List Oper}{y:Code}{args:List D}{bx:List (List D)}{fr:List Fr}{u u':FrameMode}{dv:D}{post:St->Prop}
  (hf:P.funcs[f]?=some fn) (hb:fn.body=some ((Code.region id (o0::l).toArray false).seq y)) (hn:fn.ntmps=n) (hr:fn.results = #[]) (hl:Nat.ble args.length n=true) (ht:Nat.blt t0 n=true)
  (ho:o0.dst=some t0) (hg:o0.guard=none) {w:World} (hop:∀ ρ,(execOp ρ o0).run P w=.ok .recover w) {g:G} {vs:List Value} (hm:Mem g bx fr w) (hlen:vs.length=args.length) (hv:∀(j:Nat) (d:D) (v:Value),args[j]?=some d->vs[j]?=some v->V w g fr d v)
  (hrec:∀(c₀:Frame) (cs:List Frame),c₀.mode=u->match recoverD (c₀::cs) with
   | some (v,cs')=>V w g fr dv v/\cs' = { c₀ with mode:=u' }::cs
   | none=>dv=.nili/\u'=u)
  (h1:AL P (o0::l).toArray l ⟨n,(t0,dv)::Zbr 0 args,bx,fr,(bx.length,fr.length)⟩ (fun x S=>x=.norm/\AW P y S (fun x S=>x=.norm/\post S))) :
  CallsD P f vs.toArray u w fun e u2 w'=>(∃ v,e=.returned v)/\u2=u'/\∃ S g',Mem g' S.bx S.fr w'/\Evo ⟨g,fr,w⟩ ⟨g',S.fr,w'⟩/\post S:=by
 refine callsD_of_wpS hf hb fun c₀ cs hc=>?_
 refine wpS_seq (wpS_region ?_)
 have hi0:=Zhw (Nat.le_of_ble_eq_true hl) hm hlen hv
 rw[hn]
 generalize ha:({ tmps:=vs.toArray++Array.replicate (n-vs.toArray.size) undef,defers:=[] }:Act)=a at hi0
 obtain⟨v0,cs1,hcs1,hV0,hstep⟩:∃(v0:Value) (cs1:List Frame),cs1 = { c₀ with mode:=u' }::cs/\V w g fr dv v0/\∀ Q',wpOpsS P (o0::l).toArray Q' (List.range' 1 l.length) (a.put o0.dst v0) cs1 w->wpOpsS P (o0::l).toArray Q' (List.range (o0::l).toArray.size) a (c₀::cs) w:=by
  have h0:((o0::l).toArray)[0]?=some o0:=by simp
  have hw:Region.wanted o0 (yielded (o0::l).toArray a.tmps)=true:=by simp[Region.wanted,hg]
  have hsz:List.range (o0::l).toArray.size=0::List.range' 1 l.length:=by
   rw[List.range_eq_range'];simp[List.range'_succ]
  have hre:=hrec c₀ cs hc
  cases hrd:recoverD (c₀::cs) with
  | none=>
   rw[hrd]at hre
   obtain⟨rfl,rfl⟩:=hre
   refine⟨.nilIface,c₀::cs,by subst hc;rfl,.nili,fun Q' h=>?_⟩
   rw[hsz]
   simp only[wpOpsS,h0,if_pos hw,hop,hrd]
   exact h
  | some y=>
   obtain⟨v,cs'⟩:=y
   rw[hrd]at hre
   refine⟨v,cs',hre.2,hre.1,fun Q' h=>?_⟩
   rw[hsz]
   simp only[wpOpsS,h0,if_pos hw,hop,hrd]
   exact h
 refine hstep _ ?_
 have hi1:Inv ⟨g,fr,w⟩ ⟨n,(t0,dv)::Zbr 0 args,bx,fr,(bx.length,fr.length)⟩ g (a.put o0.dst v0) w:=by
  rw[ho];exact hi0.put ht hV0
 refine ZeW (R:=Ze5 ⟨g,fr,w⟩ (fun x S=>x=.norm/\AW P y S (fun x S=>x=.norm/\post S))) (fun e a' w' h=>?_) (fun⟨_,_,h⟩=>h) l 1 _ _ (fun j=>by simp[Nat.add_comm 1 j]) (h1.run _ _ _ _ hi1)
 cases e with
 | normal=>
  obtain⟨S,g',hi,_,hy⟩:=h
  refine wpS_of_wp ?_
  refine wp_mono (hy.run _ _ _ _ hi) fun e a2 w2 hc2=>?_
  cases e with
  | normal=>
   obtain⟨S2,g2,hi2,_,hp⟩:=hc2
   refine⟨hi2.defers,u',hcs1,.tuple #[],by simp[results,hr,Sem.run_bind],⟨_,rfl⟩,rfl,S2,g2,hi2.mem,hi2.evo,hp⟩
  | panic c=>obtain⟨_,_,_,_,_,_,_,h,_⟩:=hc2;cases h
  | ret=>obtain⟨_,_,_,h,_⟩:=hc2;cases h
  | exit i=>obtain⟨_,_,_,h,_⟩:=hc2;cases h
  | goto i=>obtain⟨_,_,_,h,_⟩:=hc2;cases h
  | outgrown=>exact hc2.elim
 | panic c=>obtain⟨_,_,_,_,_,_,_,h,_⟩:=h;cases h
 | ret=>obtain⟨_,_,_,h,_⟩:=h;cases h
 | exit i=>obtain⟨_,_,_,h,_⟩:=h;cases h
 | goto i=>obtain⟨_,_,_,h,_⟩:=h;cases h
 | outgrown=>exact h.elim
theorem Zlr [Known]{P:Program}{R:Exit->Act->World->Prop}{id t fd:Nat}{caps:Array Operand}{ds:List D}{ats:Array TypeId}{ty1 ty2:Nat}{pos1 pos2:String}{af1 af2:Array Edge}{n:Nat}{ee:Nat × Nat}{tm:List (Nat × D)}{bx:List (List D)}{fr:List Fr}{b0:Bs}{g:G}{a:Act}{w:World}{y:Code}
  (hi:Inv b0 ⟨n,tm,bx,fr,ee⟩ g a w) (hds:caps.toList.map (ev tm)=ds) (htd:Nat.blt t n=true)
  (k:∀(cvs:List Value) (a':Act),cvs.length=ds.length->(∀(j:Nat) (d:D) (v:Value),ds[j]?=some d->cvs[j]?=some v->V w g fr d v) ->
   @Inv _ ⟨[{ target:=.fn (.func fd) cvs.toArray,args := #[] }]⟩ b0 ⟨n,(t,.fn fd ds)::tm,bx,fr,ee⟩ g a' w->y.wp P R a' w) :
  ((Code.region id #[⟨some t,.makeFunc (.func fd) #[] caps,ty1,pos1,af1,none⟩,⟨none,.defer { callee:=.value (.tmp t),args := #[],argTypes:=ats },ty2,pos2,af2,none⟩] false).seq y).wp P R a w:=by
 refine wp_seq ?_
 have hcv:=evs hi caps
 generalize hcvs:caps.toList.map a.eval=cvs at hcv
 have hce:caps.map a.eval=cvs.toArray:=by rw[<- hcvs,<- Array.toList_map,Array.toArray_toList]
 have hV:V w g fr (.fn fd ds) (.func (.func fd) #[] cvs.toArray):=.fn fd ds cvs (by rw[<- hds,<- hcvs];simp) (by rw[<- hds];exact hcv)
 have hi1:=hi.put htd hV
 have hlt:t<a.tmps.size:=by rw[hi.size];simpa using htd
 have e1:(execOp a.eval ⟨some t,.makeFunc (.func fd) #[] caps,ty1,pos1,af1,none⟩).run P w=.ok (.value (.func (.func fd) #[] cvs.toArray)) w:=by
  simp[execOp,hce,Instr.makeFunc,Sem.run_bind]
 have e2:(execOp (a.put (some t) (.func (.func fd) #[] cvs.toArray)).eval ⟨none,.defer { callee:=.value (.tmp t),args := #[],argTypes:=ats },ty2,pos2,af2,none⟩).run P w=.ok (.defer { target:=.fn (.func fd) cvs.toArray,args := #[] }) w:=by
  simp[execOp,resolve,Act.eval,Act.put,hlt,Deferred.ofValue,Sem.run_bind]
 refine wp_region_lit ?_
 unfold wpList
 rw[if_pos (by simp[Region.wanted])]
 refine .inl ?_
 unfold Oper.wp
 rw[e1]
 show wpList _ _ _ _ _ _
 unfold wpList
 rw[if_pos (by simp[Region.wanted])]
 refine .inl ?_
 unfold Oper.wp
 rw[e2]
 rw[Oper.upon_defer]
 refine k cvs _ (by rw[<- hds,<- hcvs];simp) (by rw[<- hds];exact hcv) ?_
 refine @Inv.mk _ ⟨[{ target:=.fn (.func fd) cvs.toArray,args := #[] }]⟩ _ _ _ _ _ ?_ ?_ hi1.mem (fun t'=>?_) hi1.evo hi1.bd
 ·have:=hi1.size;simpa[Act.put]using this
 ·have:=hi1.defers
  simp only[Act.put]at this ⊢
  rw[this];rfl
 ·have:=hi1.tm t';simpa[Act.put]using this
theorem Inv.parts [Known][Dfr]{b:Bs}{S:St}{g:G}{a:Act}{w:World}(h:Inv b S g a w):a.tmps.size=S.n/\Mem g S.bx S.fr w/\(∀ t,V w g S.fr (look S.tm t) (a.tmps.getD t undef))/\Evo b ⟨g,S.fr,w⟩:=⟨h.size,h.mem,h.tm,h.evo⟩
theorem Zgq [Known]{P:Program}{fn:Func}{rs:List ResultVar}(hr:fn.results=rs.toArray){b:Bs}(hbρ:b.g.ρ=[])(hbf:b.fr=[]){S:St}{g:G}{a:Act}{w:World}{d:Deferred}(hi : @Inv _ ⟨[d]⟩ b S g a w){bs:List Nat}(hbs:Zcc bs S.bx.length)
  {fd:FuncId} {cvs:List Value} (hd:d = { target:=.fn (.func fd) cvs.toArray,args := #[] }) (hfd:ZiX P fd=true) {args:List D} (hlen:cvs.length=args.length) (hV:∀(j:Nat) (d:D) (v:Value),args[j]?=some d->cvs[j]?=some v->V w g S.fr d v)
  {u u':FrameMode} (hu:u ≠ .run) (hset:settle u'=.returning) {bxs bxs':List (List D)} (hsel:Zg5 bs [] S.bx=bxs)
  (hC:∀(g:G) (w:World) (vs:List Value),Mem g bxs [] w->vs.length=(args.map (D.ren (idx bs) (idx []))).length->(∀(j:Nat) (d:D) (v:Value),(args.map (D.ren (idx bs) (idx [])))[j]?=some d->vs[j]?=some v->V w g [] d v) ->
   CallsD P fd vs.toArray u w fun e u2 w'=>(∃ v,e=.returned v)/\u2=u'/\∃ g',Mem g' bxs' [] w'/\Evo ⟨g,[],w⟩ ⟨g',[],w'⟩)
  {tmR:List (Nat × D)} (htm:∀ t,V w (g.sel bs []) [] (look tmR t) (a.tmps.getD t undef)) {ds:List D} (hres:ResL P ⟨S.n,tmR,bxs',[],(0,0)⟩ rs ds) {R:Ending->World->Prop}
  (hR:∀ g' w' v,Evo b ⟨g',[],w'⟩->Mem g' [] [] w'->V w' g' [] ((Zmm ds).ren (idx []) (idx [])) v->R (.returned v) w'):Leaves P fn a.tmps R [d] u w:=by
 subst hd
 obtain⟨isz,hm,itm,iev⟩:=@Inv.parts _ ⟨[{ target:=.fn (.func fd) cvs.toArray,args := #[] }]⟩ b S g a w hi
 refine leaves_cons (f:=fd) (args:=cvs.toArray) hu (by
  have:=Zdd hfd cvs.toArray w
  simpa[invoke]using this) ?_
 have hms:=hm.sel hbs (ZaA _)
 rw[hsel]at hms
 have hsF:Zga [] S.fr=[]:=rfl
 rw[hsF]at hms
 refine(hC (g.sel bs []) w cvs hms (by simpa using hlen) (fun j d v hd hv=>?_)).mono fun e u2 w' ⟨⟨v,he⟩,hu2,g',hm',hev⟩=>?_
 ·rw[List.getElem?_map]at hd
  cases hj:args[j]? with
  | none=>simp[hj]at hd
  | some d0=>
   simp[hj]at hd;subst hd
   have:=(hV j d0 v hj hv).sel hm hbs (ZaA _)
   rw[hsF]at this;exact this
 ·subst he hu2
  show Leaves P fn a.tmps R [] (settle u2) w'
  rw[hset]
  have hevS:Evo b ⟨g.sel bs [],[],w⟩:=by
   have:=iev.sel hm hbs (ZaA _) (fun i hi=>by rw[hbρ]at hi;simp at hi) (fun i hi=>by rw[hbf]at hi;simp at hi)
   rw[hsF]at this;exact this
  have hinv : @Inv _ ⟨a.defers⟩ b ⟨S.n,tmR,bxs',[],(0,0)⟩ g' a w':=@Inv.mk _ ⟨a.defers⟩ _ _ _ _ _ isz rfl hm' (fun t=>(htm t).evo hev) (hevS.trans hev) ⟨by rw[hbρ];simp,by rw[hbf];simp⟩
  obtain⟨v,hrun,hv⟩:=@Zfi _ ⟨a.defers⟩ _ _ _ _ _ _ hinv _ _ hr _ hres
  refine⟨v,hrun,hR (g'.sel [] []) w' v ?_ ?_ ?_⟩
  ·have:=(hevS.trans hev).sel hm' (ZaA bxs'.length) (ZaA _) (fun i hi=>by rw[hbρ]at hi;simp at hi) (fun i hi=>by rw[hbf]at hi;simp at hi)
   exact this
  ·exact hm'.sel (ZaA _) (ZaA _)
  ·exact hv.sel hm' (ZaA _) (ZaA _)
theorem Zls [Known][Dfr]{P:Program}{Q:X->St->Prop}{n:Nat}{ee:Nat × Nat}{tm:List (Nat × D)}{bx:List (List D)}{fr:List Fr}{ops:Array Oper}{rest:List Oper}{ty:Nat}{pos:String}{after:Array Edge}{f:FuncId}{ars:Array Operand}{ats:Array TypeId}{t:Option Nat}{cds:List D}{p p':D}{bxs:List (List D)}(bs:List Nat)(hX:AX P f cds bxs p)(hf:ZiX P f=true)
  (hc:D.wks ((ars.toList.map (ev tm)).map (D.ren (idx bs) (idx [])))=cds) (hb:Zd9 bs bx.length=true) (hbx:Zg5 bs [] bx=bxs) (hle:Nat.ble bs.length bxs.length=true) (htd:(match t with|some t=>Nat.blt t n|none=>true)=true) (hp:nf (p.ren (upN bs bx.length) (upN [] fr.length))=some p')
  (k:∀ bx2 fr2,bxs.length<=bx2.length->Q (.pan p') ⟨n,tm,Zic bs [] bx fr.length bx2,fr2,ee⟩):AL P ops (⟨t,.call { callee:=.value (.func f),args:=ars,argTypes:=ats },ty,pos,after,none⟩::rest) ⟨n,tm,bx,fr,ee⟩ Q:=by
 refine Zfj bs [] hf (AC.unwk (hc ▸ hX)) rfl (ZbM hb) (ZaA _) hbx rfl htd (fun d bx' fr' h=>?_) fun d0 bx' fr' h=>by cases h.1
 obtain⟨h1,h2⟩:=h
 injection h1 with h1
 subst h1
 have hle:=Nat.le_of_ble_eq_true hle
 refine⟨by omega,?_⟩
 have e:=Zcb hp
 subst e
 exact k _ _ h2
theorem Zhx [Known][Dfr]{P:Program}{x y:Code}{S:St}{R:Exit->Act->World->Prop}{b0:Bs}{g:G}{a:Act}{w:World}(n:Nat)(tm:List (Nat × D))(bx:List (List D))(fr:List Fr)(ee:Nat × Nat)(hi:Inv b0 S g a w)
  (h:AW P x S (fun X S'=>X=.norm/\S'.n=n/\S'.bx=bx/\S'.fr=fr/\S'.e=ee/\Sub S'.tm tm)) (k:∀ g a w,Inv b0 ⟨n,tm,bx,fr,ee⟩ g a w->y.wp P R a w):(x.seq y).wp P R a w:=by
 refine wp_seq (wp_mono (h.run _ _ _ _ hi) fun e a' w' hc=>?_)
 cases e with
 | normal=>
  obtain⟨⟨n',tm',bx',fr',ee'⟩,g',hi',_,h1,h2,h3,h4,h5⟩:=hc
  dsimp only at h1 h2 h3 h4 h5
  subst h1 h2 h3 h4
  exact k _ _ _ (hi'.sub h5)
 | panic c=>obtain⟨_,_,_,_,_,_,_,h,_⟩:=hc;cases h
 | ret=>obtain⟨_,_,_,h,_⟩:=hc;cases h
 | exit i=>obtain⟨_,_,_,h,_⟩:=hc;cases h
 | goto i=>obtain⟨_,_,_,h,_⟩:=hc;cases h
 | outgrown=>exact hc.elim
theorem Inv.dl [Known][Dfr]{b:Bs}{S:St}{g:G}{a:Act}{w:World}(h:Inv b S g a w):a.defers=Dfr.l:=h.defers
theorem Inv.rebase [Known][Dfr]{b:Bs}{n:Nat}{tm:List (Nat × D)}{bx:List (List D)}{fr:List Fr}{ee:Nat × Nat}{g:G}{a:Act}{w:World}(h:Inv b ⟨n,tm,bx,fr,ee⟩ g a w)(p q:Nat)(hp:bx.length=p)(hq:fr.length=q):Inv ⟨g,fr,w⟩ ⟨n,tm,bx,fr,(p,q)⟩ g a w:=
 ⟨h.size,h.defers,h.mem,h.tm,Evo.refl _,by show g.ρ.length<=p;rw[h.mem.bl];exact Nat.le_of_eq hp,Nat.le_of_eq hq⟩
theorem Inv.base [Known][Dfr]{b b1:Bs}{S:St}{g:G}{a:Act}{w:World}(h:Inv b1 S g a w)(he:Evo b b1)(hρ:b.g.ρ=[])(hf:b.fr=[]):Inv b S g a w:=
 ⟨h.size,h.defers,h.mem,h.tm,he.trans h.evo,by rw[hρ];simp,by rw[hf];simp⟩
theorem Zlt [Known]{P:Program}{c:Code}{S:St}{Q:X->St->Prop}{b:Bs}{g:G}{a:Act}{w:World}{R:Exit->Act->World->Prop}(df:List Deferred)(h : @AW _ ⟨df⟩ P c S Q)(hi : @Inv _ ⟨df⟩ b S g a w)
  (k1:∀ S g a w,@Inv _ ⟨df⟩ b S g a w->a.defers=df->Q .ret S->R .ret a w) (k2:∀ S g a w v d,@Inv _ ⟨df⟩ b S g a w->a.defers=df->V w g S.fr d v->Q (.pan d) S->R (.panic [{ v,recovered:=false }]) a w)
  (k3:∀ S,Q .norm S->False) (k4:∀ S i,Q (.exit i) S->False) (k5:∀ S i,Q (.goto i) S->False):c.wp P R a w:=by
 refine wp_mono (@AW.run _ ⟨df⟩ P c S Q h b g a w hi) fun e a' w' hc=>?_
 cases e with
 | normal=>obtain⟨S',g',hi',h⟩:=hc;exact(k3 _ h).elim
 | ret=>obtain⟨S',g',hi',h⟩:=hc;exact k1 _ _ _ _ hi' (@Inv.dl _ ⟨df⟩ _ _ _ _ _ hi') h
 | exit i=>obtain⟨S',g',hi',h⟩:=hc;exact(k4 _ _ h).elim
 | goto i=>obtain⟨S',g',hi',h⟩:=hc;exact(k5 _ _ h).elim
 | panic c=>obtain⟨S',g',v,d,hi',rfl,hv,h⟩:=hc;exact k2 _ _ _ _ v d hi' (@Inv.dl _ ⟨df⟩ _ _ _ _ _ hi') hv h
 | outgrown=>exact hc.elim
end Go.Av
end
section
open Go.RowKit Go.Pl Go.Av
namespace Go.Proofs.YtakblclkflnnpaaGreatDoor
set_option maxHeartbeats 4000000
theorem Zjw:∀ {l l':List It},l.length ≠ l'.length->It.beqs l l'=false
 | [],[],h=>by simp at h
 | [],_::_,_=>rfl
 | _::_,[],_=>rfl
 | x::l,y::l',h=>by
  rw[It.beqs]
  cases It.beq x y
  ·rfl
  ·exact Zjw (by simpa using h)
theorem Zlu [Known](l l':List It)(hl:l.length<=2199023255488)(hl':l'.length<=2199023255488)(ih:∀ y ∈ l,∀ y' ∈ l',AP Tryz.prog 88 [itD y,itD y'] (.bool (It.beq y y')) []):AP Tryz.prog 146 [.sl .ext (Zax l),.sl .ext (Zax l'),.fn 88 []] (.bool (It.beqs l l')) []:=by
 have e1:=Zar l
 have e2:=Zar l'
 by_cases hne:l.length=l'.length
 ·have t1:(((Zax l).length:Int) != ((Zax l').length:Int))=false:=by rw[e1,e2,hne];simp
  generalize hfin:It.beqs l l'=fin
  refine AP.ofA ?_
  refine Zan Tryz.func146 rfl Tryz.ntmps146 rfl rfl ?_
  repeat'(first|(apply Zaj Zab;exact Z)|(apply Zah Zab;exact Z)|(apply Zav Zab;exact Z)|(apply Zaf;exact Z;exact Go.ZrJ)|(apply Zam Zab;(iterate 4 exact Z)))
  refine ZaE (fun f tm bx fr=>∃ i:Nat,f+i=l.length/\It.beqs (l.drop i) (l'.drop i)=fin/\tm=[(0,.sl .ext (Zax l)),(1,.sl .ext (Zax l')),(2,.fn 88 []),(6,.bool false),(15,.sl .ext (Zax l)),(16,.int .i64 ((Zax l).length:Int)),(17,.int .i64 (i:Int))]/\bx=[]/\fr=[]) (l.length+1) (Lands.mk' (m:=l.length) (Nat.lt_succ_self _) ⟨0,rfl,hfin,rfl,rfl,rfl⟩ ?_ rfl rfl rfl rfl rfl rfl) ?_
  ·exact .cons rfl (.cons rfl (.cons rfl (.cons rfl (.cons rfl (.cons rfl (.cons rfl .nil))))))
  rintro f tm bx fr ⟨i,hf,hfin,rfl,rfl,rfl⟩
  have hU:=Zb8 l
  have hU':=Zb8 l'
  rcases Nat.lt_or_ge i l.length with hlt|hge
  ·have hdl:decide ((i:Int)<((Zax l).length:Int))=true:=decide_eq_true (by omega)
   obtain⟨⟨k1,n1,b1,l1⟩,hy⟩:∃ y,l[i]?=some y:=⟨_,List.getElem?_eq_getElem hlt⟩
   obtain⟨⟨k2,n2,b2,l2⟩,hy'⟩:∃ y,l'[i]?=some y:=⟨_,List.getElem?_eq_getElem (by omega)⟩
   have hv:(Zax l)[((i:Nat):Int).toNat]?=some (.agg [.int .i64 k1,.int .u64 (n1:Int),.sl (b1.map E.byte),.sl (Zax l1)]):=by
    rw[Int.toNat_natCast,ZaI,List.getElem?_map,hy];rfl
   have hv':(Zax l')[((i:Nat):Int).toNat]?=some (.agg [.int .i64 k2,.int .u64 (n2:Int),.sl (b2.map E.byte),.sl (Zax l2)]):=by
    rw[Int.toNat_natCast,ZaI,List.getElem?_map,hy'];rfl
   have hc:=ih _ (List.mem_of_getElem? hy) _ (List.mem_of_getElem? hy')
   have hdr:l.drop i=It.mk k1 n1 b1 l1::l.drop (i+1):=by
    rw[List.drop_eq_getElem_cons hlt];congr 1
    exact(List.getElem?_eq_some_iff.1 hy).2
   have hdr':l'.drop i=It.mk k2 n2 b2 l2::l'.drop (i+1):=by
    rw[List.drop_eq_getElem_cons (by omega)];congr 1
    exact(List.getElem?_eq_some_iff.1 hy').2
   rw[hdr,hdr',It.beqs]at hfin
   have ei:IntKind.i64.wrap ((i:Int)+1)=((i+1:Nat):Int):=by rw[IntWalk.i64_in _ (by omega)];omega
   cases hb:It.beq (.mk k1 n1 b1 l1) (.mk k2 n2 b2 l2) with
   | false=>
    rw[hb]at hfin hc
    subst hfin
    repeat'(first|(apply Zc1 (hc);exact Z;kernel_rfl;(iterate 3 exact Z))|(apply Zaj Zab;exact Z)|(apply Zah Zab;exact Z)|(apply Zav Zab;exact Z)|(apply Zac;exact Z;exact Go.ZrJ)|(apply Zau Zab;(iterate 6 exact Z);(first|exact Go.ZrJ|rotate_left);(first|with_reducible assumption|decide +kernel|exact Z);(first|exact Zai rfl|with_reducible assumption|decide +kernel|rotate_left)))
    all_goals(apply Zaw [];(apply Zad Zab;exact Z);(iterate 4 exact Z))
    all_goals rfl
   | true=>
    rw[hb]at hfin hc
    repeat'(first|rw[ei]|(apply Zc1 (hc);exact Z;kernel_rfl;(iterate 3 exact Z))|(apply Zaj Zab;exact Z)|(apply Zah Zab;exact Z)|(apply Zav Zab;exact Z)|(apply Zac;exact Z;exact Go.ZrJ)|(apply Zaf;exact Z;exact Go.ZrJ)|(apply Zau Zab;(iterate 6 exact Z);(first|exact Go.ZrJ|rotate_left);(first|with_reducible assumption|decide +kernel|exact Z);(first|exact Zai rfl|with_reducible assumption|decide +kernel|rotate_left)))
    refine Lands.mk' (m:=f-1) (by omega) ⟨i+1,by omega,hfin,rfl,rfl,rfl⟩ ?_ rfl rfl rfl rfl rfl rfl
    exact .cons rfl (.cons rfl (.cons rfl (.cons rfl (.cons rfl (.cons rfl (.cons rfl .nil))))))
  ·have hdl:decide ((i:Int)<((Zax l).length:Int))=false:=decide_eq_false (by omega)
   rw[List.drop_eq_nil_of_le hge,List.drop_eq_nil_of_le (by omega)]at hfin
   have hfin:true=fin:=hfin
   subst hfin
   repeat'(first|(apply Zah Zab;exact Z)|(apply Zaf;exact Z;exact Go.ZrJ))
   all_goals(apply Zaw [];(apply Zad Zab;exact Z);(iterate 4 exact Z))
   all_goals rfl
 ·have t1:(((Zax l).length:Int) != ((Zax l').length:Int))=true:=by rw[e1,e2];simp;omega
  rw[Zjw hne]
  refine AP.ofA ?_
  refine Zan Tryz.func146 rfl Tryz.ntmps146 rfl rfl ?_
  repeat'(first|(apply Zaj Zab;exact Z)|(apply Zah Zab;exact Z)|(apply Zav Zab;exact Z)|(apply Zac;exact Z;exact Go.ZrJ)|(apply Zam Zab;(iterate 4 exact Z)))
  all_goals(apply Zaw [];(apply Zad Zab;exact Z);(iterate 4 exact Z))
  all_goals rfl
theorem Zqi (n m:Nat):((n:Int)==(m:Int))=(n==m):=by
 rw[Bool.eq_iff_iff,beq_iff_eq,beq_iff_eq];omega
theorem ZeE [Known]:∀(x:It),wfI x->∀ y:It,wfI y->AP Tryz.prog 88 [itD x,itD y] (.bool (It.beq x y)) []:=by
 refine It.ind fun k n b l ih hw y hw'=>?_
 obtain⟨k',n',b',l'⟩:=y
 obtain⟨_,_,hl,hws⟩:=hw
 obtain⟨_,_,hl',hws'⟩:=hw'
 have hE:=Zlu l l' hl hl' fun y hy y' hy'=>ih y hy (ZaY hws y hy) y' (ZaY hws' y' hy')
 have hB:=Zjo b b'
 have en:=Zqi n n'
 rw[It.beq]
 cases h1:k==k'<;>cases h2:n==n'<;>cases h3:b==b'
 all_goals
  rw[h2]at en
  rw[h3]at hB
  refine AP.ofA ?_
  refine Zan Tryz.func88 rfl Tryz.ntmps88 rfl rfl ?_
  repeat'(first|rw[en]|(apply Zaa (hB);kernel_rfl;(iterate 4 exact Z))|(apply Zaa (hE);kernel_rfl;(iterate 4 exact Z))|(apply Zaj Zab;exact Z)|(apply Zah Zab;exact Z)|(apply Zae;(iterate 3 exact Z);exact Go.ZrJ)|(apply Zas;(iterate 3 exact Z);exact Go.ZrJ)|(apply Zak;exact Z;exact Go.ZrJ;exact Z;exact Z)|(apply Zag;exact Z;exact Go.ZrJ;exact Z;exact Z))
  all_goals(apply Zaw [];(apply Zad Zab;exact Z);(iterate 4 exact Z))
  all_goals rfl
abbrev zIt:List D:=[.int .i64 0,.int .u64 0,.sl .nil [],.sl .nil []]
def Zlv:Code->Code
 | .seq _ (.seq _ (.seq _ r))=>r
 | c=>c
abbrev ZqO (b:List UInt8)(p:Nat):List (Nat × D):=[(17,.fn 160 [.ptr 0 0,.ptr 1 0,.ptr 2 0]),(0,byE b),(1,.int .i64 (p:Int)),(4,.ptr 0 0),(5,.ptr 1 0),(6,.ptr 2 0)]
theorem Zqj [Known][KnownU8][Dfr](b:List UInt8)(p p2 m1:Nat)(k:Int)(n:Nat)(bb:List UInt8)(l:List It)(hit:AR Tryz.prog 161 [.ptr 0 0,.int .i64 ((1:Nat):Int)] [rdC b p 256] (.ok (itD (.mk k n bb l),[rdC b p2 m1]))) :
  AW Tryz.prog (Zlv (Tryz.f114.body.getD .skip)) ⟨29,ZqO b p,[zIt,[.int .i64 0],[.int .i64 0]],[],(3,0)⟩
   (fun X S=>X=.ret/\S.n=29/\S.bx=[itC k n bb l,[.int .i64 (p2:Int)],[.int .i64 0],rdC b p2 m1]/\S.fr=[]/\Av.look S.tm 4=.ptr 0 0/\Av.look S.tm 5=.ptr 1 0/\Av.look S.tm 6=.ptr 2 0):=by
 conv=>enter [4];whnf
 repeat'(first|(apply ZaB [3] (hit.q rfl);kernel_rfl;(iterate 7 exact Z))|(apply Zaj Zab;exact Z)|(apply Zah Zab;exact Z)|(apply Zao 6 ZaL;decide +kernel;kernel_rfl;kernel_rfl;kernel_rfl;exact Z;exact Z)|(apply Zaq;(iterate 4 exact Z))|exact AE.nil _ _ _ _|(apply Zat;exact Z)|(apply Zi9;exact Z)|(apply Zay;exact Z;exact Z;decide +kernel;exact Z)|(apply Zaz;exact Z)|(apply ZmH;exact Z)|exact AO.nil _ _ _|(apply Zap;(decide +kernel))|exact AOs.nil|exact ZaH rfl rfl|exact Zip rfl)
 all_goals exact⟨rfl,rfl,rfl,rfl,rfl,rfl,rfl⟩
theorem Zpu [Known][KnownU8][Dfr](b:List UInt8)(p e:Nat)(hit:AR Tryz.prog 161 [.ptr 0 0,.int .i64 ((1:Nat):Int)] [rdC b p 256] (.error (Zdz e))) :
  AW Tryz.prog (Zlv (Tryz.f114.body.getD .skip)) ⟨29,ZqO b p,[zIt,[.int .i64 0],[.int .i64 0]],[],(3,0)⟩
   (fun X S=>X=.pan (Zdz e)/\S.n=29/\S.bx.take 3=[zIt,[.int .i64 0],[.int .i64 0]]/\Av.look S.tm 4=.ptr 0 0/\Av.look S.tm 5=.ptr 1 0/\Av.look S.tm 6=.ptr 2 0):=by
 conv=>enter [4];whnf
 repeat'(first|(apply Zls [3] (hit.x rfl);kernel_rfl;(iterate 6 exact Z);intro bx2 fr2 hle2)|(apply Zah Zab;exact Z)|(apply Zav Zab;exact Z))
 all_goals
  obtain⟨c,t,rfl⟩:∃ c t,bx2=c::t:=by
   cases bx2 with
   | nil=>simp at hle2
   | cons c t=>exact⟨c,t,rfl⟩
  exact⟨rfl,rfl,rfl,rfl,rfl,rfl⟩
theorem Zpv [Known](k:Int)(n:Nat)(bb:List UInt8)(l:List It)(p2:Nat):∀(g:G) (w:World) (vs:List Value),Mem g [itC k n bb l,[.int .i64 (p2:Int)],[.int .i64 0]] [] w->vs.length=([.ptr 0 0,.ptr 1 0,.ptr 2 0]:List D).length->(∀(j:Nat) (d:D) (v:Value),([.ptr 0 0,.ptr 1 0,.ptr 2 0]:List D)[j]?=some d->vs[j]?=some v->V w g [] d v) ->
  CallsD Tryz.prog 160 vs.toArray .returning w fun e u2 w'=>(∃ v,e=.returned v)/\u2=.returning/\∃ g',Mem g' [itC k n bb l,[.int .i64 (p2:Int)],[.int .i64 0]] [] w'/\Evo ⟨g,[],w⟩ ⟨g',[],w'⟩:=fun g w vs hm hl hv=>by
 refine(Zpt (dv:=.nili) (u':=.returning) (post:=fun S=>S.bx=[itC k n bb l,[.int .i64 (p2:Int)],[.int .i64 0],[.int .i64 0]]/\S.fr=[]) Tryz.func160 rfl Tryz.ntmps160 rfl rfl rfl rfl rfl (fun ρ=>by simp[execOp,resolve,invoke,Sem.run_bind];rfl) hm hl hv (fun c₀ cs hc=>by simp[recoverD,hc]) ?_).mono ?_
 ·repeat'(first|(apply Zpr Zab (cs:=[.int .i64 0]);(iterate 3 exact Z);kernel_rfl;exact Z)|refine⟨rfl,?_⟩ | (apply Zaj Zab;exact Z)|(apply Zah Zab;exact Z)|(apply Zaf;exact Z;exact Go.ZrJ))
  all_goals rfl
 ·rintro e u2 w' ⟨he,hu,S,g',hm',hev,hbx,hfr⟩
  have hok:Zcc [0,1,2] S.bx.length:=ZbM (by rw[hbx];rfl)
  refine⟨he,hu,g'.sel [0,1,2] [],?_,?_⟩
  ·have:=hm'.sel (bs:=[0,1,2]) (ts:=[]) hok (ZaA _)
   rw[hbx]at this;exact this
  ·exact hev.sel hm' (bs:=[0,1,2]) (ts:=[]) hok (ZaA _) (fun i hi=>by
    have hi:i<g.ρ.length:=hi
    have h3:g.ρ.length=3:=hm.bl
    obtain rfl|rfl|rfl:i=0\/i=1\/i=2:=by omega
    all_goals rfl) (fun i hi=>by simp at hi)
abbrev Zhy (e:Nat):Value:=.iface 235 (.agg #[.int .i64 (e:Int)])
theorem Zlw {w:World}{g:G}{fr:List Fr}{e:Nat}{v:Value}(h:V w g fr (Zdz e) v):v=Zhy e:=by
 cases h with
 | iface _ _ u hu=>
  obtain⟨vs,rfl,hl,hvs⟩:=Zew hu
  match vs,hl with
  | [x],_=>have:=(hvs 0 _ x rfl rfl).int_inv;subst this;rfl
theorem Zov (w:World)(g:G)(fr:List Fr)(e:Nat):V w g fr (Zdz e) (Zhy e):=
 .iface _ _ _ (.agg _ [.int .i64 (e:Int)] rfl fun j d v hd hv=>by
  match j with
  | 0=>simp at hd hv;subst hd hv;exact .int _ _
  | j+1=>simp at hd)
theorem Zpw [Known](e0:Nat):∀(g:G) (w:World) (vs:List Value),Mem g [zIt,[.int .i64 0],[.int .i64 0]] [] w->vs.length=([.ptr 0 0,.ptr 1 0,.ptr 2 0]:List D).length->(∀(j:Nat) (d:D) (v:Value),([.ptr 0 0,.ptr 1 0,.ptr 2 0]:List D)[j]?=some d->vs[j]?=some v->V w g [] d v) ->
  CallsD Tryz.prog 160 vs.toArray (.panicking [{ v:=Zhy e0,recovered:=false }]) w fun e u2 w'=>(∃ v,e=.returned v)/\u2=.panicking [{ v:=Zhy e0,recovered:=true }]/\∃ g',Mem g' [zIt,[.int .i64 0],[.int .i64 (e0:Int)]] [] w'/\Evo ⟨g,[],w⟩ ⟨g',[],w'⟩:=fun g w vs hm hl hv=>by
 refine(Zpt (dv:=Zdz e0) (u':=.panicking [{ v:=Zhy e0,recovered:=true }]) (post:=fun S=>S.bx=[zIt,[.int .i64 0],[.int .i64 (e0:Int)],[.int .i64 (e0:Int)]]/\S.fr=[]) Tryz.func160 rfl Tryz.ntmps160 rfl rfl rfl rfl rfl (fun ρ=>by simp[execOp,resolve,invoke,Sem.run_bind];rfl) hm hl hv (fun c₀ cs hc=>by simp only[recoverD,hc];exact⟨Zov _ _ _ _,trivial⟩) ?_).mono ?_
 ·repeat'(first|(apply Zpq Zab;(iterate 4 exact Z))|refine⟨rfl,?_⟩ | (apply Zaj Zab;exact Z)|(apply Zah Zab;exact Z)|(apply Zac;exact Z;exact Go.ZrJ)|(apply Zao 5 ZaL;decide +kernel;kernel_rfl;kernel_rfl;kernel_rfl;exact Z;exact Z)|(apply Zaq;(iterate 4 exact Z))|exact AE.nil _ _ _ _|(apply Zat;exact Z)|(apply Zi9;exact Z)|(apply Zay;exact Z;exact Z;decide +kernel;exact Z)|(apply Zaz;exact Z)|(apply ZmH;exact Z)|exact AO.nil _ _ _|(apply Zap;(decide +kernel))|exact AOs.nil|exact ZaH rfl rfl|exact Zip rfl)
  all_goals rfl
 ·rintro e u2 w' ⟨he,hu,S,g',hm',hev,hbx,hfr⟩
  have hok:Zcc [0,1,2] S.bx.length:=ZbM (by rw[hbx];rfl)
  refine⟨he,hu,g'.sel [0,1,2] [],?_,?_⟩
  ·have:=hm'.sel (bs:=[0,1,2]) (ts:=[]) hok (ZaA _)
   rw[hbx]at this;exact this
  ·exact hev.sel hm' (bs:=[0,1,2]) (ts:=[]) hok (ZaA _) (fun i hi=>by
    have hi:i<g.ρ.length:=hi
    have h3:g.ρ.length=3:=hm.bl
    obtain rfl|rfl|rfl:i=0\/i=1\/i=2:=by omega
    all_goals rfl) (fun i hi=>by simp at hi)
theorem tm3 {w:World}{g:G}{bx:List (List D)}{fr:List Fr}{tm:List (Nat × D)}{T:Nat->Value}[Known](hm:Mem g bx fr w)(hok:Zcc [0,1,2] bx.length)(h:∀ t,V w g fr (Av.look tm t) (T t))(h4:Av.look tm 4=.ptr 0 0)(h5:Av.look tm 5=.ptr 1 0)(h6:Av.look tm 6=.ptr 2 0) :
  ∀ t,V w (g.sel [0,1,2] []) [] (Av.look [(4,.ptr 0 0),(5,.ptr 1 0),(6,.ptr 2 0)] t) (T t):=fun t=>by
 have k:=fun(i:Nat) (d:D) (hd:Av.look tm i=d)=>(hd ▸ h i:V w g fr d (T i)).sel hm hok (ZaA _)
 by_cases e4:t=4
 ·subst e4;exact k 4 _ h4
 by_cases e5:t=5
 ·subst e5;exact k 5 _ h5
 by_cases e6:t=6
 ·subst e6;exact k 6 _ h6
 ·have:Av.look [(4,D.ptr 0 0),(5,.ptr 1 0),(6,.ptr 2 0)] t=.junk:=by
   have b:∀ x:Nat,t ≠ x->Nat.beq x t=false:=fun x hx=>by
    cases hb:Nat.beq x t with
    | false=>rfl
    | true=>exact(hx (Nat.eq_of_beq_eq_true hb).symm).elim
   simp only[Av.look,b 4 e4,b 5 e5,b 6 e6]
  rw[this]
  exact .junk _
abbrev rdI (r:It × Nat × Nat):D:=.tup [itD r.1,.int .i64 (r.2.1:Int),.int .i64 (r.2.2:Int)]
theorem Zjx [Known][KnownU8](b:List UInt8)(p:Int)(hb:b.length<=1099511627776):AP Tryz.prog 114 [byE b,.int .i64 p] (rdI (Zbu b p)) []:=by
 by_cases hout:p<0\/(b.length:Int)<p
 ·have e:Zbu b p=(.mk 0 0 [] [],0,1):=by rw[Zbu,if_pos hout]
  rw[e]
  rcases Int.lt_or_le p 0 with hp|hp
  ·have d0:decide (p<0)=true:=decide_eq_true hp
   refine AP.ofA ?_
   refine Zan Tryz.func114 rfl Tryz.ntmps114 rfl rfl ?_
   repeat'(first|(apply Zaj Zab;exact Z)|(apply Zah Zab;exact Z)|(apply Zav Zab;exact Z)|(apply Zal;(iterate 3 exact Z);exact Go.ZrJ)|(apply Zak;exact Z;exact Go.ZrJ;exact Z;exact Z)|(apply Zac;exact Z;exact Go.ZrJ))
   all_goals(apply Zaw [];(apply Zad Zab;exact Z);(iterate 4 exact Z))
   all_goals rfl
  ·have d0:decide (p<0)=false:=decide_eq_false (by omega)
   have d1:decide (p>((b.map E.byte).length:Int))=true:=decide_eq_true (by rw[List.length_map];omega)
   refine AP.ofA ?_
   refine Zan Tryz.func114 rfl Tryz.ntmps114 rfl rfl ?_
   repeat'(first|(apply Zaj Zab;exact Z)|(apply Zah Zab;exact Z)|(apply Zav Zab;exact Z)|(apply Zae;(iterate 3 exact Z);exact Go.ZrJ)|(apply Zag;exact Z;exact Go.ZrJ;exact Z;exact Z)|(apply Zac;exact Z;exact Go.ZrJ)|(apply Zam Zab;(iterate 4 exact Z)))
   all_goals(apply Zaw [];(apply Zad Zab;exact Z);(iterate 4 exact Z))
   all_goals rfl
 ·obtain⟨q,rfl⟩:∃ q:Nat,p=(q:Int):=⟨p.toNat,by omega⟩
  have hq:q<=b.length:=by omega
  have d0:decide ((q:Int)<0)=false:=decide_eq_false (by omega)
  have d1:decide ((q:Int)>((b.map E.byte).length:Int))=false:=decide_eq_false (by rw[List.length_map];omega)
  have hit:=Zjv b hb 6 1 rfl q 256 hq (Nat.le_refl _)
  have e:Zbu b (q:Int)=match ZaT 6 256 (b.drop q) with
   | .error e=>(.mk 0 0 [] [],0,e)
   | .ok (x,r,_)=>(x,b.length-r.length,0):=by rw[Zbu,if_neg hout,Int.toNat_natCast];rfl
  rw[e]
  unfold itR at hit
  refine⟨fun g w vs hm hlen hv=>?_⟩
  have hρ:g.ρ=[]:=List.length_eq_zero_iff.1 hm.bl
  refine calls_of_wp_defers Tryz.func114 rfl ?_
  have hi:=Zhw (n:=29) (Nat.le_of_ble_eq_true rfl) hm hlen hv
  refine Zhx 29 [(0,byE b),(1,.int .i64 (q:Int)),(4,.ptr 0 0),(5,.ptr 1 0),(6,.ptr 2 0)] [zIt,[.int .i64 0],[.int .i64 0]] [] (0,0) hi ?_ fun g1 a1 w1 hi1=>?_
  ·repeat'(first|(apply Zah Zab;exact Z))
   all_goals exact⟨rfl,rfl,rfl,rfl,rfl,.cons rfl (.cons rfl (.cons rfl (.cons rfl (.cons rfl .nil))))⟩
  refine Zhx 29 [(0,byE b),(1,.int .i64 (q:Int)),(4,.ptr 0 0),(5,.ptr 1 0),(6,.ptr 2 0)] [zIt,[.int .i64 0],[.int .i64 0]] [] (0,0) hi1 ?_ fun g2 a2 w2 hi2=>?_
  ·repeat'(first|(apply Zaj Zab;exact Z)|(apply Zah Zab;exact Z)|(apply Zav Zab;exact Z)|(apply Zae;(iterate 3 exact Z);exact Go.ZrJ)|(apply Zag;exact Z;exact Go.ZrJ;exact Z;exact Z)|(apply Zaf;exact Z;exact Go.ZrJ)|(apply Zam Zab;(iterate 4 exact Z)))
   all_goals exact⟨rfl,rfl,rfl,rfl,rfl,.cons rfl (.cons rfl (.cons rfl (.cons rfl (.cons rfl .nil))))⟩
  refine Zlr hi2 rfl rfl fun cvs a3 hcl hcv hi3=>?_
  have ev2:Evo ⟨g,[],w⟩ ⟨g2,[],w2⟩:=hi2.evo
  have hi4:=@Inv.rebase _ ⟨[{ target:=.fn (.func 160) cvs.toArray,args := #[] }]⟩ _ _ _ _ _ _ _ _ _ hi3 3 0 rfl rfl
  have hfd:ZiX Tryz.prog 160=true:=by kernel_rfl
  cases hx:ZaT 6 256 (b.drop q) with
  | error e0=>
   rw[hx]at hit
   dsimp only at hit ⊢
   refine Zlt [{ target:=.fn (.func 160) cvs.toArray,args := #[] }] (@Zpu _ _ ⟨[{ target:=.fn (.func 160) cvs.toArray,args := #[] }]⟩ b q e0 hit) hi4 (fun S g a w _ _ h=>by cases h.1) (fun S g4 a4 w4 v d hi5 hdl hv h=>?_) (fun S h=>by cases h.1) (fun S i h=>by cases h.1) (fun S i h=>by cases h.1)
   obtain⟨hp,hn,hbx,h4,h5,h6⟩:=h
   injection hp with hp
   subst hp
   obtain rfl:=Zlw hv
   obtain⟨_,hm5,htm5,hev5⟩:=@Inv.parts _ ⟨[{ target:=.fn (.func 160) cvs.toArray,args := #[] }]⟩ _ _ _ _ _ hi5
   obtain⟨x0,x1,x2,xs,hS⟩:∃ x0 x1 x2 xs,S.bx=x0::x1::x2::xs:=by
    match hS:S.bx,hbx with
    | x0::x1::x2::xs,_=>exact⟨x0,x1,x2,xs,rfl⟩
    | [],h=>simp at h
    | [_],h=>simp at h
    | [_,_],h=>simp at h
   rw[hS]at hbx
   simp only[List.take_succ_cons,List.take_zero,List.cons.injEq,and_true]at hbx
   obtain⟨rfl,rfl,rfl⟩:=hbx
   have hok:Zcc [0,1,2] S.bx.length:=ZbM (by rw[hS];rfl)
   show Leaves Tryz.prog _ a4.tmps _ a4.defers _ w4
   rw[hdl]
   refine Zgq (rs:=[.cell 4 32,.cell 5 3,.cell 6 42]) rfl (b:=⟨g,[],w⟩) hρ rfl (@Inv.base _ ⟨[{ target:=.fn (.func 160) cvs.toArray,args := #[] }]⟩ _ _ _ _ _ _ hi5 ev2 hρ rfl) hok rfl hfd hcl (fun j d v hd hv=>(hcv j d v hd hv).evo hev5) (by simp) rfl (by rw[hS];rfl) (Zpw e0) (tm3 hm5 hok htm5 h4 h5 h6) (ds:=[.agg zIt,.int .i64 0,.int .i64 (e0:Int)]) ?_ (fun g' w' v hev hm' hv'=>?_)
   ·(apply Zad Zab;exact Z)
   ·exact⟨g',[],[],.ret (D.wk _),hev,hm',⟨v,rfl,hv'.wk⟩,rfl,rfl,rfl⟩
  | ok y=>
   obtain⟨⟨k1,n1,b1,l1⟩,r,m1⟩:=y
   rw[hx]at hit
   dsimp only at hit ⊢
   refine Zlt [{ target:=.fn (.func 160) cvs.toArray,args := #[] }] (@Zqj _ _ ⟨[{ target:=.fn (.func 160) cvs.toArray,args := #[] }]⟩ b q (b.length-r.length) m1 k1 n1 b1 l1 hit) hi4 (fun S g4 a4 w4 hi5 hdl h=>?_) (fun S g a w v d _ _ _ h=>by cases h.1) (fun S h=>by cases h.1) (fun S i h=>by cases h.1) (fun S i h=>by cases h.1)
   obtain⟨_,hn,hbx,hfr,h4,h5,h6⟩:=h
   obtain⟨_,hm5,htm5,hev5⟩:=@Inv.parts _ ⟨[{ target:=.fn (.func 160) cvs.toArray,args := #[] }]⟩ _ _ _ _ _ hi5
   have hok:Zcc [0,1,2] S.bx.length:=ZbM (by rw[hbx];rfl)
   show Leaves Tryz.prog _ a4.tmps _ a4.defers _ w4
   rw[hdl]
   refine Zgq (rs:=[.cell 4 32,.cell 5 3,.cell 6 42]) rfl (b:=⟨g,[],w⟩) hρ rfl (@Inv.base _ ⟨[{ target:=.fn (.func 160) cvs.toArray,args := #[] }]⟩ _ _ _ _ _ _ hi5 ev2 hρ rfl) hok rfl hfd hcl (fun j d v hd hv=>(hcv j d v hd hv).evo hev5) (by simp) rfl (by rw[hbx];rfl) (Zpv k1 n1 b1 l1 (b.length-r.length)) (tm3 hm5 hok htm5 h4 h5 h6) (ds:=[.agg (itC k1 n1 b1 l1),.int .i64 ((b.length-r.length:Nat):Int),.int .i64 0]) ?_ (fun g' w' v hev hm' hv'=>?_)
   ·(apply Zad Zab;exact Z)
   ·exact⟨g',[],[],.ret (D.wk _),hev,hm',⟨v,rfl,hv'.wk⟩,rfl,rfl,rfl⟩
end Go.Proofs.YtakblclkflnnpaaGreatDoor
end
