/- A function that defers a call which recovers. -/
import Derived.Test.YtkdpfkjlheajhaaGreatDoorE09
import Derived.Recover
import Derived.Test.YtkdpfkjlheajhaaGreatDoorE11
import Derived.Test.YtkdpfkjlheajhaaGreatDoorE01
import Derived.Test.YtkdpfkjlheajhaaGreatDoorE07
set_option linter.unusedSimpArgs false
set_option linter.unusedVariables false
section
open Go.RowKit Go.Pl
namespace Go.Av
section
variable {P:Program} {Q:X->St->Prop} {n:Nat} {ee:Nat × Nat} {tm tm':List (Nat × D)} {bx bx':List (List D)} {fr fr':List Fr} {b0:Bs} {g:G} {w:World} {a:Act} {T:Tab}
variable {ops:Array Oper} {rest:List Oper} {t ty:Nat} {pos:String} {after:Array Edge}
def SZ (P:Program)(t:TypeId):Option (List Value):=match P.info? t with
 | some i=>match i.zero with
  | some (.agg cs)=>some cs.toList
  | _=>none
 | none=>none
theorem Sg [Known][Dfr](hT:chk P T=true){x:Operand}{xt at_:TypeId}{d:D}{ti:Ti}{fs:List Fd}(hx:ev tm x=.iface at_ d)(ht:tl T at_=some ti)(hk:ti.kd=.struct fs)(htd:Nat.blt t n=true)
  (k:AL P ops rest ⟨n,(t,.tup [d,.bool true])::tm,bx,fr,ee⟩ Q):AL P ops (⟨some t,.typeAssert x xt at_ true,ty,pos,after,none⟩::rest) ⟨n,tm,bx,fr,ee⟩ Q:=
 Z5 _ htd (fun g a w hi=>by
  have h1:V w g fr (ev tm x) (a.eval x):=hi.ev x
  rw[hx]at h1
  obtain⟨fields,hu,_⟩:=(Z6 hT ht).struct hk
  generalize hv:a.eval x=v at h1
  cases h1 with
  | iface _ _ u hu'=>
   refine⟨.tuple #[u,.bool true],?_,.tup _ [u,.bool true] rfl fun j d' v' hd' hv'=>?_⟩
   ·simp[execOp,hv,Instr.typeAssert,Sem.run_bind,run_underlying hu]
   ·match j with
    | 0=>simp at hd' hv';subst hd' hv';exact hu'
    | 1=>simp at hd' hv';subst hd' hv';exact .bool true
    | j+2=>simp at hd') k
theorem Sh [Known][Dfr](hT:chk P T=true){x:Operand}{xt at_:TypeId}{cs:List Value}{ti:Ti}{fs:List Fd}(hx:ev tm x=.nili)(ht:tl T at_=some ti)(hk:ti.kd=.struct fs)(hz:SZ P at_=some cs)(htd:Nat.blt t n=true)
  (k:AL P ops rest ⟨n,(t,.tup [.agg (cs.map Qa),.bool false])::tm,bx,fr,ee⟩ Q):AL P ops (⟨some t,.typeAssert x xt at_ true,ty,pos,after,none⟩::rest) ⟨n,tm,bx,fr,ee⟩ Q:=
 Z5 _ htd (fun g a w hi=>by
  have h1:V w g fr (ev tm x) (a.eval x):=hi.ev x
  rw[hx]at h1
  obtain⟨fields,hu,_⟩:=(Z6 hT ht).struct hk
  generalize hv:a.eval x=v at h1
  have hzv:(zeroValue at_).run P w=.ok (.agg cs.toArray) w:=by
   unfold SZ at hz
   cases hi':P.info? at_ with
   | none=>simp[hi']at hz
   | some i=>
    simp only[hi']at hz
    cases hz':i.zero with
    | none=>simp[hz']at hz
    | some z=>
     simp only[hz']at hz
     cases z with
     | agg c=>simp at hz;subst hz;simp[zeroValue,typeInfo,Sem.run_bind,hi',hz']
     | _=>simp at hz
  cases h1 with
  | nili=>
   refine⟨.tuple #[.agg cs.toArray,.bool false],?_,.tup _ [.agg cs.toArray,.bool false] rfl fun j d' v' hd' hv'=>?_⟩
   ·simp[execOp,hv,Instr.typeAssert,Sem.run_bind,run_underlying hu,hzv]
   ·match j with
    | 0=>
     simp at hd' hv';subst hd' hv'
     refine .agg _ cs (by simp) fun j d v hd hv=>?_
     rw[List.getElem?_map,hv]at hd
     simp at hd
     exact hd ▸ Uu _ _ _ v
    | 1=>simp at hd' hv';subst hd' hv';exact .bool false
    | j+2=>simp at hd') k
theorem Si {o:Oper}{K K':Act->World->Prop}{R R':Exit->Act->World->Prop}{r:Result Next}(h:o.upon P a K R r)(hK:∀ a w,K a w->K' a w)(hR:∀ c w,R (.panic c) a w->R' (.panic c) a w)(hL:LetsOut R->False):o.upon P a K' R' r:=by
 cases r with
 | ok nx w'=>
  cases nx<;>simp only[Oper.upon]at h ⊢
  case value v=>exact hK _ _ h
  case skip=>exact hK _ _ h
  case defer d=>exact hK _ _ h
  case enter f args=>
   refine Calls.mono h (fun e w'' he=>?_)
   cases e with
   | returned u=>exact hK _ _ he
   | panicked c=>exact hR _ _ he
   | outgrown=>exact(hL he).elim
  case row row args=>exact Rows.mono h fun u w'' he=>hK _ _ he
 | halt x w'=>
  cases x<;>simp only[Oper.upon]at h ⊢
  case panic u=>exact hR _ _ h
theorem Jx {ops:Array Oper}{cs:List Frame}{R:Exit->Act->World->Prop}{Q':Exit->Act->List Frame->World->Prop}(hR:∀ e a w,R e a w->Q' e a cs w)(hL:LetsOut R->False) :
  ∀(l:List Oper) (k:Nat) (a:Act) (w:World),(∀ j,l[j]?=ops[k+j]?)->wpList P ops R l a w->wpOpsS P ops Q' (List.range' k l.length) a cs w
 | [],k,a,w,_,h=>by
  simp only[List.length_nil,List.range'_zero,wpOpsS]
  exact hR _ _ _ h
 | o::l,k,a,w,hl,h=>by
  have h0:ops[k]?=some o:=by simpa using(hl 0).symm
  have ih:=fun a w=>Jx hR hL l (k+1) a w (fun j=>by have:=hl (j+1);simpa[Nat.add_assoc,Nat.add_comm 1 j]using this)
  rw[List.length_cons,List.range'_succ]
  simp only[wpOpsS,h0]
  unfold wpList at h
  by_cases hw:Region.wanted o (yielded ops a.tmps)=true
  ·rw[if_pos hw]at h
   rw[if_pos hw]
   rcases h with h|⟨_,hlo⟩
   ·unfold Oper.wp at h
    split
    ·rename_i w' hr
     rw[hr]at h
     exact h.elim
    ·exact Si h (fun a w h=>ih a w h) (fun c w h=>hR _ _ _ h) hL
   ·exact(hL hlo).elim
  ·rw[if_neg hw]at h
   rw[if_neg hw]
   exact ih _ _ h
end
theorem Oq [Known]{n:Nat}{args:List D}{bx:List (List D)}{fr:List Fr}{g:G}{w:World}{vs:List Value}(hle:args.length<=n)(hm:Mem g bx fr w)(hlen:vs.length=args.length)(hv:∀(j:Nat) (d:D) (v:Value),args[j]?=some d->vs[j]?=some v->V w g fr d v) :
  Inv ⟨g,fr,w⟩ ⟨n,UM 0 args,bx,fr,(bx.length,fr.length)⟩ g { tmps:=vs.toArray++Array.replicate (n-vs.toArray.size) undef,defers:=[] } w:=by
 refine⟨by simp;omega,rfl,hm,fun t=>?_,Evo.refl _,by rw[hm.bl];exact Nat.le_refl _,Nat.le_refl _⟩
 rw[Xy]
 simp only[Nat.zero_le,if_true,Nat.sub_zero]
 cases ht:args[t]? with
 | none=>exact .junk _
 | some d=>
  have hlt:t<args.length:=(List.getElem?_eq_some_iff.1 ht).1
  refine hv t d _ ht ?_
  have hlt2:t<vs.length:=by omega
  simp[Array.getD_getElem?,Array.getElem?_append,hlt2]
theorem RI [Known]{P:Program}{f:FuncId}{fn:Func}{id n t0:Nat}{o0:Oper}{l:List Oper}{y:Code}{args:List D}{bx:List (List D)}{fr:List Fr}{u u':FrameMode}{dv:D}{post:St->Prop}
  (hf:P.funcs[f]?=some fn) (hb:fn.body=some ((Code.region id (o0::l).toArray false).seq y)) (hn:fn.ntmps=n) (hr:fn.results = #[]) (hl:Nat.ble args.length n=true) (ht:Nat.blt t0 n=true)
  (ho:o0.dst=some t0) (hg:o0.guard=none) {w:World} (hop:∀ ρ,(execOp ρ o0).run P w=.ok .recover w) {g:G} {vs:List Value} (hm:Mem g bx fr w) (hlen:vs.length=args.length) (hv:∀(j:Nat) (d:D) (v:Value),args[j]?=some d->vs[j]?=some v->V w g fr d v)
  (hrec:∀(c₀:Frame) (cs:List Frame),c₀.mode=u->match recoverD (c₀::cs) with
   | some (v,cs')=>V w g fr dv v/\cs' = { c₀ with mode:=u' }::cs
   | none=>dv=.nili/\u'=u)
  (h1:AL P (o0::l).toArray l ⟨n,(t0,dv)::UM 0 args,bx,fr,(bx.length,fr.length)⟩ (fun x S=>x=.norm/\AW P y S (fun x S=>x=.norm/\post S))) :
  CallsD P f vs.toArray u w fun e u2 w'=>(∃ v,e=.returned v)/\u2=u'/\∃ S g',Mem g' S.bx S.fr w'/\Evo ⟨g,fr,w⟩ ⟨g',S.fr,w'⟩/\post S:=by
 refine callsD_of_wpS hf hb fun c₀ cs hc=>?_
 refine wpS_seq (wpS_region ?_)
 have hi0:=Oq (Nat.le_of_ble_eq_true hl) hm hlen hv
 rw[hn]
 generalize ha:({ tmps:=vs.toArray++Array.replicate (n-vs.toArray.size) undef,defers:=[] }:Act)=a at hi0
 obtain⟨v0,cs1,hcs1,hV0,hstep⟩:∃(v0:Value) (cs1:List Frame),cs1 = { c₀ with mode:=u' }::cs/\V w g fr dv v0/\∀ Q',wpOpsS P (o0::l).toArray Q' (List.range' 1 l.length) (a.put o0.dst v0) cs1 w->wpOpsS P (o0::l).toArray Q' (List.range (o0::l).toArray.size) a (c₀::cs) w:=by
  have h0:((o0::l).toArray)[0]?=some o0:=by simp
  have hw:Region.wanted o0 (yielded (o0::l).toArray a.tmps)=true:=by simp[Region.wanted,hg]
  have hsz:List.range (o0::l).toArray.size=0::List.range' 1 l.length:=by
   rw[List.range_eq_range'];simp[List.range'_succ]
  have hre:=hrec c₀ cs hc
  cases hrd:recoverD (c₀::cs) with
  | none=>
   rw[hrd]at hre
   obtain⟨rfl,rfl⟩:=hre
   refine⟨.nilIface,c₀::cs,by subst hc;rfl,.nili,fun Q' h=>?_⟩
   rw[hsz]
   simp only[wpOpsS,h0,if_pos hw,hop,hrd]
   exact h
  | some y=>
   obtain⟨v,cs'⟩:=y
   rw[hrd]at hre
   refine⟨v,cs',hre.2,hre.1,fun Q' h=>?_⟩
   rw[hsz]
   simp only[wpOpsS,h0,if_pos hw,hop,hrd]
   exact h
 refine hstep _ ?_
 have hi1:Inv ⟨g,fr,w⟩ ⟨n,(t0,dv)::UM 0 args,bx,fr,(bx.length,fr.length)⟩ g (a.put o0.dst v0) w:=by
  rw[ho];exact hi0.put ht hV0
 refine Jx (R:=VC ⟨g,fr,w⟩ (fun x S=>x=.norm/\AW P y S (fun x S=>x=.norm/\post S))) (fun e a' w' h=>?_) (fun⟨_,_,h⟩=>h) l 1 _ _ (fun j=>by simp[Nat.add_comm 1 j]) (h1.run _ _ _ _ hi1)
 cases e with
 | normal=>
  obtain⟨S,g',hi,_,hy⟩:=h
  refine wpS_of_wp ?_
  refine wp_mono (hy.run _ _ _ _ hi) fun e a2 w2 hc2=>?_
  cases e with
  | normal=>
   obtain⟨S2,g2,hi2,_,hp⟩:=hc2
   refine⟨hi2.defers,u',hcs1,.tuple #[],by simp[results,hr,Sem.run_bind],⟨_,rfl⟩,rfl,S2,g2,hi2.mem,hi2.evo,hp⟩
  | panic c=>obtain⟨_,_,_,_,_,_,_,h,_⟩:=hc2;cases h
  | ret=>obtain⟨_,_,_,h,_⟩:=hc2;cases h
  | exit i=>obtain⟨_,_,_,h,_⟩:=hc2;cases h
  | goto i=>obtain⟨_,_,_,h,_⟩:=hc2;cases h
  | outgrown=>exact hc2.elim
 | panic c=>obtain⟨_,_,_,_,_,_,_,h,_⟩:=h;cases h
 | ret=>obtain⟨_,_,_,h,_⟩:=h;cases h
 | exit i=>obtain⟨_,_,_,h,_⟩:=h;cases h
 | goto i=>obtain⟨_,_,_,h,_⟩:=h;cases h
 | outgrown=>exact h.elim
theorem T1 [Known]{P:Program}{R:Exit->Act->World->Prop}{id t fd:Nat}{caps:Array Operand}{ds:List D}{ats:Array TypeId}{ty1 ty2:Nat}{pos1 pos2:String}{af1 af2:Array Edge}{n:Nat}{ee:Nat × Nat}{tm:List (Nat × D)}{bx:List (List D)}{fr:List Fr}{b0:Bs}{g:G}{a:Act}{w:World}{y:Code}
  (hi:Inv b0 ⟨n,tm,bx,fr,ee⟩ g a w) (hds:caps.toList.map (ev tm)=ds) (htd:Nat.blt t n=true)
  (k:∀(cvs:List Value) (a':Act),cvs.length=ds.length->(∀(j:Nat) (d:D) (v:Value),ds[j]?=some d->cvs[j]?=some v->V w g fr d v) ->
   @Inv _ ⟨[{ target:=.fn (.func fd) cvs.toArray,args := #[] }]⟩ b0 ⟨n,(t,.fn fd ds)::tm,bx,fr,ee⟩ g a' w->y.wp P R a' w) :
  ((Code.region id #[⟨some t,.makeFunc (.func fd) #[] caps,ty1,pos1,af1,none⟩,⟨none,.defer { callee:=.value (.tmp t),args := #[],argTypes:=ats },ty2,pos2,af2,none⟩] false).seq y).wp P R a w:=by
 refine wp_seq ?_
 have hcv:=evs hi caps
 generalize hcvs:caps.toList.map a.eval=cvs at hcv
 have hce:caps.map a.eval=cvs.toArray:=by rw[<- hcvs,<- Array.toList_map,Array.toArray_toList]
 have hV:V w g fr (.fn fd ds) (.func (.func fd) #[] cvs.toArray):=.fn fd ds cvs (by rw[<- hds,<- hcvs];simp) (by rw[<- hds];exact hcv)
 have hi1:=hi.put htd hV
 have hlt:t<a.tmps.size:=by rw[hi.size];simpa using htd
 have e1:(execOp a.eval ⟨some t,.makeFunc (.func fd) #[] caps,ty1,pos1,af1,none⟩).run P w=.ok (.value (.func (.func fd) #[] cvs.toArray)) w:=by
  simp[execOp,hce,Instr.makeFunc,Sem.run_bind]
 have e2:(execOp (a.put (some t) (.func (.func fd) #[] cvs.toArray)).eval ⟨none,.defer { callee:=.value (.tmp t),args := #[],argTypes:=ats },ty2,pos2,af2,none⟩).run P w=.ok (.defer { target:=.fn (.func fd) cvs.toArray,args := #[] }) w:=by
  simp[execOp,resolve,Act.eval,Act.put,hlt,Deferred.ofValue,Sem.run_bind]
 refine wp_region_lit ?_
 unfold wpList
 rw[if_pos (by simp[Region.wanted])]
 refine .inl ?_
 unfold Oper.wp
 rw[e1]
 show wpList _ _ _ _ _ _
 unfold wpList
 rw[if_pos (by simp[Region.wanted])]
 refine .inl ?_
 unfold Oper.wp
 rw[e2]
 rw[Oper.upon_defer]
 refine k cvs _ (by rw[<- hds,<- hcvs];simp) (by rw[<- hds];exact hcv) ?_
 refine @Inv.mk _ ⟨[{ target:=.fn (.func fd) cvs.toArray,args := #[] }]⟩ _ _ _ _ _ ?_ ?_ hi1.mem (fun t'=>?_) hi1.evo hi1.bd
 ·have:=hi1.size;simpa[Act.put]using this
 ·have:=hi1.defers
  simp only[Act.put]at this ⊢
  rw[this];rfl
 ·have:=hi1.tm t';simpa[Act.put]using this
theorem Inv.parts [Known][Dfr]{b:Bs}{S:St}{g:G}{a:Act}{w:World}(h:Inv b S g a w):a.tmps.size=S.n/\Mem g S.bx S.fr w/\(∀ t,V w g S.fr (look S.tm t) (a.tmps.getD t undef))/\Evo b ⟨g,S.fr,w⟩:=⟨h.size,h.mem,h.tm,h.evo⟩
theorem Kv [Known]{P:Program}{fn:Func}{rs:List ResultVar}(hr:fn.results=rs.toArray){b:Bs}(hbρ:b.g.ρ=[])(hbf:b.fr=[]){S:St}{g:G}{a:Act}{w:World}{d:Deferred}(hi : @Inv _ ⟨[d]⟩ b S g a w){bs:List Nat}(hbs:Y5 bs S.bx.length)
  {fd:FuncId} {cvs:List Value} (hd:d = { target:=.fn (.func fd) cvs.toArray,args := #[] }) (hfd:Ji P fd=true) {args:List D} (hlen:cvs.length=args.length) (hV:∀(j:Nat) (d:D) (v:Value),args[j]?=some d->cvs[j]?=some v->V w g S.fr d v)
  {u u':FrameMode} (hu:u ≠ .run) (hset:settle u'=.returning) {bxs bxs':List (List D)} (hsel:UL bs [] S.bx=bxs)
  (hC:∀(g:G) (w:World) (vs:List Value),Mem g bxs [] w->vs.length=(args.map (D.ren (idx bs) (idx []))).length->(∀(j:Nat) (d:D) (v:Value),(args.map (D.ren (idx bs) (idx [])))[j]?=some d->vs[j]?=some v->V w g [] d v) ->
   CallsD P fd vs.toArray u w fun e u2 w'=>(∃ v,e=.returned v)/\u2=u'/\∃ g',Mem g' bxs' [] w'/\Evo ⟨g,[],w⟩ ⟨g',[],w'⟩)
  {tmR:List (Nat × D)} (htm:∀ t,V w (g.sel bs []) [] (look tmR t) (a.tmps.getD t undef)) {ds:List D} (hres:ResL P ⟨S.n,tmR,bxs',[],(0,0)⟩ rs ds) {R:Ending->World->Prop}
  (hR:∀ g' w' v,Evo b ⟨g',[],w'⟩->Mem g' [] [] w'->V w' g' [] ((Ke ds).ren (idx []) (idx [])) v->R (.returned v) w'):Leaves P fn a.tmps R [d] u w:=by
 subst hd
 obtain⟨isz,hm,itm,iev⟩:=@Inv.parts _ ⟨[{ target:=.fn (.func fd) cvs.toArray,args := #[] }]⟩ b S g a w hi
 refine leaves_cons (f:=fd) (args:=cvs.toArray) hu (by
  have:=Ur hfd cvs.toArray w
  simpa[invoke]using this) ?_
 have hms:=hm.sel hbs (ZI _)
 rw[hsel]at hms
 have hsF:Up [] S.fr=[]:=rfl
 rw[hsF]at hms
 refine(hC (g.sel bs []) w cvs hms (by simpa using hlen) (fun j d v hd hv=>?_)).mono fun e u2 w' ⟨⟨v,he⟩,hu2,g',hm',hev⟩=>?_
 ·rw[List.getElem?_map]at hd
  cases hj:args[j]? with
  | none=>simp[hj]at hd
  | some d0=>
   simp[hj]at hd;subst hd
   have:=(hV j d0 v hj hv).sel hm hbs (ZI _)
   rw[hsF]at this;exact this
 ·subst he hu2
  show Leaves P fn a.tmps R [] (settle u2) w'
  rw[hset]
  have hevS:Evo b ⟨g.sel bs [],[],w⟩:=by
   have:=iev.sel hm hbs (ZI _) (fun i hi=>by rw[hbρ]at hi;simp at hi) (fun i hi=>by rw[hbf]at hi;simp at hi)
   rw[hsF]at this;exact this
  have hinv : @Inv _ ⟨a.defers⟩ b ⟨S.n,tmR,bxs',[],(0,0)⟩ g' a w':=@Inv.mk _ ⟨a.defers⟩ _ _ _ _ _ isz rfl hm' (fun t=>(htm t).evo hev) (hevS.trans hev) ⟨by rw[hbρ];simp,by rw[hbf];simp⟩
  obtain⟨v,hrun,hv⟩:=@Xz _ ⟨a.defers⟩ _ _ _ _ _ _ hinv _ _ hr _ hres
  refine⟨v,hrun,hR (g'.sel [] []) w' v ?_ ?_ ?_⟩
  ·have:=(hevS.trans hev).sel hm' (ZI bxs'.length) (ZI _) (fun i hi=>by rw[hbρ]at hi;simp at hi) (fun i hi=>by rw[hbf]at hi;simp at hi)
   exact this
  ·exact hm'.sel (ZI _) (ZI _)
  ·exact hv.sel hm' (ZI _) (ZI _)
theorem T2 [Known][Dfr]{P:Program}{Q:X->St->Prop}{n:Nat}{ee:Nat × Nat}{tm:List (Nat × D)}{bx:List (List D)}{fr:List Fr}{ops:Array Oper}{rest:List Oper}{ty:Nat}{pos:String}{after:Array Edge}{f:FuncId}{ars:Array Operand}{ats:Array TypeId}{t:Option Nat}{cds:List D}{p p':D}{bxs:List (List D)}(bs:List Nat)(hX:AX P f cds bxs p)(hf:Ji P f=true)
  (hc:D.wks ((ars.toList.map (ev tm)).map (D.ren (idx bs) (idx [])))=cds) (hb:VL bs bx.length=true) (hbx:UL bs [] bx=bxs) (hle:Nat.ble bs.length bxs.length=true) (htd:(match t with|some t=>Nat.blt t n|none=>true)=true) (hp:nf (p.ren (upN bs bx.length) (upN [] fr.length))=some p')
  (k:∀ bx2 fr2,bxs.length<=bx2.length->Q (.pan p') ⟨n,tm,QX bs [] bx fr.length bx2,fr2,ee⟩):AL P ops (⟨t,.call { callee:=.value (.func f),args:=ars,argTypes:=ats },ty,pos,after,none⟩::rest) ⟨n,tm,bx,fr,ee⟩ Q:=by
 refine Jj bs [] hf (AC.unwk (hc ▸ hX)) rfl (YS hb) (ZI _) hbx rfl htd (fun d bx' fr' h=>?_) fun d0 bx' fr' h=>by cases h.1
 obtain⟨h1,h2⟩:=h
 injection h1 with h1
 subst h1
 have hle:=Nat.le_of_ble_eq_true hle
 refine⟨by omega,?_⟩
 have e:=Y2 hp
 subst e
 exact k _ _ h2
theorem Ot [Known][Dfr]{P:Program}{x y:Code}{S:St}{R:Exit->Act->World->Prop}{b0:Bs}{g:G}{a:Act}{w:World}(n:Nat)(tm:List (Nat × D))(bx:List (List D))(fr:List Fr)(ee:Nat × Nat)(hi:Inv b0 S g a w)
  (h:AW P x S (fun X S'=>X=.norm/\S'.n=n/\S'.bx=bx/\S'.fr=fr/\S'.e=ee/\Sub S'.tm tm)) (k:∀ g a w,Inv b0 ⟨n,tm,bx,fr,ee⟩ g a w->y.wp P R a w):(x.seq y).wp P R a w:=by
 refine wp_seq (wp_mono (h.run _ _ _ _ hi) fun e a' w' hc=>?_)
 cases e with
 | normal=>
  obtain⟨⟨n',tm',bx',fr',ee'⟩,g',hi',_,h1,h2,h3,h4,h5⟩:=hc
  dsimp only at h1 h2 h3 h4 h5
  subst h1 h2 h3 h4
  exact k _ _ _ (hi'.sub h5)
 | panic c=>obtain⟨_,_,_,_,_,_,_,h,_⟩:=hc;cases h
 | ret=>obtain⟨_,_,_,h,_⟩:=hc;cases h
 | exit i=>obtain⟨_,_,_,h,_⟩:=hc;cases h
 | goto i=>obtain⟨_,_,_,h,_⟩:=hc;cases h
 | outgrown=>exact hc.elim
theorem Inv.dl [Known][Dfr]{b:Bs}{S:St}{g:G}{a:Act}{w:World}(h:Inv b S g a w):a.defers=Dfr.l:=h.defers
theorem Inv.rebase [Known][Dfr]{b:Bs}{n:Nat}{tm:List (Nat × D)}{bx:List (List D)}{fr:List Fr}{ee:Nat × Nat}{g:G}{a:Act}{w:World}(h:Inv b ⟨n,tm,bx,fr,ee⟩ g a w)(p q:Nat)(hp:bx.length=p)(hq:fr.length=q):Inv ⟨g,fr,w⟩ ⟨n,tm,bx,fr,(p,q)⟩ g a w:=
 ⟨h.size,h.defers,h.mem,h.tm,Evo.refl _,by show g.ρ.length<=p;rw[h.mem.bl];exact Nat.le_of_eq hp,Nat.le_of_eq hq⟩
theorem Inv.base [Known][Dfr]{b b1:Bs}{S:St}{g:G}{a:Act}{w:World}(h:Inv b1 S g a w)(he:Evo b b1)(hρ:b.g.ρ=[])(hf:b.fr=[]):Inv b S g a w:=
 ⟨h.size,h.defers,h.mem,h.tm,he.trans h.evo,by rw[hρ];simp,by rw[hf];simp⟩
theorem Tf [Known]{P:Program}{c:Code}{S:St}{Q:X->St->Prop}{b:Bs}{g:G}{a:Act}{w:World}{R:Exit->Act->World->Prop}(df:List Deferred)(h : @AW _ ⟨df⟩ P c S Q)(hi : @Inv _ ⟨df⟩ b S g a w)
  (k1:∀ S g a w,@Inv _ ⟨df⟩ b S g a w->a.defers=df->Q .ret S->R .ret a w) (k2:∀ S g a w v d,@Inv _ ⟨df⟩ b S g a w->a.defers=df->V w g S.fr d v->Q (.pan d) S->R (.panic [{ v,recovered:=false }]) a w)
  (k3:∀ S,Q .norm S->False) (k4:∀ S i,Q (.exit i) S->False) (k5:∀ S i,Q (.goto i) S->False):c.wp P R a w:=by
 refine wp_mono (@AW.run _ ⟨df⟩ P c S Q h b g a w hi) fun e a' w' hc=>?_
 cases e with
 | normal=>obtain⟨S',g',hi',h⟩:=hc;exact(k3 _ h).elim
 | ret=>obtain⟨S',g',hi',h⟩:=hc;exact k1 _ _ _ _ hi' (@Inv.dl _ ⟨df⟩ _ _ _ _ _ hi') h
 | exit i=>obtain⟨S',g',hi',h⟩:=hc;exact(k4 _ _ h).elim
 | goto i=>obtain⟨S',g',hi',h⟩:=hc;exact(k5 _ _ h).elim
 | panic c=>obtain⟨S',g',v,d,hi',rfl,hv,h⟩:=hc;exact k2 _ _ _ _ v d hi' (@Inv.dl _ ⟨df⟩ _ _ _ _ _ hi') hv h
 | outgrown=>exact hc.elim
end Go.Av
end
section
open Go.RowKit Go.Pl Go.Av
namespace Go.Proofs.YtkdpfkjlheajhaaGreatDoor
set_option maxHeartbeats 4000000
structure RqV where
 id:Nat
 kd:Int
 ep:EidV
 ds:EidV
 pol:Int
 num:Int
 tik:Int
 pay:List UInt8
 life:Nat
 tok:Nat
 on:Bool
abbrev rqC (x:RqV):List D:=[.int .u64 (x.id:Int),.int .i64 x.kd,.bool x.ep.i,.int .u64 (x.ep.n:Int),.int .u64 (x.ep.s:Int),.str x.ep.h,.str x.ep.d,.bool x.ds.i,.int .u64 (x.ds.n:Int),.int .u64 (x.ds.s:Int),.str x.ds.h,.str x.ds.d,.int .i64 x.pol,.int .i64 x.num,.int .i64 x.tik,byE x.pay,.int .u64 (x.life:Int),.int .u64 (x.tok:Int),.bool x.on]
def Kw (x:EidV):Bool:=Yh x && !(isZ x)
theorem Ou [Known](x:EidV):AP Tryz.prog 122 [.agg (eC x)] (.bool (Kw x)) []:=by
 have hR:=WH x
 unfold Kw
 cases hr:Yh x with
 | false=>
  rw[hr]at hR
  refine AP.ofA (Zl Tryz.func122 Z Tryz.ntmps122 Z Z ?_)
  repeat'(first|(apply Zb (hR);kernel_rfl;(iterate 4 exact Z))|(apply Zi Za;exact Z)|(apply Zg Za;exact Z)|(apply Zv;(iterate 3 exact Z);(first|with_reducible assumption|decide +kernel|(solve|simp only[bn])))|(apply Zj;exact Z;(first|with_reducible assumption|decide +kernel|(solve|simp only[bn]));exact Z;exact Z))
  all_goals exact Qe
 | true=>
  rw[hr]at hR
  refine AP.ofA (Zl Tryz.func122 Z Tryz.ntmps122 Z Z ?_)
  repeat'(first|(apply Zb (hR);kernel_rfl;(iterate 4 exact Z))|(apply Zi Za;exact Z)|(apply Zg Za;exact Z)|(apply Ze;(iterate 3 exact Z);(first|with_reducible assumption|decide +kernel|(solve|simp only[bn])))|(apply Zk;exact Z;(first|with_reducible assumption|decide +kernel|(solve|simp only[bn]));exact Z;exact Z)|refine VF Za Z Z Z Z Qk Qk Z Z Z ?_)
  all_goals exact Qe
def Us (a b:RqV):Bool:=((a.id:Int)==(b.id:Int))&&((a.kd==b.kd)&&(eqE a.ep b.ep&&(eqE a.ds b.ds&&((a.pol==b.pol)&&((a.num==b.num)&&((a.tik==b.tik)&&((a.pay==b.pay)&&(((a.life:Int)==(b.life:Int))&&(((a.tok:Int)==(b.tok:Int))&&(a.on==b.on))))))))))
theorem Ov [Known](a b:RqV):AP Tryz.prog 27 [.agg (rqC a),.agg (rqC b)] (.bool (Us a b)) []:=by
 have hB:=Wn a.pay b.pay
 unfold Us eqE
 refine AP.ofA (Zl Tryz.func27 Z Tryz.ntmps27 Z Z ?_)
 repeat'(first|(apply Zb (hB);kernel_rfl;(iterate 4 exact Z))|(apply Zi Za;exact Z)|(apply Zg Za;exact Z)|(apply Ze;(iterate 3 exact Z);(first|with_reducible assumption|(solve|simp only[bn])))|(apply Zv;(iterate 3 exact Z);(first|with_reducible assumption|(solve|simp only[bn])))|(apply YF;exact Z;exact Z;all_goals intro hb)|(apply Zk;exact Z;(first|with_reducible assumption|(solve|simp only[bn]));exact Z;exact Z)|(apply Zj;exact Z;(first|with_reducible assumption|(solve|simp only[bn]));exact Z;exact Z)|refine VF Za Z Z Z Z Qk Qk Z Z Z ?_)
 all_goals(apply Zs [];(apply Zc Za;exact Z);(iterate 4 exact Z))
 all_goals first|rfl|(simp only[*,Bool.true_and,Bool.false_and];done)
theorem Tg (k:Int):k=1\/k=2\/k=3\/k=4\/k=5\/k=6\/k=7\/k=8\/k=9\/k=10\/k=11\/k=12\/((k==1)=false/\(k==2)=false/\(k==3)=false/\(k==4)=false/\(k==5)=false/\(k==6)=false/\(k==7)=false/\(k==8)=false/\(k==9)=false/\(k==10)=false/\(k==11)=false/\(k==12)=false):=by
 simp only[beq_eq_false_iff_ne];omega
abbrev rqZ (x:RqV):RqV:=⟨x.id,x.kd,ZN,ZN,0,0,0,[],0,0,false⟩
def XF (x:RqV):RqV:=
 if x.kd==1||x.kd==3 then { rqZ x with ep:=x.ep,pol:=x.pol }
 else if x.kd==2||x.kd==6 then { rqZ x with ep:=x.ep }
 else if x.kd==4 then { rqZ x with ep:=x.ep,ds:=x.ds,pay:=x.pay,life:=x.life,on:=x.on }
 else if x.kd==5||(x.kd==8||x.kd==9) then { rqZ x with num:=x.num }
 else if x.kd==7 then { rqZ x with ep:=x.ep,tik:=x.tik }
 else if x.kd==10 then { rqZ x with on:=x.on }
 else if x.kd==12 then { rqZ x with tok:=x.tok }
 else rqZ x
def Vx (x:RqV):Bool:=
 if x.kd==1||x.kd==3 then Kw x.ep&&(decide (x.pol ≥ 0)&&decide (x.pol<=2))
 else if x.kd==2||x.kd==6 then Kw x.ep
 else if x.kd==4 then Kw x.ep&&(Kw x.ds&&(decide ((x.pay.length:Int)<=200)&&(decide ((x.life:Int) ≥ 1)&&decide ((x.life:Int)<=1099511627776))))
 else if x.kd==5||(x.kd==8||x.kd==9) then decide (x.num ≥ 1)&&decide (x.num<=1099511627776)
 else if x.kd==7 then Kw x.ep&&(decide (x.tik ≥ 1)&&decide (x.tik<=1000))
 else if x.kd==12 then decide ((x.tok:Int) ≥ 1)&&decide ((x.tok:Int)<=2147483648)
 else x.kd==10||x.kd==11
end Go.Proofs.YtkdpfkjlheajhaaGreatDoor
end
section
open Go.RowKit Go.Pl
namespace Go.Pl
def Im {α:Type}(P:Program)(fs:Array Field)(i o:Nat)(R:Rep α):Prop:=
 ∀(H:Type) (enc:TypeId × Value->H) (W:World) (spare:Nat->Bool) (held:Bool) (n:Nat) (cs:List Value) (xs:List (DataW H × List MemPlace)),cs.length=o+R.n->xs.length=fs.size ->
  (∀(j:Nat) (f:Field),fs[j]?=some f->DataW.trod enc P W 0 spare held n f.type ((cs.drop f.offset).take (P.cellsOf f.type))=xs[j]?)->∃ x,R.ok W (· < W.heap.size) (cs.drop o) x
variable {P:Program} {t:TypeId} {fs:Array Field}
theorem Ow {α:Type}{R:Rep α}{i o:Nat}{f:Field}(hf:fs[i]?=some f)(ho:f.offset=o)(hc:P.cellsOf f.type=R.n)(h:Wz P f.type R){H:Type}{enc:TypeId × Value->H}{W:World}{spare:Nat->Bool}{held:Bool}{n:Nat}{cs:List Value}{xs:List (DataW H × List MemPlace)}(hl:xs.length=fs.size)
  (hg:∀(j:Nat) (f:Field),fs[j]?=some f->DataW.trod enc P W 0 spare held n f.type ((cs.drop f.offset).take (P.cellsOf f.type))=xs[j]?):∃ x,R.ok W (· < W.heap.size) ((cs.drop o).take R.n) x:=by
 have e:=hg i f hf
 rw[ho,hc]at e
 have hi:i<xs.length:=by
  rw[hl]
  exact(Array.getElem?_eq_some_iff.1 hf).1
 exact h H enc W spare held n _ _ (e.trans (List.getElem?_eq_getElem hi))
theorem Kx {α:Type}{R:Rep α}{i o:Nat}{f:Field}(hf:fs[i]?=some f)(ho:f.offset=o)(hc:P.cellsOf f.type=R.n)(h:Wz P f.type R):Im P fs i o R:=by
 intro H enc W spare held n cs xs hcl hl hg
 obtain⟨x,hx⟩:=Ow hf ho hc h hl hg
 rw[List.take_of_length_le (by rw[List.length_drop];omega)]at hx
 exact⟨x,hx⟩
theorem Ys {α β:Type}{R:Rep α}{R':Rep β}{i o:Nat}{f:Field}(hf:fs[i]?=some f)(ho:f.offset=o)(hc:P.cellsOf f.type=R.n)(h:Wz P f.type R)(h':Im P fs (i+1) (o+R.n) R'):Im P fs i o (R.prod R'):=by
 intro H enc W spare held n cs xs hcl hl hg
 obtain⟨x,hx⟩:=Ow hf ho hc h hl hg
 have hn:(R.prod R').n=R.n+R'.n:=rfl
 obtain⟨x',hx'⟩:=h' H enc W spare held n cs xs (by rw[hn]at hcl;omega) hl hg
 refine⟨(x,x'),(cs.drop o).take R.n,(cs.drop o).drop R.n,(List.take_append_drop _ _).symm,hx,?_⟩
 rw[List.drop_drop]
 exact hx'
theorem Jy {α:Type}{R:Rep α}(hs:P.underlying t=some (.struct fs))(hc:P.cellsOf t=R.n)(h:Im P fs 0 0 R):Wz P t R:=by
 intro H enc W spare held fuel cs y hy
 obtain⟨xs,n,_,_,hl,hxl,hg⟩:=DataW.trod_struct hs hy
 exact h H enc W spare held n cs xs (by omega) hxl hg
end Go.Pl
end
section
open Go.RowKit Go.Pl Go.Av
namespace Go.Proofs.YtkdpfkjlheajhaaGreatDoor
set_option maxHeartbeats 4000000
abbrev RQ:Rep (Nat × Int × XE × XE × Int × Int × Int × List UInt8 × Nat × Nat × Bool):=
 Rep.u64.prod (Rep.i64.prod (RE.prod (RE.prod (Rep.i64.prod (Rep.i64.prod (Rep.i64.prod ((Rep.slice Rep.byte (by decide)).prod (Rep.u64.prod (Rep.u64.prod Rep.bool)))))))))
theorem Ma:Wz Tryz.prog 26 (Rep.slice Rep.byte (by decide)):=Xw (R:=Rep.byte) (by decide) Tryz.underlying26 (by kernel_rfl) (Ka Tryz.underlying5)
theorem S0:Wz Tryz.prog 41 RQ:=
 Jy Tryz.underlying41 (by kernel_rfl) (Ys rfl rfl (by kernel_rfl) (Vi Tryz.underlying31) (Ys rfl rfl (by kernel_rfl) (VR Tryz.underlying3)
  (Ys rfl rfl (by kernel_rfl) RH (Ys rfl rfl (by kernel_rfl) RH (Ys rfl rfl (by kernel_rfl) (VR Tryz.underlying3) (Ys rfl rfl (by kernel_rfl) (VR Tryz.underlying3) (Ys rfl rfl (by kernel_rfl) (VR Tryz.underlying3)
   (Ys rfl rfl (by kernel_rfl) Ma (Ys rfl rfl (by kernel_rfl) (Vi Tryz.underlying31) (Ys rfl rfl (by kernel_rfl) (Vi Tryz.underlying31) (Kx rfl rfl (by kernel_rfl) (Kb Tryz.underlying4))))))))))))
abbrev XQ:=Nat × Int × XE × XE × Int × Int × Int × List UInt8 × Nat × Nat × Bool
def XQ.v (x:XQ):RqV:=⟨x.1,x.2.1,x.2.2.1.v,x.2.2.2.1.v,x.2.2.2.2.1,x.2.2.2.2.2.1,x.2.2.2.2.2.2.1,x.2.2.2.2.2.2.2.1,x.2.2.2.2.2.2.2.2.1,x.2.2.2.2.2.2.2.2.2.1,x.2.2.2.2.2.2.2.2.2.2⟩
theorem LC {W:World}{v:Value}{b:List UInt8}(h:Sl Rep.byte W (· < W.heap.size) v b):V W (g0 W) [] (byE b) v:=.sl .ext _ _ (ToE.byte.sl (C:=(g0 W).C) (fun k hk o=>hk) h) trivial
theorem Mb [Known](x:RqV):AP Tryz.prog 114 [.agg (rqC x)] (.agg (rqC (XF x))) []:=by
 obtain⟨id,kd,⟨ei,en,es,eh,ed⟩,⟨di,dn,dq,dh,dd⟩,pol,num,tik,pay,life,tok,on⟩:=x
 show AP Tryz.prog _ [.agg [.int .u64 (id:Int),.int .i64 kd,.bool ei,.int .u64 (en:Int),.int .u64 (es:Int),.str eh,.str ed,.bool di,.int .u64 (dn:Int),.int .u64 (dq:Int),.str dh,.str dd,.int .i64 pol,.int .i64 num,.int .i64 tik,.sl .ext (pay.map E.byte),.int .u64 (life:Int),.int .u64 (tok:Int),.bool on]] _ []
 rcases Tg kd with rfl|rfl|rfl|rfl|rfl|rfl|rfl|rfl|rfl|rfl|rfl|rfl|⟨n1,n2,n3,n4,n5,n6,n7,n8,n9,n10,n11,n12⟩
 all_goals
  refine AP.ofA (Zl Tryz.func114 Z Tryz.ntmps114 Z Z ?_)
  repeat'(first|(apply Zi Za;exact Z)|(apply Zg Za;exact Z)|(apply Zu Za;exact Z)|(apply Zd;exact Z;(first|with_reducible assumption|decide +kernel|(solve|simp only[bn])))|(apply Zf;exact Z;(first|with_reducible assumption|decide +kernel|(solve|simp only[bn])))|(apply Zn 6 ZF;decide +kernel;kernel_rfl;kernel_rfl;kernel_rfl;exact Z;exact Z)|(apply Zn 18 ZF;decide +kernel;kernel_rfl;kernel_rfl;kernel_rfl;exact Z;exact Z)|(apply Zr;(iterate 4 exact Z))|exact AE.nil _ _ _ _|(apply Zw;exact Z)|(apply Wv;exact Z)|(apply ZA;exact Z;exact Z;decide +kernel;exact Z)|(apply ZB;exact Z)|(apply Vf;exact Z)|exact AO.nil _ _ _|(apply Zq;(decide +kernel))|(apply ZM;(iterate 3 exact Z))|exact AOs.nil|exact ZG rfl rfl|exact WC rfl)
  all_goals(apply Zs [];(apply Zc Za;exact Z);(iterate 4 exact Z))
  all_goals first|rfl|(unfold XF;dsimp only;simp only[*];rfl)
theorem Hg [Known](x:RqV):AP Tryz.prog 113 [.agg (rqC x)] (.bool (Vx x)) []:=by
 have hN:=Ou x.ep
 have hM:=Ou x.ds
 have hbl:(x.pay.map E.byte).length=x.pay.length:=List.length_map ..
 unfold Vx
 obtain⟨id,kd,⟨ei,en,es,eh,ed⟩,⟨di,dn,dq,dh,dd⟩,pol,num,tik,pay,life,tok,on⟩:=x
 dsimp only at hN hM ⊢
 show AP Tryz.prog _ [.agg [.int .u64 (id:Int),.int .i64 kd,.bool ei,.int .u64 (en:Int),.int .u64 (es:Int),.str eh,.str ed,.bool di,.int .u64 (dn:Int),.int .u64 (dq:Int),.str dh,.str dd,.int .i64 pol,.int .i64 num,.int .i64 tik,.sl .ext (pay.map E.byte),.int .u64 (life:Int),.int .u64 (tok:Int),.bool on]] _ []
 generalize Kw ⟨ei,en,es,eh,ed⟩=bN at *
 generalize Kw ⟨di,dn,dq,dh,dd⟩=bM at *
 rcases Tg kd with rfl|rfl|rfl|rfl|rfl|rfl|rfl|rfl|rfl|rfl|rfl|rfl|⟨n1,n2,n3,n4,n5,n6,n7,n8,n9,n10,n11,n12⟩
 all_goals
  try simp only[n1,n2,n3,n4,n5,n6,n7,n8,n9,n10,n11,n12]
  simp only[Int.reduceBEq,Bool.true_or,Bool.or_true,Bool.or_self,Bool.or_false,Bool.false_or,if_true,if_false,Bool.false_eq_true,hbl]
  refine AP.ofA (Zl Tryz.func113 Z Tryz.ntmps113 Z Z ?_)
  repeat'(first|(apply Zb (hN);kernel_rfl;(iterate 4 exact Z))|(apply Zb (hM);kernel_rfl;(iterate 4 exact Z))|(apply Zi Za;exact Z)|(apply Zg Za;exact Z)|(apply Zu Za;exact Z)|(apply Ze;(iterate 3 exact Z);(first|with_reducible assumption|decide +kernel|(solve|simp only[bn])))|(apply Zv;(iterate 3 exact Z);(first|with_reducible assumption|decide +kernel|(solve|simp only[bn])))|(apply Zp;(iterate 3 exact Z);(first|with_reducible assumption|decide +kernel|(solve|simp only[bn])))|(apply YF;exact Z;exact Z;all_goals intro hb)|(apply Zk;exact Z;(first|with_reducible assumption|decide +kernel|(solve|simp only[bn]));exact Z;exact Z)|(apply Zj;exact Z;(first|with_reducible assumption|decide +kernel|(solve|simp only[bn]));exact Z;exact Z)|(apply Zd;exact Z;(first|with_reducible assumption|decide +kernel|(solve|simp only[bn])))|(apply Zf;exact Z;(first|with_reducible assumption|decide +kernel|(solve|simp only[bn])))|refine Zt Za Z Z Z Z ?_)
  all_goals(apply Zs [];(apply Zc Za;exact Z);(iterate 4 exact Z))
  all_goals first|rfl|(simp only[*];done)|(simp only[*];rfl)|(clear hN hM;simp_all;done)|(clear hN hM;simp_all;omega)
def Yj (x:RqV):Bool:=decide ((x.id:Int) ≥ 1)&&(decide ((x.id:Int)<=1099511627776)&&(Vx x&&Us x (XF x)))
theorem Jb [Known](x:RqV):AP Tryz.prog 93 [.agg (rqC x)] (.bool (Yj x)) []:=by
 have hP:=Hg x
 have hO:=Mb x
 have hS:=Ov x (XF x)
 unfold Yj
 generalize Vx x=bP at *
 generalize Us x (XF x)=bS at *
 generalize XF x=y at *
 obtain⟨id,kd,⟨ei,en,es,eh,ed⟩,⟨di,dn,dq,dh,dd⟩,pol,num,tik,pay,life,tok,on⟩:=x
 obtain⟨yid,ykd,⟨yei,yen,yes,yeh,yed⟩,⟨ydi,ydn,ydq,ydh,ydd⟩,ypol,ynum,ytik,ypay,ylife,ytok,yon⟩:=y
 replace hP:AP Tryz.prog _ [.agg [.int .u64 (id:Int),.int .i64 kd,.bool ei,.int .u64 (en:Int),.int .u64 (es:Int),.str eh,.str ed,.bool di,.int .u64 (dn:Int),.int .u64 (dq:Int),.str dh,.str dd,.int .i64 pol,.int .i64 num,.int .i64 tik,.sl .ext (pay.map E.byte),.int .u64 (life:Int),.int .u64 (tok:Int),.bool on]] _ []:=hP
 replace hO:AP Tryz.prog _ [.agg [.int .u64 (id:Int),.int .i64 kd,.bool ei,.int .u64 (en:Int),.int .u64 (es:Int),.str eh,.str ed,.bool di,.int .u64 (dn:Int),.int .u64 (dq:Int),.str dh,.str dd,.int .i64 pol,.int .i64 num,.int .i64 tik,.sl .ext (pay.map E.byte),.int .u64 (life:Int),.int .u64 (tok:Int),.bool on]] (.agg [.int .u64 (yid:Int),.int .i64 ykd,.bool yei,.int .u64 (yen:Int),.int .u64 (yes:Int),.str yeh,.str yed,.bool ydi,.int .u64 (ydn:Int),.int .u64 (ydq:Int),.str ydh,.str ydd,.int .i64 ypol,.int .i64 ynum,.int .i64 ytik,.sl .ext (ypay.map E.byte),.int .u64 (ylife:Int),.int .u64 (ytok:Int),.bool yon]) []:=hO
 replace hS:AP Tryz.prog _ [.agg [.int .u64 (id:Int),.int .i64 kd,.bool ei,.int .u64 (en:Int),.int .u64 (es:Int),.str eh,.str ed,.bool di,.int .u64 (dn:Int),.int .u64 (dq:Int),.str dh,.str dd,.int .i64 pol,.int .i64 num,.int .i64 tik,.sl .ext (pay.map E.byte),.int .u64 (life:Int),.int .u64 (tok:Int),.bool on],.agg [.int .u64 (yid:Int),.int .i64 ykd,.bool yei,.int .u64 (yen:Int),.int .u64 (yes:Int),.str yeh,.str yed,.bool ydi,.int .u64 (ydn:Int),.int .u64 (ydq:Int),.str ydh,.str ydd,.int .i64 ypol,.int .i64 ynum,.int .i64 ytik,.sl .ext (ypay.map E.byte),.int .u64 (ylife:Int),.int .u64 (ytok:Int),.bool yon]] _ []:=hS
 show AP Tryz.prog _ [.agg [.int .u64 (id:Int),.int .i64 kd,.bool ei,.int .u64 (en:Int),.int .u64 (es:Int),.str eh,.str ed,.bool di,.int .u64 (dn:Int),.int .u64 (dq:Int),.str dh,.str dd,.int .i64 pol,.int .i64 num,.int .i64 tik,.sl .ext (pay.map E.byte),.int .u64 (life:Int),.int .u64 (tok:Int),.bool on]] (.bool (decide ((id:Int) ≥ 1)&&(decide ((id:Int)<=1099511627776)&&(bP&&bS)))) []
 cases t1:decide ((id:Int) ≥ 1) with
 | false=>
  refine AP.ofA (Zl Tryz.func93 Z Tryz.ntmps93 Z Z ?_)
  repeat'(first|(apply Zi Za;exact Z)|(apply Zg Za;exact Z)|(apply Zv;(iterate 3 exact Z);(first|with_reducible assumption|decide +kernel|(solve|simp only[bn])))|(apply Zj;exact Z;(first|with_reducible assumption|decide +kernel|(solve|simp only[bn]));exact Z;exact Z)|(apply Zn 16 ZF;decide +kernel;kernel_rfl;kernel_rfl;kernel_rfl;exact Z;exact Z)|(apply Zr;(iterate 4 exact Z))|exact AE.nil _ _ _ _|(apply Zw;exact Z)|(apply ZA;exact Z;exact Z;decide +kernel;exact Z)|(apply ZB;exact Z)|exact AO.nil _ _ _|(apply Zq;(decide +kernel))|exact AOs.nil|exact ZG rfl rfl)
  all_goals exact Qe
 | true=>
  cases t2:decide ((id:Int)<=1099511627776) with
  | false=>
   refine AP.ofA (Zl Tryz.func93 Z Tryz.ntmps93 Z Z ?_)
   repeat'(first|(apply Zi Za;exact Z)|(apply Zg Za;exact Z)|(apply Ze;(iterate 3 exact Z);(first|with_reducible assumption|decide +kernel|(solve|simp only[bn])))|(apply Zv;(iterate 3 exact Z);(first|with_reducible assumption|decide +kernel|(solve|simp only[bn])))|(apply Zk;exact Z;(first|with_reducible assumption|decide +kernel|(solve|simp only[bn]));exact Z;exact Z)|(apply Zj;exact Z;(first|with_reducible assumption|decide +kernel|(solve|simp only[bn]));exact Z;exact Z)|(apply Zn 16 ZF;decide +kernel;kernel_rfl;kernel_rfl;kernel_rfl;exact Z;exact Z)|(apply Zr;(iterate 4 exact Z))|exact AE.nil _ _ _ _|(apply Zw;exact Z)|(apply ZA;exact Z;exact Z;decide +kernel;exact Z)|(apply ZB;exact Z)|exact AO.nil _ _ _|(apply Zq;(decide +kernel))|exact AOs.nil|exact ZG rfl rfl)
   all_goals exact Qe
  | true=>
   cases bP with
   | false=>
    refine AP.ofA (Zl Tryz.func93 Z Tryz.ntmps93 Z Z ?_)
    repeat'(first|(apply Zb (hP);kernel_rfl;(iterate 4 exact Z))|(apply Zi Za;exact Z)|(apply Zg Za;exact Z)|(apply Ze;(iterate 3 exact Z);(first|with_reducible assumption|decide +kernel|(solve|simp only[bn])))|(apply Zv;(iterate 3 exact Z);(first|with_reducible assumption|decide +kernel|(solve|simp only[bn])))|(apply Zk;exact Z;(first|with_reducible assumption|decide +kernel|(solve|simp only[bn]));exact Z;exact Z)|(apply Zj;exact Z;(first|with_reducible assumption|decide +kernel|(solve|simp only[bn]));exact Z;exact Z)|(apply Zn 16 ZF;decide +kernel;kernel_rfl;kernel_rfl;kernel_rfl;exact Z;exact Z)|(apply Zr;(iterate 4 exact Z))|exact AE.nil _ _ _ _|(apply Zw;exact Z)|(apply ZA;exact Z;exact Z;decide +kernel;exact Z)|(apply ZB;exact Z)|exact AO.nil _ _ _|(apply Zq;(decide +kernel))|exact AOs.nil|exact ZG rfl rfl)
    all_goals exact Qe
   | true=>
    refine AP.ofA (Zl Tryz.func93 Z Tryz.ntmps93 Z Z ?_)
    repeat'(first|(apply Zb (hP);kernel_rfl;(iterate 4 exact Z))|(apply Zb (hO);kernel_rfl;(iterate 4 exact Z))|(apply Zb (hS);kernel_rfl;(iterate 4 exact Z))|(apply Zi Za;exact Z)|(apply Zg Za;exact Z)|(apply Ze;(iterate 3 exact Z);(first|with_reducible assumption|decide +kernel|(solve|simp only[bn])))|(apply Zk;exact Z;(first|with_reducible assumption|decide +kernel|(solve|simp only[bn]));exact Z;exact Z)|(apply Zn 16 ZF;decide +kernel;kernel_rfl;kernel_rfl;kernel_rfl;exact Z;exact Z)|(apply Zr;(iterate 4 exact Z))|exact AE.nil _ _ _ _|(apply Zw;exact Z)|(apply ZA;exact Z;exact Z;decide +kernel;exact Z)|(apply ZB;exact Z)|exact AO.nil _ _ _|(apply Zq;(decide +kernel))|exact AOs.nil|exact ZG rfl rfl)
    all_goals exact Qe
def XU (x:RqV):Bool:=decide ((x.pay.length:Int)>400)||decide (IntKind.i64.wrap (IntKind.i64.wrap (IntKind.i64.wrap ((x.ep.h.length:Int)+(x.ep.d.length:Int))+(x.ds.h.length:Int))+(x.ds.d.length:Int))>300)
theorem Hh [Known](x:RqV):AP Tryz.prog 57 [.agg (rqC x)] (.bool (XU x)) []:=by
 have hbl:(x.pay.map E.byte).length=x.pay.length:=List.length_map ..
 unfold XU
 refine AP.ofA (Zl Tryz.func57 Z Tryz.ntmps57 Z Z ?_)
 repeat'(first|(apply Zi Za;exact Z)|(apply Zg Za;exact Z)|(apply Ze;(iterate 3 exact Z);(first|with_reducible assumption|(solve|simp only[bn])))|(apply Zp;(iterate 3 exact Z);(first|with_reducible assumption|(solve|simp only[bn])))|(apply YF;exact Z;exact Z;all_goals intro hb)|(apply Zk;exact Z;(first|with_reducible assumption|(solve|simp only[bn]));exact Z;exact Z)|(apply Zj;exact Z;(first|with_reducible assumption|(solve|simp only[bn]));exact Z;exact Z)|refine Zt Za Z Z Z Z ?_|refine Ud Za Z Z Z Z ?_)
 all_goals(apply Zs [];(apply Zc Za;exact Z);(iterate 4 exact Z))
 all_goals first|rfl|(rw[hbl]at hb;rw[hb];rfl)
end Go.Proofs.YtkdpfkjlheajhaaGreatDoor
end
