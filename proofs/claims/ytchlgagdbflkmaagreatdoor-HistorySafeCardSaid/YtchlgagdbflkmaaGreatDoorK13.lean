/- Arguments: structs of five fields; names and numbers of bundles. -/
import Derived.Test.YtchlgagdbflkmaaGreatDoorK01
import Derived.Test.YtchlgagdbflkmaaGreatDoorK07
import Derived.Test.YtchlgagdbflkmaaGreatDoorProg
import Derived.Test.YtchlgagdbflkmaaGreatDoorK12
import Derived.Test.YtchlgagdbflkmaaGreatDoorK10
import Derived.Recover
set_option linter.unusedSimpArgs false
set_option linter.unusedVariables false
section
open Go.RowKit Go.Pl
namespace Go.Pl
variable {P:Program} {t:TypeId}
theorem IP {α β γ δ ε:Type}{R0:Rep α}{R1:Rep β}{R2:Rep γ}{R3:Rep δ}{R4:Rep ε}{fs:Array Field}{f0 f1 f2 f3 f4:Field}(hs:P.underlying t=some (.struct fs))(hfs:fs = #[f0,f1,f2,f3,f4])
  (h00:f0.offset=0) (h01:f1.offset=R0.n) (h02:f2.offset=R0.n+R1.n) (h03:f3.offset=R0.n+R1.n+R2.n) (h04:f4.offset=R0.n+R1.n+R2.n+R3.n)
  (hc0:P.cellsOf f0.type=R0.n) (hc1:P.cellsOf f1.type=R1.n) (hc2:P.cellsOf f2.type=R2.n) (hc3:P.cellsOf f3.type=R3.n) (hc4:P.cellsOf f4.type=R4.n) (hc:P.cellsOf t=R0.n+(R1.n+(R2.n+(R3.n+R4.n))))
  (h0:Wc P f0.type R0) (h1:Wc P f1.type R1) (h2:Wc P f2.type R2) (h3:Wc P f3.type R3) (h4:Wc P f4.type R4):Wc P t (R0.prod (R1.prod (R2.prod (R3.prod R4)))):=by
 intro H enc W spare held fuel cs y h
 obtain⟨xs,n,_,_,hl,hxl,hg⟩:=DataW.trod_struct hs h
 subst hfs
 have e0:=hg 0 f0 rfl
 have e1:=hg 1 f1 rfl
 have e2:=hg 2 f2 rfl
 have e3:=hg 3 f3 rfl
 have e4:=hg 4 f4 rfl
 rw[h00,hc0,List.drop_zero]at e0
 rw[h01,hc1]at e1
 rw[h02,hc2]at e2
 rw[h03,hc3]at e3
 rw[h04,hc4]at e4
 have hn:xs.length=5:=hxl
 have hx0:xs[0]?=some (xs[0]'(by omega)):=List.getElem?_eq_getElem (by omega)
 have hx1:xs[1]?=some (xs[1]'(by omega)):=List.getElem?_eq_getElem (by omega)
 have hx2:xs[2]?=some (xs[2]'(by omega)):=List.getElem?_eq_getElem (by omega)
 have hx3:xs[3]?=some (xs[3]'(by omega)):=List.getElem?_eq_getElem (by omega)
 have hx4:xs[4]?=some (xs[4]'(by omega)):=List.getElem?_eq_getElem (by omega)
 obtain⟨x0,k0⟩:=h0 H enc W spare held n _ _ (e0.trans hx0)
 obtain⟨x1,k1⟩:=h1 H enc W spare held n _ _ (e1.trans hx1)
 obtain⟨x2,k2⟩:=h2 H enc W spare held n _ _ (e2.trans hx2)
 obtain⟨x3,k3⟩:=h3 H enc W spare held n _ _ (e3.trans hx3)
 obtain⟨x4,k4⟩:=h4 H enc W spare held n _ _ (e4.trans hx4)
 refine⟨(x0,x1,x2,x3,x4),cs.take R0.n,cs.drop R0.n,(List.take_append_drop _ _).symm,k0,(cs.drop R0.n).take R1.n,(cs.drop R0.n).drop R1.n,(List.take_append_drop _ _).symm,k1,
  ((cs.drop R0.n).drop R1.n).take R2.n,((cs.drop R0.n).drop R1.n).drop R2.n,(List.take_append_drop _ _).symm,?_,(((cs.drop R0.n).drop R1.n).drop R2.n).take R3.n,(((cs.drop R0.n).drop R1.n).drop R2.n).drop R3.n,(List.take_append_drop _ _).symm,?_,?_⟩
 ·rw[List.drop_drop];exact k2
 ·rw[List.drop_drop,List.drop_drop,show R0.n+(R1.n+R2.n)=R0.n+R1.n+R2.n from by omega];exact k3
 ·rw[List.drop_drop,List.drop_drop,List.drop_drop,show R0.n+(R1.n+(R2.n+R3.n))=R0.n+R1.n+R2.n+R3.n from by omega]
  rw[List.take_of_length_le (i:=R4.n) (by rw[List.length_drop];omega)]at k4
  exact k4
abbrev RE:Rep (Bool × Nat × Nat × List UInt8 × List UInt8):=Rep.bool.prod (Rep.u64.prod (Rep.u64.prod (Rep.str.prod Rep.str)))
end Go.Pl
end
section
open Go.RowKit Go.Pl
namespace Go.Proofs.YtchlgagdbflkmaaGreatDoor
theorem Rj:Wc Tryz.prog 39 RE:=
 IP Tryz.underlying39 rfl rfl rfl rfl rfl rfl (by kernel_rfl) (by kernel_rfl) (by kernel_rfl) (by kernel_rfl) (by kernel_rfl) (by kernel_rfl) (XO Tryz.underlying4) (Wz Tryz.underlying31) (Wz Tryz.underlying31) (KR Tryz.underlying9) (KR Tryz.underlying9)
end Go.Proofs.YtchlgagdbflkmaaGreatDoor
end
section
open Go.RowKit Go.Pl Go.Av
namespace Go.Proofs.YtchlgagdbflkmaaGreatDoor
set_option maxHeartbeats 4000000
abbrev eqE (a b:EidV):Bool:=a.i==b.i&&((a.n:Int)==(b.n:Int)&&((a.s:Int)==(b.s:Int)&&(a.h==b.h&&(a.d==b.d&&true))))
theorem HZ:ToE RE (fun x=>.agg [.bool x.1,.int .u64 (x.2.1:Int),.int .u64 (x.2.2.1:Int),.str x.2.2.2.1,.str x.2.2.2.2]):=
 ToE.bool.prod (ToE.u64.prod (ToE.u64.prod (ToE.str.prod ToE.str)))
abbrev XE:=Bool × Nat × Nat × List UInt8 × List UInt8
def XE.v (x:XE):EidV:=⟨x.1,x.2.1,x.2.2.1,x.2.2.2.1,x.2.2.2.2⟩
end Go.Proofs.YtchlgagdbflkmaaGreatDoor
end
section
open Go.RowKit Go.Pl
namespace Go.Av
section
variable {P:Program} {Q:X->St->Prop} {n:Nat} {ee:Nat × Nat} {tm tm':List (Nat × D)} {bx bx':List (List D)} {fr fr':List Fr} {b0:Bs} {g:G} {w:World} {a:Act} {T:Tab}
variable {ops:Array Oper} {rest:List Oper} {t ty:Nat} {pos:String} {after:Array Edge}
def Bc (P:Program)(t:TypeId):Option (List Value):=match P.info? t with
 | some i=>match i.zero with
  | some (.agg cs)=>some cs.toList
  | _=>none
 | none=>none
theorem R5 [Known][Dfr](hT:chk P T=true){x:Operand}{xt at_:TypeId}{d:D}{ti:Ti}{fs:List Fd}(hx:ev tm x=.iface at_ d)(ht:tl T at_=some ti)(hk:ti.kd=.struct fs)(htd:Nat.blt t n=true)
  (k:AL P ops rest ⟨n,(t,.tup [d,.bool true])::tm,bx,fr,ee⟩ Q):AL P ops (⟨some t,.typeAssert x xt at_ true,ty,pos,after,none⟩::rest) ⟨n,tm,bx,fr,ee⟩ Q:=
 ZX _ htd (fun g a w hi=>by
  have h1:V w g fr (ev tm x) (a.eval x):=hi.ev x
  rw[hx]at h1
  obtain⟨fields,hu,_⟩:=(ZP hT ht).struct hk
  generalize hv:a.eval x=v at h1
  cases h1 with
  | iface _ _ u hu'=>
   refine⟨.tuple #[u,.bool true],?_,.tup _ [u,.bool true] rfl fun j d' v' hd' hv'=>?_⟩
   ·simp[execOp,hv,Instr.typeAssert,Sem.run_bind,run_underlying hu]
   ·match j with
    | 0=>simp at hd' hv';subst hd' hv';exact hu'
    | 1=>simp at hd' hv';subst hd' hv';exact .bool true
    | j+2=>simp at hd') k
theorem R6 [Known][Dfr](hT:chk P T=true){x:Operand}{xt at_:TypeId}{cs:List Value}{ti:Ti}{fs:List Fd}(hx:ev tm x=.nili)(ht:tl T at_=some ti)(hk:ti.kd=.struct fs)(hz:Bc P at_=some cs)(htd:Nat.blt t n=true)
  (k:AL P ops rest ⟨n,(t,.tup [.agg (cs.map U5),.bool false])::tm,bx,fr,ee⟩ Q):AL P ops (⟨some t,.typeAssert x xt at_ true,ty,pos,after,none⟩::rest) ⟨n,tm,bx,fr,ee⟩ Q:=
 ZX _ htd (fun g a w hi=>by
  have h1:V w g fr (ev tm x) (a.eval x):=hi.ev x
  rw[hx]at h1
  obtain⟨fields,hu,_⟩:=(ZP hT ht).struct hk
  generalize hv:a.eval x=v at h1
  have hzv:(zeroValue at_).run P w=.ok (.agg cs.toArray) w:=by
   unfold Bc at hz
   cases hi':P.info? at_ with
   | none=>simp[hi']at hz
   | some i=>
    simp only[hi']at hz
    cases hz':i.zero with
    | none=>simp[hz']at hz
    | some z=>
     simp only[hz']at hz
     cases z with
     | agg c=>simp at hz;subst hz;simp[zeroValue,typeInfo,Sem.run_bind,hi',hz']
     | _=>simp at hz
  cases h1 with
  | nili=>
   refine⟨.tuple #[.agg cs.toArray,.bool false],?_,.tup _ [.agg cs.toArray,.bool false] rfl fun j d' v' hd' hv'=>?_⟩
   ·simp[execOp,hv,Instr.typeAssert,Sem.run_bind,run_underlying hu,hzv]
   ·match j with
    | 0=>
     simp at hd' hv';subst hd' hv'
     refine .agg _ cs (by simp) fun j d v hd hv=>?_
     rw[List.getElem?_map,hv]at hd
     simp at hd
     exact hd ▸ Uj _ _ _ v
    | 1=>simp at hd' hv';subst hd' hv';exact .bool false
    | j+2=>simp at hd') k
theorem R7 {o:Oper}{K K':Act->World->Prop}{R R':Exit->Act->World->Prop}{r:Result Next}(h:o.upon P a K R r)(hK:∀ a w,K a w->K' a w)(hR:∀ c w,R (.panic c) a w->R' (.panic c) a w)(hL:LetsOut R->False):o.upon P a K' R' r:=by
 cases r with
 | ok nx w'=>
  cases nx<;>simp only[Oper.upon]at h ⊢
  case value v=>exact hK _ _ h
  case skip=>exact hK _ _ h
  case defer d=>exact hK _ _ h
  case enter f args=>
   refine Calls.mono h (fun e w'' he=>?_)
   cases e with
   | returned u=>exact hK _ _ he
   | panicked c=>exact hR _ _ he
   | outgrown=>exact(hL he).elim
  case row row args=>exact Rows.mono h fun u w'' he=>hK _ _ he
 | halt x w'=>
  cases x<;>simp only[Oper.upon]at h ⊢
  case panic u=>exact hR _ _ h
theorem Jr {ops:Array Oper}{cs:List Frame}{R:Exit->Act->World->Prop}{Q':Exit->Act->List Frame->World->Prop}(hR:∀ e a w,R e a w->Q' e a cs w)(hL:LetsOut R->False) :
  ∀(l:List Oper) (k:Nat) (a:Act) (w:World),(∀ j,l[j]?=ops[k+j]?)->wpList P ops R l a w->wpOpsS P ops Q' (List.range' k l.length) a cs w
 | [],k,a,w,_,h=>by
  simp only[List.length_nil,List.range'_zero,wpOpsS]
  exact hR _ _ _ h
 | o::l,k,a,w,hl,h=>by
  have h0:ops[k]?=some o:=by simpa using(hl 0).symm
  have ih:=fun a w=>Jr hR hL l (k+1) a w (fun j=>by have:=hl (j+1);simpa[Nat.add_assoc,Nat.add_comm 1 j]using this)
  rw[List.length_cons,List.range'_succ]
  simp only[wpOpsS,h0]
  unfold wpList at h
  by_cases hw:Region.wanted o (yielded ops a.tmps)=true
  ·rw[if_pos hw]at h
   rw[if_pos hw]
   rcases h with h|⟨_,hlo⟩
   ·unfold Oper.wp at h
    split
    ·rename_i w' hr
     rw[hr]at h
     exact h.elim
    ·exact R7 h (fun a w h=>ih a w h) (fun c w h=>hR _ _ _ h) hL
   ·exact(hL hlo).elim
  ·rw[if_neg hw]at h
   rw[if_neg hw]
   exact ih _ _ h
end
theorem K7 [Known]{n:Nat}{args:List D}{bx:List (List D)}{fr:List Fr}{g:G}{w:World}{vs:List Value}(hle:args.length<=n)(hm:Mem g bx fr w)(hlen:vs.length=args.length)(hv:∀(j:Nat) (d:D) (v:Value),args[j]?=some d->vs[j]?=some v->V w g fr d v) :
  Inv ⟨g,fr,w⟩ ⟨n,Ve 0 args,bx,fr,(bx.length,fr.length)⟩ g { tmps:=vs.toArray++Array.replicate (n-vs.toArray.size) undef,defers:=[] } w:=by
 refine⟨by simp;omega,rfl,hm,fun t=>?_,Evo.refl _,by rw[hm.bl];exact Nat.le_refl _,Nat.le_refl _⟩
 rw[V6]
 simp only[Nat.zero_le,if_true,Nat.sub_zero]
 cases ht:args[t]? with
 | none=>exact .junk _
 | some d=>
  have hlt:t<args.length:=(List.getElem?_eq_some_iff.1 ht).1
  refine hv t d _ ht ?_
  have hlt2:t<vs.length:=by omega
  simp[Array.getD_getElem?,Array.getElem?_append,hlt2]
theorem Rk [Known]{P:Program}{f:FuncId}{fn:Func}{id n t0:Nat}{o0:Oper}{l:List Oper}{y:Code}{args:List D}{bx:List (List D)}{fr:List Fr}{u u':FrameMode}{dv:D}{post:St->Prop}
  (hf:P.funcs[f]?=some fn) (hb:fn.body=some ((Code.region id (o0::l).toArray false).seq y)) (hn:fn.ntmps=n) (hr:fn.results = #[]) (hl:Nat.ble args.length n=true) (ht:Nat.blt t0 n=true)
  (ho:o0.dst=some t0) (hg:o0.guard=none) {w:World} (hop:∀ ρ,(execOp ρ o0).run P w=.ok .recover w) {g:G} {vs:List Value} (hm:Mem g bx fr w) (hlen:vs.length=args.length) (hv:∀(j:Nat) (d:D) (v:Value),args[j]?=some d->vs[j]?=some v->V w g fr d v)
  (hrec:∀(c₀:Frame) (cs:List Frame),c₀.mode=u->match recoverD (c₀::cs) with
   | some (v,cs')=>V w g fr dv v/\cs' = { c₀ with mode:=u' }::cs
   | none=>dv=.nili/\u'=u)
  (h1:AL P (o0::l).toArray l ⟨n,(t0,dv)::Ve 0 args,bx,fr,(bx.length,fr.length)⟩ (fun x S=>x=.norm/\AW P y S (fun x S=>x=.norm/\post S))) :
  CallsD P f vs.toArray u w fun e u2 w'=>(∃ v,e=.returned v)/\u2=u'/\∃ S g',Mem g' S.bx S.fr w'/\Evo ⟨g,fr,w⟩ ⟨g',S.fr,w'⟩/\post S:=by
 refine callsD_of_wpS hf hb fun c₀ cs hc=>?_
 refine wpS_seq (wpS_region ?_)
 have hi0:=K7 (Nat.le_of_ble_eq_true hl) hm hlen hv
 rw[hn]
 generalize ha:({ tmps:=vs.toArray++Array.replicate (n-vs.toArray.size) undef,defers:=[] }:Act)=a at hi0
 obtain⟨v0,cs1,hcs1,hV0,hstep⟩:∃(v0:Value) (cs1:List Frame),cs1 = { c₀ with mode:=u' }::cs/\V w g fr dv v0/\∀ Q',wpOpsS P (o0::l).toArray Q' (List.range' 1 l.length) (a.put o0.dst v0) cs1 w->wpOpsS P (o0::l).toArray Q' (List.range (o0::l).toArray.size) a (c₀::cs) w:=by
  have h0:((o0::l).toArray)[0]?=some o0:=by simp
  have hw:Region.wanted o0 (yielded (o0::l).toArray a.tmps)=true:=by simp[Region.wanted,hg]
  have hsz:List.range (o0::l).toArray.size=0::List.range' 1 l.length:=by
   rw[List.range_eq_range'];simp[List.range'_succ]
  have hre:=hrec c₀ cs hc
  cases hrd:recoverD (c₀::cs) with
  | none=>
   rw[hrd]at hre
   obtain⟨rfl,rfl⟩:=hre
   refine⟨.nilIface,c₀::cs,by subst hc;rfl,.nili,fun Q' h=>?_⟩
   rw[hsz]
   simp only[wpOpsS,h0,if_pos hw,hop,hrd]
   exact h
  | some y=>
   obtain⟨v,cs'⟩:=y
   rw[hrd]at hre
   refine⟨v,cs',hre.2,hre.1,fun Q' h=>?_⟩
   rw[hsz]
   simp only[wpOpsS,h0,if_pos hw,hop,hrd]
   exact h
 refine hstep _ ?_
 have hi1:Inv ⟨g,fr,w⟩ ⟨n,(t0,dv)::Ve 0 args,bx,fr,(bx.length,fr.length)⟩ g (a.put o0.dst v0) w:=by
  rw[ho];exact hi0.put ht hV0
 refine Jr (R:=Wk ⟨g,fr,w⟩ (fun x S=>x=.norm/\AW P y S (fun x S=>x=.norm/\post S))) (fun e a' w' h=>?_) (fun⟨_,_,h⟩=>h) l 1 _ _ (fun j=>by simp[Nat.add_comm 1 j]) (h1.run _ _ _ _ hi1)
 cases e with
 | normal=>
  obtain⟨S,g',hi,_,hy⟩:=h
  refine wpS_of_wp ?_
  refine wp_mono (hy.run _ _ _ _ hi) fun e a2 w2 hc2=>?_
  cases e with
  | normal=>
   obtain⟨S2,g2,hi2,_,hp⟩:=hc2
   refine⟨hi2.defers,u',hcs1,.tuple #[],by simp[results,hr,Sem.run_bind],⟨_,rfl⟩,rfl,S2,g2,hi2.mem,hi2.evo,hp⟩
  | panic c=>obtain⟨_,_,_,_,_,_,_,h,_⟩:=hc2;cases h
  | ret=>obtain⟨_,_,_,h,_⟩:=hc2;cases h
  | exit i=>obtain⟨_,_,_,h,_⟩:=hc2;cases h
  | goto i=>obtain⟨_,_,_,h,_⟩:=hc2;cases h
  | outgrown=>exact hc2.elim
 | panic c=>obtain⟨_,_,_,_,_,_,_,h,_⟩:=h;cases h
 | ret=>obtain⟨_,_,_,h,_⟩:=h;cases h
 | exit i=>obtain⟨_,_,_,h,_⟩:=h;cases h
 | goto i=>obtain⟨_,_,_,h,_⟩:=h;cases h
 | outgrown=>exact h.elim
theorem TE [Known]{P:Program}{R:Exit->Act->World->Prop}{id t fd:Nat}{caps:Array Operand}{ds:List D}{ats:Array TypeId}{ty1 ty2:Nat}{pos1 pos2:String}{af1 af2:Array Edge}{n:Nat}{ee:Nat × Nat}{tm:List (Nat × D)}{bx:List (List D)}{fr:List Fr}{b0:Bs}{g:G}{a:Act}{w:World}{y:Code}
  (hi:Inv b0 ⟨n,tm,bx,fr,ee⟩ g a w) (hds:caps.toList.map (ev tm)=ds) (htd:Nat.blt t n=true)
  (k:∀(cvs:List Value) (a':Act),cvs.length=ds.length->(∀(j:Nat) (d:D) (v:Value),ds[j]?=some d->cvs[j]?=some v->V w g fr d v) ->
   @Inv _ ⟨[{ target:=.fn (.func fd) cvs.toArray,args := #[] }]⟩ b0 ⟨n,(t,.fn fd ds)::tm,bx,fr,ee⟩ g a' w->y.wp P R a' w) :
  ((Code.region id #[⟨some t,.makeFunc (.func fd) #[] caps,ty1,pos1,af1,none⟩,⟨none,.defer { callee:=.value (.tmp t),args := #[],argTypes:=ats },ty2,pos2,af2,none⟩] false).seq y).wp P R a w:=by
 refine wp_seq ?_
 have hcv:=evs hi caps
 generalize hcvs:caps.toList.map a.eval=cvs at hcv
 have hce:caps.map a.eval=cvs.toArray:=by rw[<- hcvs,<- Array.toList_map,Array.toArray_toList]
 have hV:V w g fr (.fn fd ds) (.func (.func fd) #[] cvs.toArray):=.fn fd ds cvs (by rw[<- hds,<- hcvs];simp) (by rw[<- hds];exact hcv)
 have hi1:=hi.put htd hV
 have hlt:t<a.tmps.size:=by rw[hi.size];simpa using htd
 have e1:(execOp a.eval ⟨some t,.makeFunc (.func fd) #[] caps,ty1,pos1,af1,none⟩).run P w=.ok (.value (.func (.func fd) #[] cvs.toArray)) w:=by
  simp[execOp,hce,Instr.makeFunc,Sem.run_bind]
 have e2:(execOp (a.put (some t) (.func (.func fd) #[] cvs.toArray)).eval ⟨none,.defer { callee:=.value (.tmp t),args := #[],argTypes:=ats },ty2,pos2,af2,none⟩).run P w=.ok (.defer { target:=.fn (.func fd) cvs.toArray,args := #[] }) w:=by
  simp[execOp,resolve,Act.eval,Act.put,hlt,Deferred.ofValue,Sem.run_bind]
 refine wp_region_lit ?_
 unfold wpList
 rw[if_pos (by simp[Region.wanted])]
 refine .inl ?_
 unfold Oper.wp
 rw[e1]
 show wpList _ _ _ _ _ _
 unfold wpList
 rw[if_pos (by simp[Region.wanted])]
 refine .inl ?_
 unfold Oper.wp
 rw[e2]
 rw[Oper.upon_defer]
 refine k cvs _ (by rw[<- hds,<- hcvs];simp) (by rw[<- hds];exact hcv) ?_
 refine @Inv.mk _ ⟨[{ target:=.fn (.func fd) cvs.toArray,args := #[] }]⟩ _ _ _ _ _ ?_ ?_ hi1.mem (fun t'=>?_) hi1.evo hi1.bd
 ·have:=hi1.size;simpa[Act.put]using this
 ·have:=hi1.defers
  simp only[Act.put]at this ⊢
  rw[this];rfl
 ·have:=hi1.tm t';simpa[Act.put]using this
theorem Inv.parts [Known][Dfr]{b:Bs}{S:St}{g:G}{a:Act}{w:World}(h:Inv b S g a w):a.tmps.size=S.n/\Mem g S.bx S.fr w/\(∀ t,V w g S.fr (look S.tm t) (a.tmps.getD t undef))/\Evo b ⟨g,S.fr,w⟩:=⟨h.size,h.mem,h.tm,h.evo⟩
theorem X2 [Known]{P:Program}{fn:Func}{rs:List ResultVar}(hr:fn.results=rs.toArray){b:Bs}(hbρ:b.g.ρ=[])(hbf:b.fr=[]){S:St}{g:G}{a:Act}{w:World}{d:Deferred}(hi : @Inv _ ⟨[d]⟩ b S g a w){bs:List Nat}(hbs:YM bs S.bx.length)
  {fd:FuncId} {cvs:List Value} (hd:d = { target:=.fn (.func fd) cvs.toArray,args := #[] }) (hfd:QP P fd=true) {args:List D} (hlen:cvs.length=args.length) (hV:∀(j:Nat) (d:D) (v:Value),args[j]?=some d->cvs[j]?=some v->V w g S.fr d v)
  {u u':FrameMode} (hu:u ≠ .run) (hset:settle u'=.returning) {bxs bxs':List (List D)} (hsel:VM bs [] S.bx=bxs)
  (hC:∀(g:G) (w:World) (vs:List Value),Mem g bxs [] w->vs.length=(args.map (D.ren (idx bs) (idx []))).length->(∀(j:Nat) (d:D) (v:Value),(args.map (D.ren (idx bs) (idx [])))[j]?=some d->vs[j]?=some v->V w g [] d v) ->
   CallsD P fd vs.toArray u w fun e u2 w'=>(∃ v,e=.returned v)/\u2=u'/\∃ g',Mem g' bxs' [] w'/\Evo ⟨g,[],w⟩ ⟨g',[],w'⟩)
  {tmR:List (Nat × D)} (htm:∀ t,V w (g.sel bs []) [] (look tmR t) (a.tmps.getD t undef)) {ds:List D} (hres:ResL P ⟨S.n,tmR,bxs',[],(0,0)⟩ rs ds) {R:Ending->World->Prop}
  (hR:∀ g' w' v,Evo b ⟨g',[],w'⟩->Mem g' [] [] w'->V w' g' [] ((XS ds).ren (idx []) (idx [])) v->R (.returned v) w'):Leaves P fn a.tmps R [d] u w:=by
 subst hd
 obtain⟨isz,hm,itm,iev⟩:=@Inv.parts _ ⟨[{ target:=.fn (.func fd) cvs.toArray,args := #[] }]⟩ b S g a w hi
 refine leaves_cons (f:=fd) (args:=cvs.toArray) hu (by
  have:=Vm hfd cvs.toArray w
  simpa[invoke]using this) ?_
 have hms:=hm.sel hbs (ZH _)
 rw[hsel]at hms
 have hsF:VN [] S.fr=[]:=rfl
 rw[hsF]at hms
 refine(hC (g.sel bs []) w cvs hms (by simpa using hlen) (fun j d v hd hv=>?_)).mono fun e u2 w' ⟨⟨v,he⟩,hu2,g',hm',hev⟩=>?_
 ·rw[List.getElem?_map]at hd
  cases hj:args[j]? with
  | none=>simp[hj]at hd
  | some d0=>
   simp[hj]at hd;subst hd
   have:=(hV j d0 v hj hv).sel hm hbs (ZH _)
   rw[hsF]at this;exact this
 ·subst he hu2
  show Leaves P fn a.tmps R [] (settle u2) w'
  rw[hset]
  have hevS:Evo b ⟨g.sel bs [],[],w⟩:=by
   have:=iev.sel hm hbs (ZH _) (fun i hi=>by rw[hbρ]at hi;simp at hi) (fun i hi=>by rw[hbf]at hi;simp at hi)
   rw[hsF]at this;exact this
  have hinv : @Inv _ ⟨a.defers⟩ b ⟨S.n,tmR,bxs',[],(0,0)⟩ g' a w':=@Inv.mk _ ⟨a.defers⟩ _ _ _ _ _ isz rfl hm' (fun t=>(htm t).evo hev) (hevS.trans hev) ⟨by rw[hbρ];simp,by rw[hbf];simp⟩
  obtain⟨v,hrun,hv⟩:=@V7 _ ⟨a.defers⟩ _ _ _ _ _ _ hinv _ _ hr _ hres
  refine⟨v,hrun,hR (g'.sel [] []) w' v ?_ ?_ ?_⟩
  ·have:=(hevS.trans hev).sel hm' (ZH bxs'.length) (ZH _) (fun i hi=>by rw[hbρ]at hi;simp at hi) (fun i hi=>by rw[hbf]at hi;simp at hi)
   exact this
  ·exact hm'.sel (ZH _) (ZH _)
  ·exact hv.sel hm' (ZH _) (ZH _)
theorem TF [Known][Dfr]{P:Program}{Q:X->St->Prop}{n:Nat}{ee:Nat × Nat}{tm:List (Nat × D)}{bx:List (List D)}{fr:List Fr}{ops:Array Oper}{rest:List Oper}{ty:Nat}{pos:String}{after:Array Edge}{f:FuncId}{ars:Array Operand}{ats:Array TypeId}{t:Option Nat}{cds:List D}{p p':D}{bxs:List (List D)}(bs:List Nat)(hX:AX P f cds bxs p)(hf:QP P f=true)
  (hc:D.wks ((ars.toList.map (ev tm)).map (D.ren (idx bs) (idx [])))=cds) (hb:WQ bs bx.length=true) (hbx:VM bs [] bx=bxs) (hle:Nat.ble bs.length bxs.length=true) (htd:(match t with|some t=>Nat.blt t n|none=>true)=true) (hp:nf (p.ren (upN bs bx.length) (upN [] fr.length))=some p')
  (k:∀ bx2 fr2,bxs.length<=bx2.length->Q (.pan p') ⟨n,tm,U6 bs [] bx fr.length bx2,fr2,ee⟩):AL P ops (⟨t,.call { callee:=.value (.func f),args:=ars,argTypes:=ats },ty,pos,after,none⟩::rest) ⟨n,tm,bx,fr,ee⟩ Q:=by
 refine QB bs [] hf (AC.unwk (hc ▸ hX)) rfl (Yw hb) (ZH _) hbx rfl htd (fun d bx' fr' h=>?_) fun d0 bx' fr' h=>by cases h.1
 obtain⟨h1,h2⟩:=h
 injection h1 with h1
 subst h1
 have hle:=Nat.le_of_ble_eq_true hle
 refine⟨by omega,?_⟩
 have e:=YA hp
 subst e
 exact k _ _ h2
theorem K8 [Known][Dfr]{P:Program}{x y:Code}{S:St}{R:Exit->Act->World->Prop}{b0:Bs}{g:G}{a:Act}{w:World}(n:Nat)(tm:List (Nat × D))(bx:List (List D))(fr:List Fr)(ee:Nat × Nat)(hi:Inv b0 S g a w)
  (h:AW P x S (fun X S'=>X=.norm/\S'.n=n/\S'.bx=bx/\S'.fr=fr/\S'.e=ee/\Sub S'.tm tm)) (k:∀ g a w,Inv b0 ⟨n,tm,bx,fr,ee⟩ g a w->y.wp P R a w):(x.seq y).wp P R a w:=by
 refine wp_seq (wp_mono (h.run _ _ _ _ hi) fun e a' w' hc=>?_)
 cases e with
 | normal=>
  obtain⟨⟨n',tm',bx',fr',ee'⟩,g',hi',_,h1,h2,h3,h4,h5⟩:=hc
  dsimp only at h1 h2 h3 h4 h5
  subst h1 h2 h3 h4
  exact k _ _ _ (hi'.sub h5)
 | panic c=>obtain⟨_,_,_,_,_,_,_,h,_⟩:=hc;cases h
 | ret=>obtain⟨_,_,_,h,_⟩:=hc;cases h
 | exit i=>obtain⟨_,_,_,h,_⟩:=hc;cases h
 | goto i=>obtain⟨_,_,_,h,_⟩:=hc;cases h
 | outgrown=>exact hc.elim
theorem Inv.dl [Known][Dfr]{b:Bs}{S:St}{g:G}{a:Act}{w:World}(h:Inv b S g a w):a.defers=Dfr.l:=h.defers
theorem Inv.rebase [Known][Dfr]{b:Bs}{n:Nat}{tm:List (Nat × D)}{bx:List (List D)}{fr:List Fr}{ee:Nat × Nat}{g:G}{a:Act}{w:World}(h:Inv b ⟨n,tm,bx,fr,ee⟩ g a w)(p q:Nat)(hp:bx.length=p)(hq:fr.length=q):Inv ⟨g,fr,w⟩ ⟨n,tm,bx,fr,(p,q)⟩ g a w:=
 ⟨h.size,h.defers,h.mem,h.tm,Evo.refl _,by show g.ρ.length<=p;rw[h.mem.bl];exact Nat.le_of_eq hp,Nat.le_of_eq hq⟩
theorem Inv.base [Known][Dfr]{b b1:Bs}{S:St}{g:G}{a:Act}{w:World}(h:Inv b1 S g a w)(he:Evo b b1)(hρ:b.g.ρ=[])(hf:b.fr=[]):Inv b S g a w:=
 ⟨h.size,h.defers,h.mem,h.tm,he.trans h.evo,by rw[hρ];simp,by rw[hf];simp⟩
theorem H0 [Known]{P:Program}{c:Code}{S:St}{Q:X->St->Prop}{b:Bs}{g:G}{a:Act}{w:World}{R:Exit->Act->World->Prop}(df:List Deferred)(h : @AW _ ⟨df⟩ P c S Q)(hi : @Inv _ ⟨df⟩ b S g a w)
  (k1:∀ S g a w,@Inv _ ⟨df⟩ b S g a w->a.defers=df->Q .ret S->R .ret a w) (k2:∀ S g a w v d,@Inv _ ⟨df⟩ b S g a w->a.defers=df->V w g S.fr d v->Q (.pan d) S->R (.panic [{ v,recovered:=false }]) a w)
  (k3:∀ S,Q .norm S->False) (k4:∀ S i,Q (.exit i) S->False) (k5:∀ S i,Q (.goto i) S->False):c.wp P R a w:=by
 refine wp_mono (@AW.run _ ⟨df⟩ P c S Q h b g a w hi) fun e a' w' hc=>?_
 cases e with
 | normal=>obtain⟨S',g',hi',h⟩:=hc;exact(k3 _ h).elim
 | ret=>obtain⟨S',g',hi',h⟩:=hc;exact k1 _ _ _ _ hi' (@Inv.dl _ ⟨df⟩ _ _ _ _ _ hi') h
 | exit i=>obtain⟨S',g',hi',h⟩:=hc;exact(k4 _ _ h).elim
 | goto i=>obtain⟨S',g',hi',h⟩:=hc;exact(k5 _ _ h).elim
 | panic c=>obtain⟨S',g',v,d,hi',rfl,hv,h⟩:=hc;exact k2 _ _ _ _ v d hi' (@Inv.dl _ ⟨df⟩ _ _ _ _ _ hi') hv h
 | outgrown=>exact hc.elim
end Go.Av
end
section
open Go.RowKit Go.Pl Go.Av
namespace Go.Proofs.YtchlgagdbflkmaaGreatDoor
set_option maxHeartbeats 4000000
structure RqV where
 id:Nat
 kd:Int
 ep:EidV
 ds:EidV
 pol:Int
 num:Int
 tik:Int
 pay:List UInt8
 life:Nat
 tok:Nat
 on:Bool
abbrev rqC (x:RqV):List D:=[.int .u64 (x.id:Int),.int .i64 x.kd,.bool x.ep.i,.int .u64 (x.ep.n:Int),.int .u64 (x.ep.s:Int),.str x.ep.h,.str x.ep.d,.bool x.ds.i,.int .u64 (x.ds.n:Int),.int .u64 (x.ds.s:Int),.str x.ds.h,.str x.ds.d,.int .i64 x.pol,.int .i64 x.num,.int .i64 x.tik,byE x.pay,.int .u64 (x.life:Int),.int .u64 (x.tok:Int),.bool x.on]
def O5 (x:EidV):Bool:=Ys x && !(isZ x)
theorem K9 [Known](x:EidV):AP Tryz.prog 139 [.agg (eC x)] (.bool (O5 x)) []:=by
 have hR:=Vi x
 unfold O5
 cases hr:Ys x with
 | false=>
  rw[hr]at hR
  refine AP.ofA (Zl Tryz.func139 Z Tryz.ntmps139 Z Z ?_)
  repeat'(first|(apply Zb (hR);kernel_rfl;(iterate 4 exact Z))|(apply Zg Za;exact Z)|(apply Zh Za;exact Z)|(apply Zr;(iterate 3 exact Z);(first|with_reducible assumption|decide +kernel|(solve|simp only[bn])))|(apply Zi;exact Z;(first|with_reducible assumption|decide +kernel|(solve|simp only[bn]));exact Z;exact Z))
  all_goals exact Qe
 | true=>
  rw[hr]at hR
  refine AP.ofA (Zl Tryz.func139 Z Tryz.ntmps139 Z Z ?_)
  repeat'(first|(apply Zb (hR);kernel_rfl;(iterate 4 exact Z))|(apply Zg Za;exact Z)|(apply Zh Za;exact Z)|(apply Zd;(iterate 3 exact Z);(first|with_reducible assumption|decide +kernel|(solve|simp only[bn])))|(apply Zj;exact Z;(first|with_reducible assumption|decide +kernel|(solve|simp only[bn]));exact Z;exact Z)|refine UG Za Z Z Z Z Qk Qk Z Z Z ?_)
  all_goals exact Qe
def JU (a b:RqV):Bool:=((a.id:Int)==(b.id:Int))&&((a.kd==b.kd)&&(eqE a.ep b.ep&&(eqE a.ds b.ds&&((a.pol==b.pol)&&((a.num==b.num)&&((a.tik==b.tik)&&((a.pay==b.pay)&&(((a.life:Int)==(b.life:Int))&&(((a.tok:Int)==(b.tok:Int))&&(a.on==b.on))))))))))
theorem Oa [Known](a b:RqV):AP Tryz.prog 84 [.agg (rqC a),.agg (rqC b)] (.bool (JU a b)) []:=by
 have hB:=Q4 a.pay b.pay
 unfold JU eqE
 refine AP.ofA (Zl Tryz.func84 Z Tryz.ntmps84 Z Z ?_)
 repeat'(first|(apply Zb (hB);kernel_rfl;(iterate 4 exact Z))|(apply Zg Za;exact Z)|(apply Zh Za;exact Z)|(apply Zd;(iterate 3 exact Z);(first|with_reducible assumption|(solve|simp only[bn])))|(apply Zr;(iterate 3 exact Z);(first|with_reducible assumption|(solve|simp only[bn])))|(apply Ym;exact Z;exact Z;all_goals intro hb)|(apply Zj;exact Z;(first|with_reducible assumption|(solve|simp only[bn]));exact Z;exact Z)|(apply Zi;exact Z;(first|with_reducible assumption|(solve|simp only[bn]));exact Z;exact Z)|refine UG Za Z Z Z Z Qk Qk Z Z Z ?_)
 all_goals(apply Zt [];(apply Zc Za;exact Z);(iterate 4 exact Z))
 all_goals first|rfl|(simp only[*,Bool.true_and,Bool.false_and];done)
theorem Rl (k:Int):k=1\/k=2\/k=3\/k=4\/k=5\/k=6\/k=7\/k=8\/k=9\/k=10\/k=11\/k=12\/((k==1)=false/\(k==2)=false/\(k==3)=false/\(k==4)=false/\(k==5)=false/\(k==6)=false/\(k==7)=false/\(k==8)=false/\(k==9)=false/\(k==10)=false/\(k==11)=false/\(k==12)=false):=by
 simp only[beq_eq_false_iff_ne];omega
abbrev rqZ (x:RqV):RqV:=⟨x.id,x.kd,Wt,Wt,0,0,0,[],0,0,false⟩
def Ob (x:RqV):RqV:=
 if x.kd==1||x.kd==3 then { rqZ x with ep:=x.ep,pol:=x.pol }
 else if x.kd==2||x.kd==6 then { rqZ x with ep:=x.ep }
 else if x.kd==4 then { rqZ x with ep:=x.ep,ds:=x.ds,pay:=x.pay,life:=x.life,on:=x.on }
 else if x.kd==5||(x.kd==8||x.kd==9) then { rqZ x with num:=x.num }
 else if x.kd==7 then { rqZ x with ep:=x.ep,tik:=x.tik }
 else if x.kd==10 then { rqZ x with on:=x.on }
 else if x.kd==12 then { rqZ x with tok:=x.tok }
 else rqZ x
def Xw (x:RqV):Bool:=
 if x.kd==1||x.kd==3 then O5 x.ep&&(decide (x.pol ≥ 0)&&decide (x.pol<=2))
 else if x.kd==2||x.kd==6 then O5 x.ep
 else if x.kd==4 then O5 x.ep&&(O5 x.ds&&(decide ((x.pay.length:Int)<=200)&&(decide ((x.life:Int) ≥ 1)&&decide ((x.life:Int)<=1099511627776))))
 else if x.kd==5||(x.kd==8||x.kd==9) then decide (x.num ≥ 1)&&decide (x.num<=1099511627776)
 else if x.kd==7 then O5 x.ep&&(decide (x.tik ≥ 1)&&decide (x.tik<=1000))
 else if x.kd==12 then decide ((x.tok:Int) ≥ 1)&&decide ((x.tok:Int)<=2147483648)
 else x.kd==10||x.kd==11
theorem NU [Known](x:RqV):AP Tryz.prog 122 [.agg (rqC x)] (.agg (rqC (Ob x))) []:=by
 obtain⟨id,kd,⟨ei,en,es,eh,ed⟩,⟨di,dn,dq,dh,dd⟩,pol,num,tik,pay,life,tok,on⟩:=x
 show AP Tryz.prog _ [.agg [.int .u64 (id:Int),.int .i64 kd,.bool ei,.int .u64 (en:Int),.int .u64 (es:Int),.str eh,.str ed,.bool di,.int .u64 (dn:Int),.int .u64 (dq:Int),.str dh,.str dd,.int .i64 pol,.int .i64 num,.int .i64 tik,.sl .ext (pay.map E.byte),.int .u64 (life:Int),.int .u64 (tok:Int),.bool on]] _ []
 rcases Rl kd with rfl|rfl|rfl|rfl|rfl|rfl|rfl|rfl|rfl|rfl|rfl|rfl|⟨n1,n2,n3,n4,n5,n6,n7,n8,n9,n10,n11,n12⟩
 all_goals
  refine AP.ofA (Zl Tryz.func122 Z Tryz.ntmps122 Z Z ?_)
  repeat'(first|(apply Zg Za;exact Z)|(apply Zh Za;exact Z)|(apply Zs Za;exact Z)|(apply Ze;exact Z;(first|with_reducible assumption|decide +kernel|(solve|simp only[bn])))|(apply Zf;exact Z;(first|with_reducible assumption|decide +kernel|(solve|simp only[bn])))|(apply Zm 6 ZG;decide +kernel;kernel_rfl;kernel_rfl;kernel_rfl;exact Z;exact Z)|(apply Zm 18 ZG;decide +kernel;kernel_rfl;kernel_rfl;kernel_rfl;exact Z;exact Z)|(apply Zq;(iterate 4 exact Z))|exact AE.nil _ _ _ _|(apply Zv;exact Z)|(apply Vv;exact Z)|(apply ZA;exact Z;exact Z;decide +kernel;exact Z)|(apply ZB;exact Z)|(apply UZ;exact Z)|exact AO.nil _ _ _|(apply Zp;(decide +kernel))|(apply ZZ;(iterate 3 exact Z))|exact AOs.nil|exact ZJ rfl rfl|exact VS rfl)
  all_goals(apply Zt [];(apply Zc Za;exact Z);(iterate 4 exact Z))
  all_goals first|rfl|(unfold Ob;dsimp only;simp only[*];rfl)
theorem GT [Known](x:RqV):AP Tryz.prog 121 [.agg (rqC x)] (.bool (Xw x)) []:=by
 have hN:=K9 x.ep
 have hM:=K9 x.ds
 have hbl:(x.pay.map E.byte).length=x.pay.length:=List.length_map ..
 unfold Xw
 obtain⟨id,kd,⟨ei,en,es,eh,ed⟩,⟨di,dn,dq,dh,dd⟩,pol,num,tik,pay,life,tok,on⟩:=x
 dsimp only at hN hM ⊢
 show AP Tryz.prog _ [.agg [.int .u64 (id:Int),.int .i64 kd,.bool ei,.int .u64 (en:Int),.int .u64 (es:Int),.str eh,.str ed,.bool di,.int .u64 (dn:Int),.int .u64 (dq:Int),.str dh,.str dd,.int .i64 pol,.int .i64 num,.int .i64 tik,.sl .ext (pay.map E.byte),.int .u64 (life:Int),.int .u64 (tok:Int),.bool on]] _ []
 generalize O5 ⟨ei,en,es,eh,ed⟩=bN at *
 generalize O5 ⟨di,dn,dq,dh,dd⟩=bM at *
 rcases Rl kd with rfl|rfl|rfl|rfl|rfl|rfl|rfl|rfl|rfl|rfl|rfl|rfl|⟨n1,n2,n3,n4,n5,n6,n7,n8,n9,n10,n11,n12⟩
 all_goals
  try simp only[n1,n2,n3,n4,n5,n6,n7,n8,n9,n10,n11,n12]
  simp only[Int.reduceBEq,Bool.true_or,Bool.or_true,Bool.or_self,Bool.or_false,Bool.false_or,if_true,if_false,Bool.false_eq_true,hbl]
  refine AP.ofA (Zl Tryz.func121 Z Tryz.ntmps121 Z Z ?_)
  repeat'(first|(apply Zb (hN);kernel_rfl;(iterate 4 exact Z))|(apply Zb (hM);kernel_rfl;(iterate 4 exact Z))|(apply Zg Za;exact Z)|(apply Zh Za;exact Z)|(apply Zs Za;exact Z)|(apply Zd;(iterate 3 exact Z);(first|with_reducible assumption|decide +kernel|(solve|simp only[bn])))|(apply Zr;(iterate 3 exact Z);(first|with_reducible assumption|decide +kernel|(solve|simp only[bn])))|(apply Zo;(iterate 3 exact Z);(first|with_reducible assumption|decide +kernel|(solve|simp only[bn])))|(apply Ym;exact Z;exact Z;all_goals intro hb)|(apply Zj;exact Z;(first|with_reducible assumption|decide +kernel|(solve|simp only[bn]));exact Z;exact Z)|(apply Zi;exact Z;(first|with_reducible assumption|decide +kernel|(solve|simp only[bn]));exact Z;exact Z)|(apply Ze;exact Z;(first|with_reducible assumption|decide +kernel|(solve|simp only[bn])))|(apply Zf;exact Z;(first|with_reducible assumption|decide +kernel|(solve|simp only[bn])))|refine Zn Za Z Z Z Z ?_)
  all_goals(apply Zt [];(apply Zc Za;exact Z);(iterate 4 exact Z))
  all_goals first|rfl|(simp only[*];done)|(simp only[*];rfl)|(clear hN hM;simp_all;done)|(clear hN hM;simp_all;omega)
def Xx (x:RqV):Bool:=decide ((x.id:Int) ≥ 1)&&(decide ((x.id:Int)<=1099511627776)&&(Xw x&&JU x (Ob x)))
theorem GU [Known](x:RqV):AP Tryz.prog 99 [.agg (rqC x)] (.bool (Xx x)) []:=by
 have hP:=GT x
 have hO:=NU x
 have hS:=Oa x (Ob x)
 unfold Xx
 generalize Xw x=bP at *
 generalize JU x (Ob x)=bS at *
 generalize Ob x=y at *
 obtain⟨id,kd,⟨ei,en,es,eh,ed⟩,⟨di,dn,dq,dh,dd⟩,pol,num,tik,pay,life,tok,on⟩:=x
 obtain⟨yid,ykd,⟨yei,yen,yes,yeh,yed⟩,⟨ydi,ydn,ydq,ydh,ydd⟩,ypol,ynum,ytik,ypay,ylife,ytok,yon⟩:=y
 replace hP:AP Tryz.prog _ [.agg [.int .u64 (id:Int),.int .i64 kd,.bool ei,.int .u64 (en:Int),.int .u64 (es:Int),.str eh,.str ed,.bool di,.int .u64 (dn:Int),.int .u64 (dq:Int),.str dh,.str dd,.int .i64 pol,.int .i64 num,.int .i64 tik,.sl .ext (pay.map E.byte),.int .u64 (life:Int),.int .u64 (tok:Int),.bool on]] _ []:=hP
 replace hO:AP Tryz.prog _ [.agg [.int .u64 (id:Int),.int .i64 kd,.bool ei,.int .u64 (en:Int),.int .u64 (es:Int),.str eh,.str ed,.bool di,.int .u64 (dn:Int),.int .u64 (dq:Int),.str dh,.str dd,.int .i64 pol,.int .i64 num,.int .i64 tik,.sl .ext (pay.map E.byte),.int .u64 (life:Int),.int .u64 (tok:Int),.bool on]] (.agg [.int .u64 (yid:Int),.int .i64 ykd,.bool yei,.int .u64 (yen:Int),.int .u64 (yes:Int),.str yeh,.str yed,.bool ydi,.int .u64 (ydn:Int),.int .u64 (ydq:Int),.str ydh,.str ydd,.int .i64 ypol,.int .i64 ynum,.int .i64 ytik,.sl .ext (ypay.map E.byte),.int .u64 (ylife:Int),.int .u64 (ytok:Int),.bool yon]) []:=hO
 replace hS:AP Tryz.prog _ [.agg [.int .u64 (id:Int),.int .i64 kd,.bool ei,.int .u64 (en:Int),.int .u64 (es:Int),.str eh,.str ed,.bool di,.int .u64 (dn:Int),.int .u64 (dq:Int),.str dh,.str dd,.int .i64 pol,.int .i64 num,.int .i64 tik,.sl .ext (pay.map E.byte),.int .u64 (life:Int),.int .u64 (tok:Int),.bool on],.agg [.int .u64 (yid:Int),.int .i64 ykd,.bool yei,.int .u64 (yen:Int),.int .u64 (yes:Int),.str yeh,.str yed,.bool ydi,.int .u64 (ydn:Int),.int .u64 (ydq:Int),.str ydh,.str ydd,.int .i64 ypol,.int .i64 ynum,.int .i64 ytik,.sl .ext (ypay.map E.byte),.int .u64 (ylife:Int),.int .u64 (ytok:Int),.bool yon]] _ []:=hS
 show AP Tryz.prog _ [.agg [.int .u64 (id:Int),.int .i64 kd,.bool ei,.int .u64 (en:Int),.int .u64 (es:Int),.str eh,.str ed,.bool di,.int .u64 (dn:Int),.int .u64 (dq:Int),.str dh,.str dd,.int .i64 pol,.int .i64 num,.int .i64 tik,.sl .ext (pay.map E.byte),.int .u64 (life:Int),.int .u64 (tok:Int),.bool on]] (.bool (decide ((id:Int) ≥ 1)&&(decide ((id:Int)<=1099511627776)&&(bP&&bS)))) []
 cases t1:decide ((id:Int) ≥ 1) with
 | false=>
  refine AP.ofA (Zl Tryz.func99 Z Tryz.ntmps99 Z Z ?_)
  repeat'(first|(apply Zg Za;exact Z)|(apply Zh Za;exact Z)|(apply Zr;(iterate 3 exact Z);(first|with_reducible assumption|decide +kernel|(solve|simp only[bn])))|(apply Zi;exact Z;(first|with_reducible assumption|decide +kernel|(solve|simp only[bn]));exact Z;exact Z)|(apply Zm 16 ZG;decide +kernel;kernel_rfl;kernel_rfl;kernel_rfl;exact Z;exact Z)|(apply Zq;(iterate 4 exact Z))|exact AE.nil _ _ _ _|(apply Zv;exact Z)|(apply ZA;exact Z;exact Z;decide +kernel;exact Z)|(apply ZB;exact Z)|exact AO.nil _ _ _|(apply Zp;(decide +kernel))|exact AOs.nil|exact ZJ rfl rfl)
  all_goals exact Qe
 | true=>
  cases t2:decide ((id:Int)<=1099511627776) with
  | false=>
   refine AP.ofA (Zl Tryz.func99 Z Tryz.ntmps99 Z Z ?_)
   repeat'(first|(apply Zg Za;exact Z)|(apply Zh Za;exact Z)|(apply Zd;(iterate 3 exact Z);(first|with_reducible assumption|decide +kernel|(solve|simp only[bn])))|(apply Zr;(iterate 3 exact Z);(first|with_reducible assumption|decide +kernel|(solve|simp only[bn])))|(apply Zj;exact Z;(first|with_reducible assumption|decide +kernel|(solve|simp only[bn]));exact Z;exact Z)|(apply Zi;exact Z;(first|with_reducible assumption|decide +kernel|(solve|simp only[bn]));exact Z;exact Z)|(apply Zm 16 ZG;decide +kernel;kernel_rfl;kernel_rfl;kernel_rfl;exact Z;exact Z)|(apply Zq;(iterate 4 exact Z))|exact AE.nil _ _ _ _|(apply Zv;exact Z)|(apply ZA;exact Z;exact Z;decide +kernel;exact Z)|(apply ZB;exact Z)|exact AO.nil _ _ _|(apply Zp;(decide +kernel))|exact AOs.nil|exact ZJ rfl rfl)
   all_goals exact Qe
  | true=>
   cases bP with
   | false=>
    refine AP.ofA (Zl Tryz.func99 Z Tryz.ntmps99 Z Z ?_)
    repeat'(first|(apply Zb (hP);kernel_rfl;(iterate 4 exact Z))|(apply Zg Za;exact Z)|(apply Zh Za;exact Z)|(apply Zd;(iterate 3 exact Z);(first|with_reducible assumption|decide +kernel|(solve|simp only[bn])))|(apply Zr;(iterate 3 exact Z);(first|with_reducible assumption|decide +kernel|(solve|simp only[bn])))|(apply Zj;exact Z;(first|with_reducible assumption|decide +kernel|(solve|simp only[bn]));exact Z;exact Z)|(apply Zi;exact Z;(first|with_reducible assumption|decide +kernel|(solve|simp only[bn]));exact Z;exact Z)|(apply Zm 16 ZG;decide +kernel;kernel_rfl;kernel_rfl;kernel_rfl;exact Z;exact Z)|(apply Zq;(iterate 4 exact Z))|exact AE.nil _ _ _ _|(apply Zv;exact Z)|(apply ZA;exact Z;exact Z;decide +kernel;exact Z)|(apply ZB;exact Z)|exact AO.nil _ _ _|(apply Zp;(decide +kernel))|exact AOs.nil|exact ZJ rfl rfl)
    all_goals exact Qe
   | true=>
    refine AP.ofA (Zl Tryz.func99 Z Tryz.ntmps99 Z Z ?_)
    repeat'(first|(apply Zb (hP);kernel_rfl;(iterate 4 exact Z))|(apply Zb (hO);kernel_rfl;(iterate 4 exact Z))|(apply Zb (hS);kernel_rfl;(iterate 4 exact Z))|(apply Zg Za;exact Z)|(apply Zh Za;exact Z)|(apply Zd;(iterate 3 exact Z);(first|with_reducible assumption|decide +kernel|(solve|simp only[bn])))|(apply Zj;exact Z;(first|with_reducible assumption|decide +kernel|(solve|simp only[bn]));exact Z;exact Z)|(apply Zm 16 ZG;decide +kernel;kernel_rfl;kernel_rfl;kernel_rfl;exact Z;exact Z)|(apply Zq;(iterate 4 exact Z))|exact AE.nil _ _ _ _|(apply Zv;exact Z)|(apply ZA;exact Z;exact Z;decide +kernel;exact Z)|(apply ZB;exact Z)|exact AO.nil _ _ _|(apply Zp;(decide +kernel))|exact AOs.nil|exact ZJ rfl rfl)
    all_goals exact Qe
def Js (x:RqV):Bool:=decide ((x.pay.length:Int)>400)||decide (IntKind.i64.wrap (IntKind.i64.wrap (IntKind.i64.wrap ((x.ep.h.length:Int)+(x.ep.d.length:Int))+(x.ds.h.length:Int))+(x.ds.d.length:Int))>300)
theorem GV [Known](x:RqV):AP Tryz.prog 60 [.agg (rqC x)] (.bool (Js x)) []:=by
 have hbl:(x.pay.map E.byte).length=x.pay.length:=List.length_map ..
 unfold Js
 refine AP.ofA (Zl Tryz.func60 Z Tryz.ntmps60 Z Z ?_)
 repeat'(first|(apply Zg Za;exact Z)|(apply Zh Za;exact Z)|(apply Zd;(iterate 3 exact Z);(first|with_reducible assumption|(solve|simp only[bn])))|(apply Zo;(iterate 3 exact Z);(first|with_reducible assumption|(solve|simp only[bn])))|(apply Ym;exact Z;exact Z;all_goals intro hb)|(apply Zj;exact Z;(first|with_reducible assumption|(solve|simp only[bn]));exact Z;exact Z)|(apply Zi;exact Z;(first|with_reducible assumption|(solve|simp only[bn]));exact Z;exact Z)|refine Zn Za Z Z Z Z ?_|refine V8 Za Z Z Z Z ?_)
 all_goals(apply Zt [];(apply Zc Za;exact Z);(iterate 4 exact Z))
 all_goals first|rfl|(rw[hbl]at hb;rw[hb];rfl)
end Go.Proofs.YtchlgagdbflkmaaGreatDoor
end
