/- Package-level tables read; calls of function values; contracts with a panic; panics in regions that draw their order. -/
import Derived.Test.YtchlgagdbflkmaaDoorS09
import Derived.Laws.MakeOwn
set_option linter.unusedSimpArgs false
set_option linter.unusedVariables false
section
open Go.RowKit Go.Pl
namespace Go.Av
section
variable {P:Program} {Q:X->St->Prop} {n:Nat} {ee:Nat × Nat} {tm tm':List (Nat × D)} {bx bx':List (List D)} {fr fr':List Fr} {b0:Bs} {g:G} {w:World} {a:Act} {T:Tab}
variable {ops:Array Oper} {rest:List Oper} {t ty:Nat} {pos:String} {after:Array Edge}
theorem Vp {k o:Nat}{v:Value}(h:V w g fr (.gptr k o) v):v=.pointer (some ⟨k,o,none⟩):=by cases h;rfl
theorem Z9 [Known][Dfr](hT:chk P T=true){x y:Operand}{st e k o len:Nat}{kk0:IntKind}{i:Int}{ti te:Ti}(hx:ev tm x=.gptr k o)(hy:ev tm y=.int kk0 i)(ht:tl T st=some ti)(hk:ti.kd=.array len e)(hte:tl T e=some te)(htd:Nat.blt t n=true)
  (h0:0<=i) (hlt:i.toNat<len)
  (kk:AL P ops rest ⟨n,(t,.gptr k (o+i.toNat*te.size))::tm,bx,fr,ee⟩ Q):AL P ops (⟨some t,.indexAddr st x y,ty,pos,after,none⟩::rest) ⟨n,tm,bx,fr,ee⟩ Q:=
 ZR _ htd (fun g a w hi=>by
  have h1:V w g fr (ev tm x) (a.eval x):=hi.ev x
  rw[hx]at h1
  have h1:=Vp h1
  have h2:V w g fr (ev tm y) (a.eval y):=hi.ev y
  rw[hy]at h2
  have h2:=h2.int_inv
  obtain⟨u,hu,hkd⟩:=(ZF hT ht).under
  rw[hk]at hkd
  have hu:P.underlying st=some (.array len e):=by
   unfold UX at hkd
   split at hkd
   all_goals first|(cases hkd;exact hu)|(split at hkd<;>cases hkd)|cases hkd
  have hsz:=Z1 (P:=P) (t:=e) (ZF hT hte).tSize w
  refine⟨_,?_,.gptr k (o+i.toNat*te.size)⟩
  have hb:0<=i/\i<(len:Int):=⟨h0,by omega⟩
  have hadd:(⟨k,o,none⟩:Addr).add (i.toNat*te.size)=⟨k,o+i.toNat*te.size,none⟩:=by unfold Addr.add;split<;>simp_all
  simp[execOp,h1,h2,Instr.indexAt,asIntOf,Instr.sureAddr,Sem.run_bind,run_underlying hu,hb,hsz,hadd]) kk
theorem ZU [Known][Dfr](hT:chk P T=true){x:Operand}{lt k o:Nat}{cs:List Value}{v:Value}{d:D}{ti:Ti}(hx:ev tm x=.gptr k o)(ht:tl T lt=some ti)(ha:ti.kd.agg=false)(hk:k ∈ Known.ks)(hc:(k,cs) ∈ JJ)(hv:cs[o]?=some v)(hd:VS v=d)(htd:Nat.blt t n=true)
  (kk:AL P ops rest ⟨n,(t,d)::tm,bx,fr,ee⟩ Q):AL P ops (⟨some t,.load lt x,ty,pos,after,none⟩::rest) ⟨n,tm,bx,fr,ee⟩ Q:=
 ZR d htd (fun g a w hi=>by
  have h1:V w g fr (ev tm x) (a.eval x):=hi.ev x
  rw[hx]at h1
  have h1:=Vp h1
  have hcell:=(hi.mem.gl.1 k cs ⟨hk,hc⟩ o v hv).2
  refine⟨v,?_,hd ▸ VB _ _ _ v⟩
  simp[execOp,h1,Instr.loadAt,Instr.sureAddr,Sem.run_bind,WM (P:=P) (by rw[(ZF hT ht).tAgg,ha]) hcell]) kk
theorem ZV [Known][Dfr](hT:chk P T=true){x:Operand}{lt k o:Nat}{cs vs:List Value}{ds:List D}{ti:Ti}(hx:ev tm x=.gptr k o)(ht:tl T lt=some ti)(ha:ti.kd.agg=true)(hk:k ∈ Known.ks)(hc:(k,cs) ∈ JJ)(hv:(cs.drop o).take ti.size=vs)(hl:Nat.beq vs.length ti.size=true)(hd:vs.map VS=ds)(htd:Nat.blt t n=true)
  (kk:AL P ops rest ⟨n,(t,.agg ds)::tm,bx,fr,ee⟩ Q):AL P ops (⟨some t,.load lt x,ty,pos,after,none⟩::rest) ⟨n,tm,bx,fr,ee⟩ Q:=
 ZR _ htd (fun g a w hi=>by
  have h1:V w g fr (ev tm x) (a.eval x):=hi.ev x
  rw[hx]at h1
  have h1:=Vp h1
  have hl':=Nat.eq_of_beq_eq_true hl
  have hcell:∀ j v,vs[j]?=some v->w.cell? ⟨k,o+j,none⟩=some v:=fun j v hj=>by
   subst hv
   have hj':j<ti.size/\cs[o+j]?=some v:=by simpa[List.getElem?_take]using hj
   exact(hi.mem.gl.1 k cs ⟨hk,hc⟩ (o+j) v hj'.2).2
  refine⟨.agg vs.toArray,?_,?_⟩
  ·simp[execOp,h1,Instr.loadAt,Instr.sureAddr,Sem.run_bind,Up (P:=P) (by rw[(ZF hT ht).tAgg,ha]) vs (by rw[(ZF hT ht).tSize,hl']) hcell]
  ·subst hd
   refine .agg _ vs (by simp) fun j d v hj hv=>?_
   rw[List.getElem?_map,hv]at hj
   simp at hj
   exact hj ▸ VB _ _ _ v) kk
theorem Wf [Known][Dfr](hT:chk P T=true){x lo:Operand}{st e:Nat}{tk:Tok}{bs bs2:List UInt8}{l:List E}{k0:IntKind}{i:Int}{ti te:Ti}(hx:ev tm x=.sl tk l)(hl:l=bs.map E.byte)(ht:tl T st=some ti)(hk:ti.kd=.slice e)(hte:tl T e=some te)(hsz:Nat.beq te.size 1=true)(htd:Nat.blt t n=true)
  (hlo:ev tm lo=.int k0 i) (h0:0<=i) (hle:i.toNat<=bs.length) (hd:bs.drop i.toNat=bs2)
  (kk:AL P ops rest ⟨n,(t,.sl .ext (bs2.map E.byte))::tm,bx,fr,ee⟩ Q):AL P ops (⟨some t,.slice st x (some lo) none none,ty,pos,after,none⟩::rest) ⟨n,tm,bx,fr,ee⟩ Q:=by
 subst hd
 refine JR hT hx ht hk hte htd (.lit lo _ k0 i hlo h0) (.dft _) (by rw[hl,List.length_map];exact hle) (Nat.le_refl _) ?_ ?_ kk
 ·rw[Nat.eq_of_beq_eq_true hsz,hl];exact Uni.map (f:=E.byte) (fun _=>rfl) bs
 ·rw[hl,List.take_of_length_le (Nat.le_refl _),List.map_drop]
theorem OR [Known][Dfr](hT:chk P T=true){x hh mx:Operand}{st e:Nat}{tk:Tok}{bs:List UInt8}{l:List E}{k2 k3:IntKind}{j m:Int}{ti te:Ti}(hx:ev tm x=.sl tk l)(hl:l=bs.map E.byte)(ht:tl T st=some ti)(hk:ti.kd=.slice e)(hte:tl T e=some te)(hsz:Nat.beq te.size 1=true)(htd:Nat.blt t n=true)
  (hhi:ev tm hh=.int k2 j) (hmx:ev tm mx=.int k3 m) (hj0:j=(bs.length:Int)) (hm0:m=(bs.length:Int))
  (kk:AL P ops rest ⟨n,(t,.sl .ext (bs.map E.byte))::tm,bx,fr,ee⟩ Q):AL P ops (⟨some t,.slice st x none (some hh) (some mx),ty,pos,after,none⟩::rest) ⟨n,tm,bx,fr,ee⟩ Q:=
 ZR _ htd (fun g a w hi=>by
  subst hl
  have h1:V w g fr (ev tm x) (a.eval x):=hi.ev x
  rw[hx]at h1
  obtain⟨a1,_⟩:=Wz h1
  have hu:=(ZF hT ht).slice hk
  have hsz2:=Z1 (P:=P) (t:=e) (ZF hT hte).tSize w
  have e2:a.eval hh=.int k2 j:=Bnd.val (S:=⟨n,tm,bx,fr,_⟩) hi hhi
  have e3:a.eval mx=.int k3 m:=Bnd.val (S:=⟨n,tm,bx,fr,_⟩) hi hmx
  subst hj0 hm0
  obtain⟨A,cap,hv,hcap,hmax⟩:∃ A cap,a.eval x=.slice A bs.length cap/\bs.length<=cap/\cap<=maxLen:=by
   generalize hq:E.sl (bs.map E.byte)=q at a1
   generalize a.eval x=v at a1
   cases a1 with
   | slC l' b off cap us h1 h2 _ _ _=>injection hq with hq;subst hq;exact⟨some ⟨b,off,none⟩,cap,by rw[List.length_map],by rw[List.length_map]at h1;exact h1,h2⟩
   | slE A cap h => injection hq with hq; have : bs = [] := by simpa using hq
                    subst this;exact⟨A,cap,rfl,Nat.zero_le _,h⟩
   | _=>cases hq
  have b1:(0:Int)<=(bs.length:Int)/\(bs.length:Int)<=(cap:Int):=by omega
  have b2:(0:Int)<=(bs.length:Int)/\(bs.length:Int)<=(bs.length:Int):=by omega
  have hb:(Instr.sliceBounds true bs.length cap none (some (.int k2 (bs.length:Int))) (some (.int k3 (bs.length:Int)))).run P w=.ok (0,bs.length,bs.length) w:=by
   simp only[Instr.sliceBounds,Instr.sliceBound,asIntOf,Sem.run_bind,Sem.run_pure,Result.andThen_ok,if_pos b1,Int.toNat_natCast,if_pos b2]
  refine⟨.slice (if bs.length=0 then A else A.map (·.add (0*te.size))) (bs.length-0) (bs.length-0),?_,?_⟩
  ·have hrun:(Instr.sliceAt st (.slice A bs.length cap) none (some (.int k2 (bs.length:Int))) (some (.int k3 (bs.length:Int)))).run P w=.ok (.slice (if bs.length=0 then A else A.map (·.add (0*te.size))) (bs.length-0) (bs.length-0)) w:=by
    simp[Instr.sliceAt,Instr.slice,Sem.run_bind,run_underlying hu,hb,hsz2]
   simp only[execOp,hv,e2,e3,Sem.run_bind,Option.map_some,Option.map_none,hrun,Result.andThen_ok]
   rfl
  ·rw[Nat.sub_zero]
   refine .sl _ _ _ ?_ trivial
   by_cases he:bs.length=0
   ·have hnil:bs=[]:=List.eq_nil_of_length_eq_zero he
    subst hnil
    exact .slE _ _ (by omega)
   ·rw[if_neg he]
    rw[hv]at a1
    generalize hq':E.sl (bs.map E.byte)=qq at a1
    generalize hs:Value.slice A bs.length cap=s at a1
    cases a1 with
    | slC l' b off cap' us h1 h2 hc hw hvv=>
     injection hq' with hq';subst hq'
     injection hs with q1 q2 q3
     subst q1 q3
     have hadd:(⟨b,off,none⟩:Addr).add (0*te.size)=⟨b,off,none⟩:=by rw[Nat.zero_mul];rfl
     have:=VE.slC (w:=w) (C:=g.C) (bs.map E.byte) b off bs.length us (by rw[List.length_map];exact Nat.le_refl _) (by omega) hc hw hvv
     rw[List.length_map]at this
     rw[Option.map_some,hadd]
     exact this
    | slE A cap h => injection hq' with hq'; have : bs = [] := by simpa using hq'
                     simp[this]at he
    | _=>cases hq') kk
theorem KZ [Known][Dfr]{S:St}{x y:Code}(h:AW P x S Q):AW P (.cond (.const (.bool true)) x y) S Q:=⟨fun b0 g a w hi=>wp_cond_true rfl (h.run b0 g a w hi)⟩
theorem K0 [Known][Dfr]{S:St}{x y:Code}(h:AW P y S Q):AW P (.cond (.const (.bool false)) x y) S Q:=⟨fun b0 g a w hi=>wp_cond_false rfl (h.run b0 g a w hi)⟩
theorem GZ {f:FuncId}{l:List D}{v:Value}(h:V w g fr (.fn f l) v):∃ vs:List Value,v=.func (.func f) #[] vs.toArray/\vs.length=l.length/\∀(j:Nat) (d:D) (v:Value),l[j]?=some d->vs[j]?=some v->V w g fr d v:=by
 cases h with
 | fn _ _ vs hl h=>exact⟨vs,rfl,hl,h⟩
end
theorem OS [Known][Dfr]{P:Program}{Q:X->St->Prop}{S:St}{ops:Array Oper}{rest:List Oper}{t:Option Nat}{ty:Nat}{pos:String}{after:Array Edge}{f:FuncId}{x:Operand}{ars:Array Operand}{ats:Array TypeId}(bs ts:List Nat)
  {cds caps:List D} {bxs:List (List D)} {frs:List Fr} {post:R->List (List D)->List Fr->Prop} (hx:ev S.tm x=.fn f caps) (hf:Ur P f=true) (hAC:AC P f cds bxs frs post)
  (hc:(ars.toList.map (ev S.tm)++caps).map (D.ren (idx bs) (idx ts))=cds) (hb:YL bs S.bx.length) (ht:YL ts S.fr.length) (hbx:Uo bs ts S.bx=bxs) (hfr:WX ts S.fr=frs) (htd:(match t with|some t=>Nat.blt t S.n|none=>true)=true)
  (hp:∀ d bx' fr',post (.pan d) bx' fr'->bs.length<=bx'.length/\Q (.pan (d.ren (upN bs S.bx.length) (upN ts S.fr.length))) ⟨S.n,S.tm,VU bs ts S.bx S.fr.length bx',WK ts S.fr fr',S.e⟩)
  (k:∀ d bx' fr',post (.ret d) bx' fr'->bs.length<=bx'.length/\AL P ops rest (S.aft bs ts bx' fr' t d) Q):AL P ops (⟨t,.call { callee:=.value x,args:=ars,argTypes:=ats },ty,pos,after,none⟩::rest) S Q:=by
 refine⟨fun b0 g a w hi=>?_⟩
 refine wpList_plain rfl fun K hK=>?_
 have hvx:=hi.ev x
 rw[hx]at hvx
 obtain⟨cvs,hcv,hcl,hcV⟩:=GZ hvx
 have hrun:(execOp a.eval ⟨t,.call { callee:=.value x,args:=ars,argTypes:=ats },ty,pos,after,none⟩).run P w=.ok (.enter f (ars.toList.map a.eval++cvs).toArray) w:=by
  have e:ars.map a.eval++cvs.toArray=(ars.toList.map a.eval++cvs).toArray:=by
   rw[<- List.append_toArray,<- Array.toList_map,Array.toArray_toList]
  have hz:=We hf (ars.toList.map a.eval++cvs).toArray w
  rw[<- e]at hz ⊢
  simpa[execOp,resolve,hcv,Deferred.ofValue,invoke,Sem.run_bind]using hz
 unfold Oper.wp
 rw[hrun]
 have hm:=hi.mem
 have hcall:=hAC.run (g.sel bs ts) w (ars.toList.map a.eval++cvs) (by rw[<- hbx,<- hfr];exact hm.sel hb ht) (by rw[<- hc];simp[hcl]) (fun j d v hd hv=>by
  rw[<- hc,List.getElem?_map]at hd
  cases hj:(ars.toList.map (ev S.tm)++caps)[j]? with
  | none=>simp only[hj,Option.map_none]at hd;cases hd
  | some d0=>
   simp only[hj,Option.map_some,Option.some.injEq]at hd
   subst hd
   rw[<- hfr]
   refine V.sel hm hb ht ?_
   rcases Nat.lt_or_ge j ars.toList.length with hlt|hge
   ·rw[List.getElem?_append_left (by simpa using hlt)]at hj hv
    exact evs hi ars j d0 v hj hv
   ·rw[List.getElem?_append_right (by simpa using hge)]at hj hv
    simp only[List.length_map]at hj hv
    exact hcV _ d0 v hj hv)
 refine hcall.mono fun e w' ⟨g',bx',fr',r,he,hm',hr,hpost⟩=>?_
 rw[<- hfr]at he
 have common:bs.length<=bx'.length->Inv b0 ⟨S.n,S.tm,VU bs ts S.bx S.fr.length bx',WK ts S.fr fr',S.e⟩ (Wj bs ts g g') a w'/\∀ d v,V w' g' fr' d v->V w' (Wj bs ts g g') (WK ts S.fr fr') (d.ren (upN bs S.bx.length) (upN ts S.fr.length)) v:=fun hle=>by
  obtain⟨q1,q2,q3⟩:=Go.Av.aft hm hb ht he hm' hle
  exact⟨⟨hi.size,hi.defers,q1,fun t=>(hi.tm t).evo q2,hi.evo.trans q2,hi.bd⟩,q3⟩
 cases r with
 | ret d=>
  obtain⟨v,rfl,hv⟩:=hr
  obtain⟨hle,hk⟩:=k d bx' fr' hpost
  obtain⟨hi2,hup⟩:=common hle
  refine hK _ _ (hk.run b0 (Wj bs ts g g') _ w' ?_)
  cases t with
  | none=>exact hi2
  | some t=>exact hi2.put htd (hup d v hv)
 | pan d=>
  obtain⟨v,rfl,hv⟩:=hr
  obtain⟨hle,hq⟩:=hp d bx' fr' hpost
  obtain⟨hi2,hup⟩:=common hle
  exact⟨_,_,v,_,hi2,rfl,hup d v hv,hq⟩
section
variable {P:Program} {Q:X->St->Prop} {n:Nat} {ee:Nat × Nat} {tm:List (Nat × D)} {bx:List (List D)} {fr:List Fr} {ops:Array Oper} {rest:List Oper} {ty:Nat} {pos:String} {after:Array Edge} {f:FuncId} {ars:Array Operand} {ats:Array TypeId}
theorem VI [Known][Dfr]{t:Nat}{x:Operand}{cds caps:List D}{d d':D}(hAC:AP P f cds d [])(hx:ev tm x=.fn f caps)(hf:Ur P f=true)
  (hc:D.wks ((ars.toList.map (ev tm)++caps).map (D.ren (idx []) (idx [])))=cds) (htd:Nat.blt t n=true) (hd:nf (d.ren (upN [] bx.length) (upN [] fr.length))=some d')
  (k:AL P ops rest ⟨n,(t,d')::tm,bx,fr,ee⟩ Q):AL P ops (⟨some t,.call { callee:=.value x,args:=ars,argTypes:=ats },ty,pos,after,none⟩::rest) ⟨n,tm,bx,fr,ee⟩ Q:=by
 refine OS [] [] hx hf (AC.unwk (hc ▸ hAC)) rfl (Z2 _) (Z2 _) rfl rfl htd (fun _ _ _ h=>by cases h.1) fun d0 bx' fr' h=>?_
 obtain⟨h1,rfl,rfl⟩:=h
 injection h1 with h1
 subst h1
 refine⟨Nat.le_refl _,?_⟩
 have e1:=Yj hd
 subst e1
 simpa[St.aft,VU,WK,YW]using k
end
def D.pure:D->Bool
 | .bool _ | .int _ _ | .str _ | .nilp | .nilf | .nili=>true
 | .iface _ (.agg l)=>l.all fun | .bool _ | .int _ _ | .str _=>true|_=>false
 | .iface _ d=>match d with | .bool _ | .int _ _ | .str _=>true|_=>false
 | _=>false
section
variable {P:Program} {Q:X->St->Prop} {n:Nat} {ee:Nat × Nat} {tm:List (Nat × D)} {bx:List (List D)} {fr:List Fr} {ops:Array Oper} {rest:List Oper} {ty:Nat} {pos:String} {after:Array Edge} {f:FuncId} {ars:Array Operand} {ats:Array TypeId}
end
end Go.Av
end
section
open Go.RowKit Go.Pl
namespace Go.Av
section
variable {P:Program} {Q:X->St->Prop} {n:Nat} {ee:Nat × Nat} {tm tm':List (Nat × D)} {bx bx':List (List D)} {fr fr':List Fr} {b0:Bs} {g:G} {w:World} {a:Act}
def qx (p:D)(bx:List (List D)):X->St->Prop
 | .pan d,S=>d=p/\bx.length<=S.bx.length
 | _,_=>False
inductive ADX [Known][Dfr](P:Program) (l:List Oper) (n:Nat) (bx:List (List D)) (fr:List Fr) (j:Nat) (p:D):Nat->List Oper->List (Nat × D)->Prop
 | nil (i:Nat) (tm:List (Nat × D)):ADX P l n bx fr j p i [] tm
 | pu (i:Nat) (o:Oper) (rest:List Oper) (t:Nat) (d:D) (tm:List (Nat × D)) (hd:o.dst=some t) (ht:Nat.blt t n=true) (hne:Nat.beq i j=false) (h:AL P l.toArray [o] ⟨n,Yi l o tm,bx,fr,(bx.length,fr.length)⟩ (qp t d bx fr)) (k:ADX P l n bx fr j p (i+1) rest ((t,d)::tm)):ADX P l n bx fr j p i (o::rest) tm
 | dead (i:Nat) (o:Oper) (rest:List Oper) (t:Nat) (tm:List (Nat × D)) (hd:o.dst=some t) (hu:up (Yr [] l) i j=true) (k:ADX P l n bx fr j p (i+1) rest ((t,.junk)::tm)):ADX P l n bx fr j p i (o::rest) tm
 | pan (o:Oper) (rest:List Oper) (t:Nat) (tm:List (Nat × D)) (hd:o.dst=some t) (h:AL P l.toArray [o] ⟨n,Yi l o tm,bx,fr,(bx.length,fr.length)⟩ (qx p bx)) (k:ADX P l n bx fr j p (j+1) rest ((t,.junk)::tm)):ADX P l n bx fr j p j (o::rest) tm
end
end Go.Av
end
section
open Go.RowKit Go.Pl
namespace Go.Av
section
variable {P:Program} {T:Tab} {Q:X->St->Prop} {n:Nat} {ee:Nat × Nat} {tm:List (Nat × D)} {bx:List (List D)} {fr fr':List Fr} {b0:Bs} {g:G} {w:World} {a:Act}
variable {ops:Array Oper} {rest:List Oper} {t ty:Nat} {pos:String} {after:Array Edge}
theorem OT [Known][Dfr]{x:Operand}{xt:Nat}{k:IntKind}{q:Int}(hx:ev tm x=.int k q)(ht:Nat.blt t n=true)
  (kk:AL P ops rest ⟨n,(t,.int k (bits .xor k (if k.signed then -1 else k.max) q))::tm,bx,fr,ee⟩ Q):AL P ops (⟨some t,.unOp .xor xt x,ty,pos,after,none⟩::rest) ⟨n,tm,bx,fr,ee⟩ Q:=
 ZR _ ht (fun g a w hi=>by
  have h1:V w g fr (ev tm x) (a.eval x):=hi.ev x;rw[hx]at h1;have h1:=h1.int_inv
  exact⟨.int k (bits .xor k (if k.signed then -1 else k.max) q),by simp[execOp,h1,Op.unary];rfl,.int _ _⟩) kk
theorem J0 (k:IntKind):∀ m:Nat,flat (List.replicate m (E.int k 0))=List.replicate m (E.int k 0)
 | 0=>rfl
 | m+1=>by rw[List.replicate_succ,YE,J0 k m];rfl
theorem I4 (k:IntKind)(m:Nat):Uni 1 (List.replicate m (E.int k 0)):=fun x hx=>by rw[(List.mem_replicate.1 hx).2];rfl
theorem Ub [Known][Dfr](hT:chk P T=true){st e:Nat}{x y:Operand}{kx ky k0:IntKind}{q:Int}{m l:Nat}{ti te:Ti}(hx:ev tm x=.int kx q)(hy:ev tm y=.int ky q)(hq:q=(l:Int))(ht:tl T st=some ti)(hk:ti.kd=.slice e)(hte:tl T e=some te)(hz:te.zero=[.i k0])
  (hb:Nat.ble (te.bytes*l) 281474976710656=true) (hl:Nat.ble l maxLen=true) (hm:fr.length=m) (hf:nfl (fr++[⟨l,1,e⟩])=some fr') (htd:Nat.blt t n=true)
  (k:AL P ops rest ⟨n,(t,.sl (.own m) (List.replicate l (.int k0 0)))::tm,bx,fr',ee⟩ Q):AL P ops (⟨some t,.makeSlice st x y,ty,pos,after,none⟩::rest) ⟨n,tm,bx,fr,ee⟩ Q:=
 Vj _ htd (fun g a w hi=>by
  have h1:V w g fr (ev tm x) (a.eval x):=hi.ev x;rw[hx]at h1;have h1:=h1.int_inv
  have h2:V w g fr (ev tm y) (a.eval y):=hi.ev y;rw[hy]at h2;have h2:=h2.int_inv
  subst hq
  have hu:=(ZF hT ht).slice hk
  obtain⟨i,u,z,i1,i2,i3,i4,i5,i6,i7⟩:=(ZF hT hte).out
  have hsz:te.size=1:=by rw[<- (ZF hT hte).len,hz];rfl
  rw[hz]at i7
  have hzc:z.cells = #[.int k0 0]:=by
   have hl1:=(YX (w:=w) (g:=g) (fr:=fr) i7).1
   match hzl:z.cells.toList,hl1 with
   | [v],_=>
    rw[hzl]at i7
    simp only[zks]at i7
    cases hv:zk v with
    | none=>rw[hv]at i7;cases i7
    | some z'=>
     rw[hv]at i7
     simp only[Option.some.injEq,List.cons.injEq,and_true]at i7
     subst i7
     unfold zk at hv
     split at hv<;>try(cases hv;done)
     ·split at hv
      ·cases hv
       refine Array.toList_inj.1 (hzl.trans ?_)
       simp_all
      ·cases hv
     ·split at hv<;>cases hv
  have hb':=Nat.le_of_ble_eq_true hb
  have hl':=Nat.le_of_ble_eq_true hl
  have hl2:l<=9223372036854775807:=hl'
  have hb2:(i.bytes:Int)*(l:Int)<=281474976710656:=by
   rw[<- i6];have:((te.bytes*l:Nat):Int)<=281474976710656:=by omega
   rwa [Int.natCast_mul]at this
  have hr:=run_make (P:=P) w st e i z hu i1 i3 kx ky (l:Int) (l:Int) (by omega) (Int.le_refl _) hb2 (by omega)
  rw[Int.toNat_natCast,<- i5,hsz,Nat.mul_one,hzc]at hr
  have hcl:(madeCells #[Value.int k0 0] l).toList=List.replicate l (.int k0 0):=by
   apply List.ext_getElem?
   intro j
   by_cases hj:j<l
   ·simp[madeCells,List.getElem?_replicate,hj,Nat.mod_one]
   ·simp[madeCells,List.getElem?_replicate,hj]
  obtain⟨k1,k2,k3⟩:=hi.mem.row (List.replicate l (.int k0 0)) (List.replicate l (.int k0 0)) l 1 e (by decide) (by simp) (by simp) hl' (I4 k0 l) (fun j x u hx hu=>by
   rw[J0]at hx
   rw[List.getElem?_replicate]at hx hu
   split at hx
   ·rename_i hj;rw[if_pos hj]at hu;cases hx;cases hu;exact .int _ _
   ·cases hx)
  rw[List.length_replicate]at k1 k2 k3
  have e1:=Yq hf
  subst e1 hm
  refine⟨.slice (some ⟨w.heap.size,0,none⟩) l l,_,_,?_,k1,k2,k3⟩
  rw[<- hcl]
  simp only[execOp,Sem.run_bind,h1,h2,hr]
  rfl) k
theorem Qi [Known][Dfr](hT:chk P T=true){x hh:Operand}{st e:Nat}{tk:Tok}{l l2:List E}{k1:IntKind}{j:Int}{ti te:Ti}(hx:ev tm x=.sl tk l)(ht:tl T st=some ti)(hk:ti.kd=.slice e)(hte:tl T e=some te)(htd:Nat.blt t n=true)
  (hhi:ev tm hh=.int k1 j) (hU:Uni te.size l) (h0:0<=j) (hle:j.toNat<=l.length) (hd:l.take j.toNat=l2)
  (kk:AL P ops rest ⟨n,(t,.sl .ext l2)::tm,bx,fr,ee⟩ Q):AL P ops (⟨some t,.slice st x none (some hh) none,ty,pos,after,none⟩::rest) ⟨n,tm,bx,fr,ee⟩ Q:=by
 subst hd
 exact JR hT hx ht hk hte htd (.dft _) (.lit hh _ k1 j hhi h0) (Nat.zero_le _) hle hU (by rw[List.drop_zero]) kk
end
end Go.Av
end
section
open Go.RowKit Go.Pl
namespace Go.Av
def OU (T:Tab)(tm:List (Nat × D))(op:BinOp)(xt:Nat)(x y:Operand):Option D:=
 match ev tm x,ev tm y with
 | .int k m,.int k2 q=>match decide (k=k2),(match op with | .quo | .rem | .shl | .shr=>false|_=>true) with
  | true,true=>nf (Ot op k m q)
  | _,_=>none
 | .str p,.str q=>match op with
  | .eql | .neq | .lss | .leq | .gtr | .geq=>nf (XQ op p q)
  | _=>none
 | .bool p,.bool q=>match tl T xt with
  | some ti=>match ti.kd with
   | .bool=>match op with
    | .eql=>some (.bool (p==q))
    | .neq=>some (.bool (!(p==q)))
    | _=>none
   | _=>none
  | none=>none
 | d,.nilp=>match GP d,tl T xt with
  | some p,some ti=>match ti.kd with
   | .ptr _=>match op with
    | .eql=>some (.bool p)
    | .neq=>some (.bool (!p))
    | _=>none
   | _=>none
  | _,_=>none
 | _,_=>none
def GD (bx:List (List D))(ti:Ti):D->Option D
 | .ptr b o=>match bx[b]? with
  | some cs=>match ti.kd.agg with
   | false=>cs[o]?
   | true=>match Nat.ble (o+ti.size) cs.length,nfs ((cs.drop o).take ti.size) with
    | true,some cs'=>some (.agg cs')
    | _,_=>none
  | none=>none
 | .eptr cs o=>match ti.kd.agg with
  | false=>match cs[o]? with
   | some e=>nf (.ofE e)
   | none=>none
  | true=>match Nat.ble (o+ti.size) cs.length,nfs (((cs.drop o).take ti.size).map .ofE) with
   | true,some cs'=>some (.agg cs')
   | _,_=>none
 | _=>none
def I5 (T:Tab)(st f:Nat):Option Fd:=
 match tl T st with
 | some ti=>match ti.kd with
  | .struct fs=>match fs[f]? with
   | some fd=>match Nat.beq fd.size 0 with
    | false=>some fd
    | true=>none
   | none=>none
  | _=>none
 | none=>none
def OV (T:Tab)(tm:List (Nat × D))(bx:List (List D)):Op->Option D
 | .move x=>nf (ev tm x)
 | .assign x=>nf (ev tm x)
 | .binOp op xt x y _=>OU T tm op xt x y
 | .unOp .not _ x=>match ev tm x with
  | .bool b=>some (.bool (!b))
  | _=>none
 | .convert src dst x=>match ev tm x with
  | .int _ q=>match tl T src,tl T dst with
   | some _,some td=>match td.kd with
    | .int k'=>some (.int k' (k'.wrap q))
    | _=>none
   | _,_=>none
  | _=>none
 | .load lt x=>match tl T lt with
  | some ti=>GD bx ti (ev tm x)
  | none=>none
 | .fieldAddr st x f=>match I5 T st f with
  | some fd=>match ev tm x with
   | .ptr b o=>match Vo (List.replicate (o+fd.off) ()) with
    | some o'=>some (.ptr b o')
    | none=>none
   | .eptr cs o=>match Vo (List.replicate (o+fd.off) ()) with
    | some o'=>some (.eptr cs o')
    | none=>none
   | _=>none
  | none=>none
 | .nilCheck x=>match ev tm x with
  | .ptr b o=>some (.ptr b o)
  | .eptr cs o=>some (.eptr cs o)
  | _=>none
 | .extract x i=>match ev tm x with
  | .tup l=>l[i]?
  | _=>none
 | .field st x f=>match I5 T st f with
  | some fd=>match tl T fd.ty with
   | some ti'=>match ti'.kd.agg with
    | false=>match ev tm x with
     | .agg l=>l[fd.off]?
     | _=>none
    | true=>none
   | none=>none
  | none=>none
 | .build st parts=>match tl T st with
  | some ti=>match ti.kd with
   | .struct fs=>match Us fs (ti.zero.map ZK.d) (parts.toList.map (fun p=>(p.1,ev tm p.2))) with
    | some cs=>match nfs cs with
     | some cs'=>some (.agg cs')
     | none=>none
    | none=>none
   | _=>none
  | none=>none
 | .makeFunc (.func f) ⟨[]⟩ caps=>match nfs (caps.toList.map (ev tm)) with
  | some ds=>some (.fn f ds)
  | none=>none
 | _=>none
abbrev Rs:=List (Nat × D) × List (List D)
def Kv (T:Tab)(n:Nat)(tm:List (Nat × D))(bx:List (List D)):Oper->Option Rs
 | ⟨some t,.box _ x,_,_,_,none⟩=>match nf (ev tm x) with
  | some d=>match D.ones d.cellsOf,nfb (bx++[d.cellsOf]),Vo bx,Nat.blt t n with
   | true,some bx',some m,true=>some ((t,.ptr m 0)::tm,bx')
   | _,_,_,_=>none
  | none=>none
 | ⟨some t,.alloc e,_,_,_,none⟩=>match tl T e with
  | some ti=>match nfb (bx++[ti.zero.map ZK.d]),Vo bx,Nat.blt t n with
   | some bx',some m,true=>some ((t,.ptr m 0)::tm,bx')
   | _,_,_=>none
  | none=>none
 | ⟨none,.store lt x y,_,_,_,none⟩=>match ev tm x,nf (ev tm y),tl T lt with
  | .ptr b o,some d,some ti=>match D.ones d.cellsOf,Nat.beq d.cellsOf.length ti.size,bx[b]? with
   | true,true,some cs=>match Nat.ble (o+d.cellsOf.length) cs.length,nfb (bx.set b (YY cs o d.cellsOf)) with
    | true,some bx'=>some (tm,bx')
    | _,_=>none
   | _,_,_=>none
  | _,_,_=>none
 | ⟨some t,op,_,_,_,none⟩=>match OV T tm bx op,Nat.blt t n with
  | some d,true=>some ((t,d)::tm,bx)
  | _,_=>none
 | _=>none
def OW (T:Tab)(n:Nat):List Oper->List (Nat × D)->List (List D)->List Oper × Rs
 | [],tm,bx=>([],tm,bx)
 | o::l,tm,bx=>match Kv T n tm bx o with
  | some (tm',bx')=>OW T n l tm' bx'
  | none=>(o::l,tm,bx)
inductive Fm where
 | seq (y:Code)
 | blk (id:Nat)
inductive Pos where
 | aw (c:Code)
 | al (ops:Array Oper) (l:List Oper)
 | x (x:X)
def goG (T:Tab)(n:Nat):Nat->Pos->List Fm->List (Nat × D)->List (List D)->Option (Pos × List Fm × Rs)
 | 0,p,ks,tm,bx=>some (p,ks,tm,bx)
 | f+1,.aw c,ks,tm,bx=>match c with
  | .seq a b=>goG T n f (.aw a) (.seq b::ks) tm bx
  | .block id a=>goG T n f (.aw a) (.blk id::ks) tm bx
  | .skip=>goG T n f (.x .norm) ks tm bx
  | .label _=>goG T n f (.x .norm) ks tm bx
  | .exit i=>goG T n f (.x (.exit i)) ks tm bx
  | .goto l=>goG T n f (.x (.goto l)) ks tm bx
  | .ret=>goG T n f (.x .ret) ks tm bx
  | .region _ ops false=>goG T n f (.al ops ops.toList) ks tm bx
  | .cond (.const (.bool true)) a _=>goG T n f (.aw a) ks tm bx
  | .cond (.const (.bool false)) _ b=>goG T n f (.aw b) ks tm bx
  | c=>some (.aw c,ks,tm,bx)
 | f+1,.al ops l,ks,tm,bx=>match OW T n l tm bx with
  | ([],tm',bx')=>goG T n f (.x .norm) ks tm' bx'
  | (o::l',tm',bx')=>some (.al ops (o::l'),ks,tm',bx')
 | f+1,.x x,ks,tm,bx=>match ks with
  | []=>some (.x x,[],tm,bx)
  | k::ks=>match x with
   | .norm=>match k with
    | .seq b=>goG T n f (.aw b) ks tm bx
    | .blk _=>goG T n f (.x .norm) ks tm bx
   | .exit i=>match k with
    | .blk id=>match Nat.beq i id with
     | true=>goG T n f (.x .norm) ks tm bx
     | false=>goG T n f (.x (.exit i)) ks tm bx
    | .seq _=>goG T n f (.x (.exit i)) ks tm bx
   | .goto l=>goG T n f (.x (.goto l)) ks tm bx
   | .ret=>goG T n f (.x .ret) ks tm bx
   | .pan d=>goG T n f (.x (.pan d)) ks tm bx
def goA (T:Tab)(n:Nat)(c:Code)(tm:List (Nat × D))(bx:List (List D)):Option (Pos × List Fm × Rs):=
 match c with
 | .seq .. | .block .. | .skip | .label _ | .exit _ | .goto _ | .ret | .region _ _ false | .cond (.const (.bool _)) _ _=>goG T n 400 (.aw c) [] tm bx
 | _=>none
def goL (T:Tab)(n:Nat)(ops:Array Oper)(l:List Oper)(tm:List (Nat × D))(bx:List (List D)):Option (Pos × List Fm × Rs):=
 match l with
 | []=>some (.x .norm,[],tm,bx)
 | o::l=>match Kv T n tm bx o with
  | some (tm',bx')=>goG T n 400 (.al ops l) [] tm' bx'
  | none=>none
def goK (T:Tab)(n:Nat)(x:X)(ks:List Fm)(tm:List (Nat × D))(bx:List (List D)):Option (Pos × List Fm × Rs):=
 match ks with
 | []=>none
 | k::ks=>goG T n 400 (.x x) (k::ks) tm bx
section
variable {P:Program} {Q:X->St->Prop} {n:Nat} {ee:Nat × Nat} {tm:List (Nat × D)} {bx:List (List D)} {fr:List Fr} {T:Tab}
variable {ops:Array Oper} {rest:List Oper} {t ty:Nat} {pos:String} {after:Array Edge}
def unK [Known][Dfr](P:Program)(Q:X->St->Prop):List Fm->X->St->Prop
 | []=>Q
 | .seq y::ks=>X.then (fun S=>AW P y S (unK P Q ks)) (unK P Q ks)
 | .blk id::ks=>X.inBlock id (unK P Q ks)
@[reducible] def J [Known][Dfr](P:Program) (n:Nat) (fr:List Fr) (ee:Nat × Nat) (Q:X->St->Prop):Pos × List Fm × Rs->Prop
 | (.aw c,[],tm,bx)=>AW P c ⟨n,tm,bx,fr,ee⟩ Q
 | (.al ops l,[],tm,bx)=>AL P ops l ⟨n,tm,bx,fr,ee⟩ Q
 | (.x x,[],tm,bx)=>Q x ⟨n,tm,bx,fr,ee⟩
 | (.aw c,k::ks,tm,bx)=>AW P c ⟨n,tm,bx,fr,ee⟩ (unK P Q (k::ks))
 | (.al ops l,k::ks,tm,bx)=>AL P ops l ⟨n,tm,bx,fr,ee⟩ (unK P Q (k::ks))
 | (.x x,k::ks,tm,bx)=>unK P Q (k::ks) x ⟨n,tm,bx,fr,ee⟩
theorem Y1 [Known][Dfr](P:Program)(n:Nat)(fr:List Fr)(ee:Nat × Nat)(Q:X->St->Prop)(p:Pos)(ks:List Fm)(tm:List (Nat × D))(bx:List (List D)):J P n fr ee Q (p,ks,tm,bx)=match p with
  | .aw c=>AW P c ⟨n,tm,bx,fr,ee⟩ (unK P Q ks)
  | .al ops l=>AL P ops l ⟨n,tm,bx,fr,ee⟩ (unK P Q ks)
  | .x x=>unK P Q ks x ⟨n,tm,bx,fr,ee⟩:=by
 cases p<;>cases ks<;>rfl
theorem J1 {o o':Nat}(h:Vo (List.replicate o ())=some o'):o=o':=by
 have:=YU h
 simpa using this
theorem OX [Known][Dfr](hT:chk P T=true){op:BinOp}{xt yt:Nat}{x y:Operand}{d:D}(h:OU T tm op xt x y=some d)(ht:Nat.blt t n=true)
  (k:AL P ops rest ⟨n,(t,d)::tm,bx,fr,ee⟩ Q):AL P ops (⟨some t,.binOp op xt x y yt,ty,pos,after,none⟩::rest) ⟨n,tm,bx,fr,ee⟩ Q:=by
 unfold OU at h
 split at h
 ·rename_i k1 m k2 q hx hy
  split at h
  ·rename_i e1 e2
   have e1:=of_decide_eq_true e1
   subst e1
   exact GJ hx hy e2 h ht k
  ·cases h
 ·rename_i p q hx hy
  cases op<;>simp only at h<;>first|cases h;done|exact GM hx hy rfl h ht k
 ·rename_i p q hx hy
  split at h
  ·rename_i ti hti
   split at h
   ·rename_i hk
    cases op<;>simp only at h<;>first|cases h;done|exact GO hT hx hy hti hk h ht k
   ·cases h
  ·cases h
 ·have hy:ev tm y=.nilp:=by assumption
  split at h
  ·rename_i p ti hp hti
   split at h
   ·rename_i e hk
    cases op<;>simp only at h<;>first|cases h;done|exact IV hT hp hy hti hk h ht k
   ·cases h
  ·cases h
 ·cases h
theorem Kw {st f:Nat}{fd:Fd}(h:I5 T st f=some fd):∃ ti fs,tl T st=some ti/\ti.kd=.struct fs/\fs[f]?=some fd/\Nat.beq fd.size 0=false:=by
 unfold I5 at h
 split at h
 ·rename_i ti hti
  split at h
  ·rename_i fs hk
   split at h
   ·rename_i fd' hf
    split at h
    ·rename_i hs
     cases h
     exact⟨ti,fs,hti,hk,hf,hs⟩
    ·cases h
   ·cases h
  ·cases h
 ·cases h
theorem OY [Known][Dfr](hT:chk P T=true){op:Op}{d:D}(h:OV T tm bx op=some d)(ht:Nat.blt t n=true)
  (k:AL P ops rest ⟨n,(t,d)::tm,bx,fr,ee⟩ Q):AL P ops (⟨some t,op,ty,pos,after,none⟩::rest) ⟨n,tm,bx,fr,ee⟩ Q:=by
 unfold OV at h
 split at h
 ·exact IK h ht k
 ·exact KL h ht k
 ·exact OX hT h ht k
 ·split at h
  ·rename_i hx;cases h;exact GK hx ht k
  ·cases h
 ·split at h
  ·rename_i hx
   split at h
   ·rename_i hs hd
    split at h
    ·rename_i hk;cases h;exact OJ hT hx hs hd hk ht k
    ·cases h
   ·cases h
  ·cases h
 ·split at h
  ·rename_i ti hti
   unfold GD at h
   split at h
   ·rename_i hx
    split at h
    ·rename_i cs hb
     split at h
     ·rename_i ha;exact OC hT hx hti ha hb h ht k
     ·rename_i ha
      split at h
      ·rename_i h1 h2;cases h;exact OD hT hx hti ha hb h1 h2 ht k
      ·cases h
    ·cases h
   ·rename_i hx
    split at h
    ·rename_i ha
     split at h
     ·rename_i he;exact KP hT hx hti ha he h ht k
     ·cases h
    ·rename_i ha
     split at h
     ·rename_i h1 h2;cases h;exact KQ hT hx hti ha h1 h2 ht k
     ·cases h
   ·cases h
  ·cases h
 ·split at h
  ·rename_i fd hfd
   obtain⟨ti,fs,h1,h2,h3,h4⟩:=Kw hfd
   split at h
   ·rename_i hx
    split at h
    ·rename_i ho;cases h;exact V3 hT hx h1 h2 h3 h4 (J1 ho) ht k
    ·cases h
   ·rename_i hx
    split at h
    ·rename_i ho;cases h;exact QO hT hx h1 h2 h3 h4 (J1 ho) ht k
    ·cases h
   ·cases h
  ·cases h
 ·split at h
  ·rename_i hx;cases h;exact JO hx ht k
  ·rename_i hx;cases h;exact Jt hx ht k
  ·cases h
 ·split at h
  ·rename_i hx;exact XO hx h ht k
  ·cases h
 ·split at h
  ·rename_i fd hfd
   obtain⟨ti,fs,h1,h2,h3,h4⟩:=Kw hfd
   split at h
   ·rename_i ti' hti'
    split at h
    ·rename_i ha
     split at h
     ·rename_i hx;exact KS hT hx h1 h2 h3 h4 hti' ha h ht k
     ·cases h
    ·cases h
   ·cases h
  ·cases h
 ·split at h
  ·rename_i ti hti
   split at h
   ·rename_i fs hk
    split at h
    ·rename_i cs hb
     split at h
     ·rename_i hn;cases h;exact OH hT hti hk rfl hb hn ht k
     ·cases h
    ·cases h
   ·cases h
  ·cases h
 ·split at h
  ·rename_i hds;cases h;exact JS hds ht k
  ·cases h
 ·cases h
theorem J2 [Known][Dfr](hT:chk P T=true){o:Oper}{r:Rs}(h:Kv T n tm bx o=some r)
  (k:AL P ops rest ⟨n,r.1,r.2,fr,ee⟩ Q):AL P ops (o::rest) ⟨n,tm,bx,fr,ee⟩ Q:=by
 unfold Kv at h
 split at h
 ·split at h
  ·rename_i hx
   split at h
   ·rename_i h1 h2 h3 h4;cases h;exact I0 hx h1 h2 h3 h4 k
   ·cases h
  ·cases h
 ·split at h
  ·rename_i hti
   split at h
   ·rename_i h2 h3 h4;cases h;exact KY hT hti h2 h3 h4 k
   ·cases h
  ·cases h
 ·split at h
  ·rename_i hx hy hti
   split at h
   ·rename_i h1 h2 h3
    split at h
    ·rename_i h4 h5;cases h;exact OF hT hx hy h1 hti h2 h3 h4 h5 k
    ·cases h
   ·cases h
  ·cases h
 ·split at h
  ·rename_i h1 h2;cases h;exact OY hT h1 h2 k
  ·cases h
 ·cases h
theorem Jv [Known][Dfr](hT:chk P T=true):∀(l:List Oper) (tm:List (Nat × D)) (bx:List (List D)) (l':List Oper) (r:Rs),OW T n l tm bx=(l',r)->AL P ops l' ⟨n,r.1,r.2,fr,ee⟩ Q->AL P ops l ⟨n,tm,bx,fr,ee⟩ Q
 | [],tm,bx,l',r,h,k=>by unfold OW at h;cases h;exact k
 | o::l,tm,bx,l',r,h,k=>by
  unfold OW at h
  split at h
  ·rename_i tm' bx' hs
   exact J2 hT hs (Jv hT l tm' bx' l' r h k)
  ·cases h;exact k
theorem Yh [Known][Dfr](hT:chk P T=true):∀(f:Nat) (p:Pos) (ks:List Fm) (tm:List (Nat × D)) (bx:List (List D)) (o:Pos × List Fm × Rs),goG T n f p ks tm bx=some o->J P n fr ee Q o->J P n fr ee Q (p,ks,tm,bx)
 | 0,p,ks,tm,bx,o,h,k=>by unfold goG at h;cases h;exact k
 | f+1,.aw c,ks,tm,bx,o,h,k=>by
  unfold goG at h
  rw[Y1]
  show AW P c ⟨n,tm,bx,fr,ee⟩ (unK P Q ks)
  split at h
  ·exact IN (by have:=Yh hT f _ _ _ _ _ h k;rwa [Y1]at this)
  ·exact Oo (by have:=Yh hT f _ _ _ _ _ h k;rwa [Y1]at this)
  ·exact IH (by have:=Yh hT f _ _ _ _ _ h k;rwa [Y1]at this)
  ·exact On (by have:=Yh hT f _ _ _ _ _ h k;rwa [Y1]at this)
  ·exact II (by have:=Yh hT f _ _ _ _ _ h k;rwa [Y1]at this)
  ·exact IJ (by have:=Yh hT f _ _ _ _ _ h k;rwa [Y1]at this)
  ·exact GH (by have:=Yh hT f _ _ _ _ _ h k;rwa [Y1]at this)
  ·rename_i id ops
   have:=Yh hT f _ _ _ _ _ h k;rw[Y1]at this
   exact KK (l:=ops.toList) (by simpa using this)
  ·exact KZ (by have:=Yh hT f _ _ _ _ _ h k;rwa [Y1]at this)
  ·exact K0 (by have:=Yh hT f _ _ _ _ _ h k;rwa [Y1]at this)
  ·cases h;rwa [Y1]at k
 | f+1,.al ops l,ks,tm,bx,o,h,k=>by
  unfold goG at h
  rw[Y1]
  show AL P ops l ⟨n,tm,bx,fr,ee⟩ (unK P Q ks)
  split at h
  ·rename_i tm' bx' hr
   exact Jv hT _ _ _ _ _ hr (Oq (by have:=Yh hT f _ _ _ _ _ h k;rwa [Y1]at this))
  ·rename_i o l' tm' bx' hr
   cases h;rw[Y1]at k;exact Jv hT _ _ _ _ _ hr k
 | f+1,.x x,ks,tm,bx,o,h,k=>by
  unfold goG at h
  rw[Y1]
  show unK P Q ks x ⟨n,tm,bx,fr,ee⟩
  split at h
  ·cases h;rwa [Y1]at k
  ·split at h
   ·split at h
    ·have:=Yh hT f _ _ _ _ _ h k;rwa [Y1]at this
    ·have:=Yh hT f _ _ _ _ _ h k;rwa [Y1]at this
   ·split at h
    ·split at h
     ·rename_i i _ id hb
      have:=Yh hT f _ _ _ _ _ h k;rw[Y1]at this
      obtain rfl:=Nat.eq_of_beq_eq_true hb
      exact Ox this
     ·rename_i i _ id hb
      exact IP hb (by have:=Yh hT f _ _ _ _ _ h k;rwa [Y1]at this)
    ·exact KN (by have:=Yh hT f _ _ _ _ _ h k;rwa [Y1]at this)
   ·rename_i k0 _ _ _
    cases k0 with
    | seq y=>exact KO (by have:=Yh hT f _ _ _ _ _ h k;rwa [Y1]at this)
    | blk id=>exact Oy (by have:=Yh hT f _ _ _ _ _ h k;rwa [Y1]at this)
   ·rename_i k0 _ _
    cases k0 with
    | seq y=>exact V2 (by have:=Yh hT f _ _ _ _ _ h k;rwa [Y1]at this)
    | blk id=>exact IQ (by have:=Yh hT f _ _ _ _ _ h k;rwa [Y1]at this)
   ·rename_i k0 _ _ _
    cases k0 with
    | seq y=>exact Ow (by have:=Yh hT f _ _ _ _ _ h k;rwa [Y1]at this)
    | blk id=>exact IR (by have:=Yh hT f _ _ _ _ _ h k;rwa [Y1]at this)
theorem Zg [Known][Dfr](hT:chk P T=true){c:Code}{o:Pos × List Fm × Rs}(h:goA T n c tm bx=some o)(k:J P n fr ee Q o):AW P c ⟨n,tm,bx,fr,ee⟩ Q:=by
 unfold goA at h
 split at h<;>first|cases h;done|skip
 all_goals exact Yh hT _ _ _ _ _ _ h k
theorem Zj [Known][Dfr](hT:chk P T=true){o:Pos × List Fm × Rs}(h:goL T n ops rest tm bx=some o)(k:J P n fr ee Q o):AL P ops rest ⟨n,tm,bx,fr,ee⟩ Q:=by
 unfold goL at h
 split at h
 ·cases h;exact Oq k
 ·split at h
  ·rename_i tm' bx' hs
   exact J2 hT hs (Yh hT _ _ _ _ _ _ h k)
  ·cases h
theorem Zv [Known][Dfr](hT:chk P T=true){x:X}{ks:List Fm}{o:Pos × List Fm × Rs}(h:goK T n x ks tm bx=some o)(k:J P n fr ee Q o):unK P Q ks x ⟨n,tm,bx,fr,ee⟩:=by
 unfold goK at h
 split at h
 ·cases h
 ·have:=Yh hT _ _ _ _ _ _ h k;rwa [Y1]at this
end
def G0 (T:Tab)(tm:List (Nat × D))(bx:List (List D)):ResultVar->Option D
 | .tmp t=>nf (look tm t)
 | .cell a t=>match look tm a,tl T t with
  | .ptr b o,some ti=>match bx[b]? with
   | some cs=>match ti.kd.agg with
    | false=>match cs[o]? with
     | some d=>nf d
     | none=>none
    | true=>match Nat.ble (o+ti.size) cs.length,nfs ((cs.drop o).take ti.size) with
     | true,some cs'=>some (.agg cs')
     | _,_=>none
   | none=>none
  | _,_=>none
def I6 (T:Tab)(tm:List (Nat × D))(bx:List (List D)):List ResultVar->Option (List D)
 | []=>some []
 | r::rs=>match G0 T tm bx r,I6 T tm bx rs with
  | some d,some ds=>some (d::ds)
  | _,_=>none
theorem Zc {P:Program}{T:Tab}(hT:chk P T=true){n:Nat}{ee:Nat × Nat}{tm:List (Nat × D)}{bx:List (List D)}{fr:List Fr}:∀ {rs:List ResultVar} {ds:List D},I6 T tm bx rs=some ds->ResL P ⟨n,tm,bx,fr,ee⟩ rs ds
 | [],ds,h=>by unfold I6 at h;cases h;exact .nil
 | r::rs,ds,h=>by
  unfold I6 at h
  split at h
  ·rename_i d ds' h1 h2
   cases h
   refine .cons _ _ _ _ ?_ (Zc hT h2)
   cases r with
   | tmp t=>
    unfold G0 at h1
    exact .tmp _ _ (Yj h1)
   | cell a t=>
    simp only[G0]at h1
    split at h1
    ·rename_i b o ti ha hti
     split at h1
     ·rename_i cs hb
      split at h1
      ·rename_i hag
       split at h1
       ·rename_i d' hd
        have hd':=Yj h1
        subst hd'
        exact .cell1 a t b o cs _ ha (by rw[(ZF hT hti).tAgg,hag]) hb hd
       ·cases h1
      ·rename_i hag
       split at h1
       ·rename_i h3 h4
        cases h1
        exact .celln a t b o ti.size cs _ ha (by rw[(ZF hT hti).tAgg,hag]) (ZF hT hti).tSize hb h3 (by rw[Y7 h4])
       ·cases h1
     ·cases h1
    ·cases h1
  ·cases h
end Go.Av
end
