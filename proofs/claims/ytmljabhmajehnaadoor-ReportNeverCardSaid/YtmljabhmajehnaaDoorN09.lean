/- Package-level tables read; calls of function values; contracts with a panic; panics in regions that draw their order. -/
import Derived.Test.YtmljabhmajehnaaDoorN08
import Derived.Laws.MakeOwn
set_option linter.unusedSimpArgs false
set_option linter.unusedVariables false
section
open Go.RowKit Go.Pl
namespace Go.Av
section
variable {P:Program} {Q:X->St->Prop} {n:Nat} {ee:Nat × Nat} {tm tm':List (Nat × D)} {bx bx':List (List D)} {fr fr':List Fr} {b0:Bs} {g:G} {w:World} {a:Act} {T:Tab}
variable {ops:Array Oper} {rest:List Oper} {t ty:Nat} {pos:String} {after:Array Edge}
theorem VH {k o:Nat}{v:Value}(h:V w g fr (.gptr k o) v):v=.pointer (some ⟨k,o,none⟩):=by cases h;rfl
theorem Yf [Known][Dfr](hT:chk P T=true){x y:Operand}{st e k o len:Nat}{kk0:IntKind}{i:Int}{ti te:Ti}(hx:ev tm x=.gptr k o)(hy:ev tm y=.int kk0 i)(ht:tl T st=some ti)(hk:ti.kd=.array len e)(hte:tl T e=some te)(htd:Nat.blt t n=true)
  (h0:0<=i) (hlt:i.toNat<len)
  (kk:AL P ops rest ⟨n,(t,.gptr k (o+i.toNat*te.size))::tm,bx,fr,ee⟩ Q):AL P ops (⟨some t,.indexAddr st x y,ty,pos,after,none⟩::rest) ⟨n,tm,bx,fr,ee⟩ Q:=
 ZR _ htd (fun g a w hi=>by
  have h1:V w g fr (ev tm x) (a.eval x):=hi.ev x
  rw[hx]at h1
  have h1:=VH h1
  have h2:V w g fr (ev tm y) (a.eval y):=hi.ev y
  rw[hy]at h2
  have h2:=h2.int_inv
  obtain⟨u,hu,hkd⟩:=(ZM hT ht).under
  rw[hk]at hkd
  have hu:P.underlying st=some (.array len e):=by
   unfold Qx at hkd
   split at hkd
   all_goals first|(cases hkd;exact hu)|(split at hkd<;>cases hkd)|cases hkd
  have hsz:=Z6 (P:=P) (t:=e) (ZM hT hte).tSize w
  refine⟨_,?_,.gptr k (o+i.toNat*te.size)⟩
  have hb:0<=i/\i<(len:Int):=⟨h0,by omega⟩
  have hadd:(⟨k,o,none⟩:Addr).add (i.toNat*te.size)=⟨k,o+i.toNat*te.size,none⟩:=by unfold Addr.add;split<;>simp_all
  simp[execOp,h1,h2,Instr.indexAt,asIntOf,Instr.sureAddr,Sem.run_bind,run_underlying hu,hb,hsz,hadd]) kk
theorem ZS [Known][Dfr](hT:chk P T=true){x:Operand}{lt k o:Nat}{cs:List Value}{v:Value}{d:D}{ti:Ti}(hx:ev tm x=.gptr k o)(ht:tl T lt=some ti)(ha:ti.kd.agg=false)(hk:k ∈ Known.ks)(hc:(k,cs) ∈ Kr)(hv:cs[o]?=some v)(hd:Ue v=d)(htd:Nat.blt t n=true)
  (kk:AL P ops rest ⟨n,(t,d)::tm,bx,fr,ee⟩ Q):AL P ops (⟨some t,.load lt x,ty,pos,after,none⟩::rest) ⟨n,tm,bx,fr,ee⟩ Q:=
 ZR d htd (fun g a w hi=>by
  have h1:V w g fr (ev tm x) (a.eval x):=hi.ev x
  rw[hx]at h1
  have h1:=VH h1
  have hcell:=(hi.mem.gl.1 k cs ⟨hk,hc⟩ o v hv).2
  refine⟨v,?_,hd ▸ Vx _ _ _ v⟩
  simp[execOp,h1,Instr.loadAt,Instr.sureAddr,Sem.run_bind,Qv (P:=P) (by rw[(ZM hT ht).tAgg,ha]) hcell]) kk
theorem ZT [Known][Dfr](hT:chk P T=true){x:Operand}{lt k o:Nat}{cs vs:List Value}{ds:List D}{ti:Ti}(hx:ev tm x=.gptr k o)(ht:tl T lt=some ti)(ha:ti.kd.agg=true)(hk:k ∈ Known.ks)(hc:(k,cs) ∈ Kr)(hv:(cs.drop o).take ti.size=vs)(hl:Nat.beq vs.length ti.size=true)(hd:vs.map Ue=ds)(htd:Nat.blt t n=true)
  (kk:AL P ops rest ⟨n,(t,.agg ds)::tm,bx,fr,ee⟩ Q):AL P ops (⟨some t,.load lt x,ty,pos,after,none⟩::rest) ⟨n,tm,bx,fr,ee⟩ Q:=
 ZR _ htd (fun g a w hi=>by
  have h1:V w g fr (ev tm x) (a.eval x):=hi.ev x
  rw[hx]at h1
  have h1:=VH h1
  have hl':=Nat.eq_of_beq_eq_true hl
  have hcell:∀ j v,vs[j]?=some v->w.cell? ⟨k,o+j,none⟩=some v:=fun j v hj=>by
   subst hv
   have hj':j<ti.size/\cs[o+j]?=some v:=by simpa[List.getElem?_take]using hj
   exact(hi.mem.gl.1 k cs ⟨hk,hc⟩ (o+j) v hj'.2).2
  refine⟨.agg vs.toArray,?_,?_⟩
  ·simp[execOp,h1,Instr.loadAt,Instr.sureAddr,Sem.run_bind,Qw (P:=P) (by rw[(ZM hT ht).tAgg,ha]) vs (by rw[(ZM hT ht).tSize,hl']) hcell]
  ·subst hd
   refine .agg _ vs (by simp) fun j d v hj hv=>?_
   rw[List.getElem?_map,hv]at hj
   simp at hj
   exact hj ▸ Vx _ _ _ v) kk
theorem WR [Known][Dfr](hT:chk P T=true){x lo:Operand}{st e:Nat}{tk:Tok}{bs bs2:List UInt8}{l:List E}{k0:IntKind}{i:Int}{ti te:Ti}(hx:ev tm x=.sl tk l)(hl:l=bs.map E.byte)(ht:tl T st=some ti)(hk:ti.kd=.slice e)(hte:tl T e=some te)(hsz:Nat.beq te.size 1=true)(htd:Nat.blt t n=true)
  (hlo:ev tm lo=.int k0 i) (h0:0<=i) (hle:i.toNat<=bs.length) (hd:bs.drop i.toNat=bs2)
  (kk:AL P ops rest ⟨n,(t,.sl .ext (bs2.map E.byte))::tm,bx,fr,ee⟩ Q):AL P ops (⟨some t,.slice st x (some lo) none none,ty,pos,after,none⟩::rest) ⟨n,tm,bx,fr,ee⟩ Q:=by
 subst hd
 refine Jn hT hx ht hk hte htd (.lit lo _ k0 i hlo h0) (.dft _) (by rw[hl,List.length_map];exact hle) (Nat.le_refl _) ?_ ?_ kk
 ·rw[Nat.eq_of_beq_eq_true hsz,hl];exact Uni.map (f:=E.byte) (fun _=>rfl) bs
 ·rw[hl,List.take_of_length_le (Nat.le_refl _),List.map_drop]
theorem X6 [Known][Dfr](hT:chk P T=true){x lo hh:Operand}{st e:Nat}{tk:Tok}{bs bs2:List UInt8}{l:List E}{k0 k1:IntKind}{i j:Int}{ti te:Ti}(hx:ev tm x=.sl tk l)(hl:l=bs.map E.byte)(ht:tl T st=some ti)(hk:ti.kd=.slice e)(hte:tl T e=some te)(hsz:Nat.beq te.size 1=true)(htd:Nat.blt t n=true)
  (hlo:ev tm lo=.int k0 i) (hhi:ev tm hh=.int k1 j) (h0:0<=i) (hij:i<=j) (hle:j.toNat<=bs.length) (hd:(bs.take j.toNat).drop i.toNat=bs2)
  (kk:AL P ops rest ⟨n,(t,.sl .ext (bs2.map E.byte))::tm,bx,fr,ee⟩ Q):AL P ops (⟨some t,.slice st x (some lo) (some hh) none,ty,pos,after,none⟩::rest) ⟨n,tm,bx,fr,ee⟩ Q:=by
 subst hd
 refine Jn hT hx ht hk hte htd (.lit lo _ k0 i hlo h0) (.lit hh _ k1 j hhi (by omega)) (by omega) (by rw[hl,List.length_map];exact hle) ?_ ?_ kk
 ·rw[Nat.eq_of_beq_eq_true hsz,hl];exact Uni.map (f:=E.byte) (fun _=>rfl) bs
 ·rw[hl,List.map_drop,List.map_take]
theorem Hh [Known][Dfr](hT:chk P T=true){x hh mx:Operand}{st e:Nat}{tk:Tok}{bs:List UInt8}{l:List E}{k2 k3:IntKind}{j m:Int}{ti te:Ti}(hx:ev tm x=.sl tk l)(hl:l=bs.map E.byte)(ht:tl T st=some ti)(hk:ti.kd=.slice e)(hte:tl T e=some te)(hsz:Nat.beq te.size 1=true)(htd:Nat.blt t n=true)
  (hhi:ev tm hh=.int k2 j) (hmx:ev tm mx=.int k3 m) (hj0:j=(bs.length:Int)) (hm0:m=(bs.length:Int))
  (kk:AL P ops rest ⟨n,(t,.sl .ext (bs.map E.byte))::tm,bx,fr,ee⟩ Q):AL P ops (⟨some t,.slice st x none (some hh) (some mx),ty,pos,after,none⟩::rest) ⟨n,tm,bx,fr,ee⟩ Q:=
 ZR _ htd (fun g a w hi=>by
  subst hl
  have h1:V w g fr (ev tm x) (a.eval x):=hi.ev x
  rw[hx]at h1
  obtain⟨a1,_⟩:=WY h1
  have hu:=(ZM hT ht).slice hk
  have hsz2:=Z6 (P:=P) (t:=e) (ZM hT hte).tSize w
  have e2:a.eval hh=.int k2 j:=Bnd.val (S:=⟨n,tm,bx,fr,_⟩) hi hhi
  have e3:a.eval mx=.int k3 m:=Bnd.val (S:=⟨n,tm,bx,fr,_⟩) hi hmx
  subst hj0 hm0
  obtain⟨A,cap,hv,hcap,hmax⟩:∃ A cap,a.eval x=.slice A bs.length cap/\bs.length<=cap/\cap<=maxLen:=by
   generalize hq:E.sl (bs.map E.byte)=q at a1
   generalize a.eval x=v at a1
   cases a1 with
   | slC l' b off cap us h1 h2 _ _ _=>injection hq with hq;subst hq;exact⟨some ⟨b,off,none⟩,cap,by rw[List.length_map],by rw[List.length_map]at h1;exact h1,h2⟩
   | slE A cap h => injection hq with hq; have : bs = [] := by simpa using hq
                    subst this;exact⟨A,cap,rfl,Nat.zero_le _,h⟩
   | _=>cases hq
  have b1:(0:Int)<=(bs.length:Int)/\(bs.length:Int)<=(cap:Int):=by omega
  have b2:(0:Int)<=(bs.length:Int)/\(bs.length:Int)<=(bs.length:Int):=by omega
  have hb:(Instr.sliceBounds true bs.length cap none (some (.int k2 (bs.length:Int))) (some (.int k3 (bs.length:Int)))).run P w=.ok (0,bs.length,bs.length) w:=by
   simp only[Instr.sliceBounds,Instr.sliceBound,asIntOf,Sem.run_bind,Sem.run_pure,Result.andThen_ok,if_pos b1,Int.toNat_natCast,if_pos b2]
  refine⟨.slice (if bs.length=0 then A else A.map (·.add (0*te.size))) (bs.length-0) (bs.length-0),?_,?_⟩
  ·have hrun:(Instr.sliceAt st (.slice A bs.length cap) none (some (.int k2 (bs.length:Int))) (some (.int k3 (bs.length:Int)))).run P w=.ok (.slice (if bs.length=0 then A else A.map (·.add (0*te.size))) (bs.length-0) (bs.length-0)) w:=by
    simp[Instr.sliceAt,Instr.slice,Sem.run_bind,run_underlying hu,hb,hsz2]
   simp only[execOp,hv,e2,e3,Sem.run_bind,Option.map_some,Option.map_none,hrun,Result.andThen_ok]
   rfl
  ·rw[Nat.sub_zero]
   refine .sl _ _ _ ?_ trivial
   by_cases he:bs.length=0
   ·have hnil:bs=[]:=List.eq_nil_of_length_eq_zero he
    subst hnil
    exact .slE _ _ (by omega)
   ·rw[if_neg he]
    rw[hv]at a1
    generalize hq':E.sl (bs.map E.byte)=qq at a1
    generalize hs:Value.slice A bs.length cap=s at a1
    cases a1 with
    | slC l' b off cap' us h1 h2 hc hw hvv=>
     injection hq' with hq';subst hq'
     injection hs with q1 q2 q3
     subst q1 q3
     have hadd:(⟨b,off,none⟩:Addr).add (0*te.size)=⟨b,off,none⟩:=by rw[Nat.zero_mul];rfl
     have:=VE.slC (w:=w) (C:=g.C) (bs.map E.byte) b off bs.length us (by rw[List.length_map];exact Nat.le_refl _) (by omega) hc hw hvv
     rw[List.length_map]at this
     rw[Option.map_some,hadd]
     exact this
    | slE A cap h => injection hq' with hq'; have : bs = [] := by simpa using hq'
                     simp[this]at he
    | _=>cases hq') kk
theorem Ga [Known][Dfr]{S:St}{x y:Code}(h:AW P x S Q):AW P (.cond (.const (.bool true)) x y) S Q:=⟨fun b0 g a w hi=>wp_cond_true rfl (h.run b0 g a w hi)⟩
theorem Gb [Known][Dfr]{S:St}{x y:Code}(h:AW P y S Q):AW P (.cond (.const (.bool false)) x y) S Q:=⟨fun b0 g a w hi=>wp_cond_false rfl (h.run b0 g a w hi)⟩
def D.isIf:D->Bool
 | .iface _ _=>true
 | _=>false
theorem Gc [Known][Dfr]{x:Operand}{d:D}{td:Option Nat}(hx:nf (ev tm x)=some d)(hn:d.isIf=true)(k:Q (.pan d) ⟨n,tm,bx,fr,ee⟩):AL P ops (⟨td,.panic x,ty,pos,after,none⟩::rest) ⟨n,tm,bx,fr,ee⟩ Q:=by
 cases d with
 | iface t d=>exact G8 hx rfl k
 | _=>cases hn
theorem NS {f:FuncId}{l:List D}{v:Value}(h:V w g fr (.fn f l) v):∃ vs:List Value,v=.func (.func f) #[] vs.toArray/\vs.length=l.length/\∀(j:Nat) (d:D) (v:Value),l[j]?=some d->vs[j]?=some v->V w g fr d v:=by
 cases h with
 | fn _ _ vs hl h=>exact⟨vs,rfl,hl,h⟩
end
theorem Hi [Known][Dfr]{P:Program}{Q:X->St->Prop}{S:St}{ops:Array Oper}{rest:List Oper}{t:Option Nat}{ty:Nat}{pos:String}{after:Array Edge}{f:FuncId}{x:Operand}{ars:Array Operand}{ats:Array TypeId}(bs ts:List Nat)
  {cds caps:List D} {bxs:List (List D)} {frs:List Fr} {post:R->List (List D)->List Fr->Prop} (hx:ev S.tm x=.fn f caps) (hf:UR P f=true) (hAC:AC P f cds bxs frs post)
  (hc:(ars.toList.map (ev S.tm)++caps).map (D.ren (idx bs) (idx ts))=cds) (hb:YE bs S.bx.length) (ht:YE ts S.fr.length) (hbx:Uc bs ts S.bx=bxs) (hfr:Vy ts S.fr=frs) (htd:(match t with|some t=>Nat.blt t S.n|none=>true)=true)
  (hp:∀ d bx' fr',post (.pan d) bx' fr'->bs.length<=bx'.length/\Q (.pan (d.ren (upN bs S.bx.length) (upN ts S.fr.length))) ⟨S.n,S.tm,UF bs ts S.bx S.fr.length bx',Vz ts S.fr fr',S.e⟩)
  (k:∀ d bx' fr',post (.ret d) bx' fr'->bs.length<=bx'.length/\AL P ops rest (S.aft bs ts bx' fr' t d) Q):AL P ops (⟨t,.call { callee:=.value x,args:=ars,argTypes:=ats },ty,pos,after,none⟩::rest) S Q:=by
 refine⟨fun b0 g a w hi=>?_⟩
 refine wpList_plain rfl fun K hK=>?_
 have hvx:=hi.ev x
 rw[hx]at hvx
 obtain⟨cvs,hcv,hcl,hcV⟩:=NS hvx
 have hrun:(execOp a.eval ⟨t,.call { callee:=.value x,args:=ars,argTypes:=ats },ty,pos,after,none⟩).run P w=.ok (.enter f (ars.toList.map a.eval++cvs).toArray) w:=by
  have e:ars.map a.eval++cvs.toArray=(ars.toList.map a.eval++cvs).toArray:=by
   rw[<- List.append_toArray,<- Array.toList_map,Array.toArray_toList]
  have hz:=WP hf (ars.toList.map a.eval++cvs).toArray w
  rw[<- e]at hz ⊢
  simpa[execOp,resolve,hcv,Deferred.ofValue,invoke,Sem.run_bind]using hz
 unfold Oper.wp
 rw[hrun]
 have hm:=hi.mem
 have hcall:=hAC.run (g.sel bs ts) w (ars.toList.map a.eval++cvs) (by rw[<- hbx,<- hfr];exact hm.sel hb ht) (by rw[<- hc];simp[hcl]) (fun j d v hd hv=>by
  rw[<- hc,List.getElem?_map]at hd
  cases hj:(ars.toList.map (ev S.tm)++caps)[j]? with
  | none=>simp only[hj,Option.map_none]at hd;cases hd
  | some d0=>
   simp only[hj,Option.map_some,Option.some.injEq]at hd
   subst hd
   rw[<- hfr]
   refine V.sel hm hb ht ?_
   rcases Nat.lt_or_ge j ars.toList.length with hlt|hge
   ·rw[List.getElem?_append_left (by simpa using hlt)]at hj hv
    exact evs hi ars j d0 v hj hv
   ·rw[List.getElem?_append_right (by simpa using hge)]at hj hv
    simp only[List.length_map]at hj hv
    exact hcV _ d0 v hj hv)
 refine hcall.mono fun e w' ⟨g',bx',fr',r,he,hm',hr,hpost⟩=>?_
 rw[<- hfr]at he
 have common:bs.length<=bx'.length->Inv b0 ⟨S.n,S.tm,UF bs ts S.bx S.fr.length bx',Vz ts S.fr fr',S.e⟩ (WW bs ts g g') a w'/\∀ d v,V w' g' fr' d v->V w' (WW bs ts g g') (Vz ts S.fr fr') (d.ren (upN bs S.bx.length) (upN ts S.fr.length)) v:=fun hle=>by
  obtain⟨q1,q2,q3⟩:=Go.Av.aft hm hb ht he hm' hle
  exact⟨⟨hi.size,hi.defers,q1,fun t=>(hi.tm t).evo q2,hi.evo.trans q2,hi.bd⟩,q3⟩
 cases r with
 | ret d=>
  obtain⟨v,rfl,hv⟩:=hr
  obtain⟨hle,hk⟩:=k d bx' fr' hpost
  obtain⟨hi2,hup⟩:=common hle
  refine hK _ _ (hk.run b0 (WW bs ts g g') _ w' ?_)
  cases t with
  | none=>exact hi2
  | some t=>exact hi2.put htd (hup d v hv)
 | pan d=>
  obtain⟨v,rfl,hv⟩:=hr
  obtain⟨hle,hq⟩:=hp d bx' fr' hpost
  obtain⟨hi2,hup⟩:=common hle
  exact⟨_,_,v,_,hi2,rfl,hup d v hv,hq⟩
section
variable {P:Program} {Q:X->St->Prop} {n:Nat} {ee:Nat × Nat} {tm:List (Nat × D)} {bx:List (List D)} {fr:List Fr} {ops:Array Oper} {rest:List Oper} {ty:Nat} {pos:String} {after:Array Edge} {f:FuncId} {ars:Array Operand} {ats:Array TypeId}
theorem Vb [Known][Dfr]{t:Nat}{x:Operand}{cds caps:List D}{d d':D}(hAC:AP P f cds d [])(hx:ev tm x=.fn f caps)(hf:UR P f=true)
  (hc:D.wks ((ars.toList.map (ev tm)++caps).map (D.ren (idx []) (idx [])))=cds) (htd:Nat.blt t n=true) (hd:nf (d.ren (upN [] bx.length) (upN [] fr.length))=some d')
  (k:AL P ops rest ⟨n,(t,d')::tm,bx,fr,ee⟩ Q):AL P ops (⟨some t,.call { callee:=.value x,args:=ars,argTypes:=ats },ty,pos,after,none⟩::rest) ⟨n,tm,bx,fr,ee⟩ Q:=by
 refine Hi [] [] hx hf (AC.unwk (hc ▸ hAC)) rfl (ZE _) (ZE _) rfl rfl htd (fun _ _ _ h=>by cases h.1) fun d0 bx' fr' h=>?_
 obtain⟨h1,rfl,rfl⟩:=h
 injection h1 with h1
 subst h1
 refine⟨Nat.le_refl _,?_⟩
 have e1:=Yz hd
 subst e1
 simpa[St.aft,UF,Vz,WG]using k
end
def AX [Known](P:Program)(f:FuncId)(args:List D)(bx:List (List D))(p:D):Prop:=AC P f args bx [] fun r b fr=>r=.pan p/\bx.length<=b.length
def D.pure:D->Bool
 | .bool _ | .int _ _ | .str _ | .nilp | .nilf | .nili=>true
 | .iface _ (.agg l)=>l.all fun | .bool _ | .int _ _ | .str _=>true|_=>false
 | .iface _ d=>match d with | .bool _ | .int _ _ | .str _=>true|_=>false
 | _=>false
def Hj (k:Nat)(o:Except D (D × List (List D))):R->List (List D)->List Fr->Prop:=fun r b fr=>match o with
 | .ok (d,bx')=>∃ d0,r=.ret d0/\d0.wk=d/\b.map D.wks=bx'/\fr=[]
 | .error p=>r=.pan p/\k<=b.length
def AR [Known](P:Program)(f:FuncId)(args:List D)(bx:List (List D))(o:Except D (D × List (List D))):Prop:=AC P f args bx [] (Hj bx.length o)
theorem AR.q [Known]{P:Program}{f:FuncId}{args:List D}{bx bx':List (List D)}{d:D}{o:Except D (D × List (List D))}(h:AR P f args bx o)(e:o=.ok (d,bx')):AQ P f args bx d bx':=by
 subst e
 exact AQ.weak h
theorem AR.x [Known]{P:Program}{f:FuncId}{args:List D}{bx:List (List D)}{p:D}{o:Except D (D × List (List D))}(h:AR P f args bx o)(e:o=.error p):AX P f args bx p:=by
 subst e
 exact h
theorem U8 {P:Program}{rs:List ResultVar}{S:St}{d d':D}{ds:List D}{bx' B:List (List D)}{k:Nat}{o:Except D (D × List (List D))}(ho:o=.ok (d,bx'))(bs:List Nat)(h:ResL P S rs ds)(hb:Vm bs S.bx.length=true)(hk:Xm k bs=true)(hn:nf (((J5 ds).ren (idx bs) (idx [])).wk)=some d')(hB:nfb ((Uc bs [] S.bx).map D.wks)=some B)(hd:d'=d)(hB':B=bx') :
  VU P rs k 0 (Hj k o) .ret S:=by
 subst ho
 exact Zr bs h hb hk hn hB hd hB'
theorem W7 {P:Program}{rs:List ResultVar}{S:St}{d p:D}{k:Nat}{o:Except D (D × List (List D))}(ho:o=.error p)(hk:k<=S.bx.length)(hd:nf (d.ren (idx (List.range k)) (idx []))=some p):VU P rs k 0 (Hj k o) (.pan d) S:=by
 subst ho
 refine⟨List.range k,[],Kv hk,ZE _,fun i hi=>by simp[hi],fun i hi=>by omega,?_,?_⟩
 ·rw[Yz hd]
 ·simp[Uc]
section
variable {P:Program} {Q:X->St->Prop} {n:Nat} {ee:Nat × Nat} {tm:List (Nat × D)} {bx:List (List D)} {fr:List Fr} {ops:Array Oper} {rest:List Oper} {ty:Nat} {pos:String} {after:Array Edge} {f:FuncId} {ars:Array Operand} {ats:Array TypeId}
theorem Z0 [Known][Dfr]{t:Option Nat}{cds:List D}{p p':D}{bxs:List (List D)}(bs:List Nat)(hX:AX P f cds bxs p)(hf:UR P f=true)
  (hc:D.wks ((ars.toList.map (ev tm)).map (D.ren (idx bs) (idx [])))=cds) (hb:Vm bs bx.length=true) (hbx:Uc bs [] bx=bxs) (hle:Nat.ble bs.length bxs.length=true) (htd:(match t with|some t=>Nat.blt t n|none=>true)=true) (hp:nf (p.ren (upN bs bx.length) (upN [] fr.length))=some p')
  (k:∀ bx2 fr2,bx.length<=bx2.length->Q (.pan p') ⟨n,tm,bx2,fr2,ee⟩):AL P ops (⟨t,.call { callee:=.value (.func f),args:=ars,argTypes:=ats },ty,pos,after,none⟩::rest) ⟨n,tm,bx,fr,ee⟩ Q:=by
 refine U1 bs [] hf (AC.unwk (hc ▸ hX)) rfl (YI hb) (ZE _) hbx rfl htd (fun d bx' fr' h=>?_) fun d0 bx' fr' h=>by cases h.1
 obtain⟨h1,h2⟩:=h
 injection h1 with h1
 subst h1
 have hle:=Nat.le_of_ble_eq_true hle
 refine⟨by omega,?_⟩
 have e:=Yz hp
 subst e
 exact k _ _ (by simp[UF,ZN])
end
end Go.Av
end
section
open Go.RowKit Go.Pl
namespace Go.Av
section
variable {P:Program} {T:Tab} {Q:X->St->Prop} {n:Nat} {ee:Nat × Nat} {tm:List (Nat × D)} {bx:List (List D)} {fr fr':List Fr} {b0:Bs} {g:G} {w:World} {a:Act}
variable {ops:Array Oper} {rest:List Oper} {t ty:Nat} {pos:String} {after:Array Edge}
theorem Hk [Known][Dfr]{x:Operand}{xt:Nat}{k:IntKind}{q:Int}(hx:ev tm x=.int k q)(ht:Nat.blt t n=true)
  (kk:AL P ops rest ⟨n,(t,.int k (bits .xor k (if k.signed then -1 else k.max) q))::tm,bx,fr,ee⟩ Q):AL P ops (⟨some t,.unOp .xor xt x,ty,pos,after,none⟩::rest) ⟨n,tm,bx,fr,ee⟩ Q:=
 ZR _ ht (fun g a w hi=>by
  have h1:V w g fr (ev tm x) (a.eval x):=hi.ev x;rw[hx]at h1;have h1:=h1.int_inv
  exact⟨.int k (bits .xor k (if k.signed then -1 else k.max) q),by simp[execOp,h1,Op.unary];rfl,.int _ _⟩) kk
theorem KG (k:IntKind):∀ m:Nat,flat (List.replicate m (E.int k 0))=List.replicate m (E.int k 0)
 | 0=>rfl
 | m+1=>by rw[List.replicate_succ,Y9,KG k m];rfl
theorem TB (k:IntKind)(m:Nat):Uni 1 (List.replicate m (E.int k 0)):=fun x hx=>by rw[(List.mem_replicate.1 hx).2];rfl
theorem U9 [Known][Dfr](hT:chk P T=true){st e:Nat}{x y:Operand}{kx ky k0:IntKind}{q:Int}{m l:Nat}{ti te:Ti}(hx:ev tm x=.int kx q)(hy:ev tm y=.int ky q)(hq:q=(l:Int))(ht:tl T st=some ti)(hk:ti.kd=.slice e)(hte:tl T e=some te)(hz:te.zero=[.i k0])
  (hb:Nat.ble (te.bytes*l) 281474976710656=true) (hl:Nat.ble l maxLen=true) (hm:fr.length=m) (hf:nfl (fr++[⟨l,1,e⟩])=some fr') (htd:Nat.blt t n=true)
  (k:AL P ops rest ⟨n,(t,.sl (.own m) (List.replicate l (.int k0 0)))::tm,bx,fr',ee⟩ Q):AL P ops (⟨some t,.makeSlice st x y,ty,pos,after,none⟩::rest) ⟨n,tm,bx,fr,ee⟩ Q:=
 US _ htd (fun g a w hi=>by
  have h1:V w g fr (ev tm x) (a.eval x):=hi.ev x;rw[hx]at h1;have h1:=h1.int_inv
  have h2:V w g fr (ev tm y) (a.eval y):=hi.ev y;rw[hy]at h2;have h2:=h2.int_inv
  subst hq
  have hu:=(ZM hT ht).slice hk
  obtain⟨i,u,z,i1,i2,i3,i4,i5,i6,i7⟩:=(ZM hT hte).out
  have hsz:te.size=1:=by rw[<- (ZM hT hte).len,hz];rfl
  rw[hz]at i7
  have hzc:z.cells = #[.int k0 0]:=by
   have hl1:=(WX (w:=w) (g:=g) (fr:=fr) i7).1
   match hzl:z.cells.toList,hl1 with
   | [v],_=>
    rw[hzl]at i7
    simp only[zks]at i7
    cases hv:zk v with
    | none=>rw[hv]at i7;cases i7
    | some z'=>
     rw[hv]at i7
     simp only[Option.some.injEq,List.cons.injEq,and_true]at i7
     subst i7
     unfold zk at hv
     split at hv<;>try(cases hv;done)
     ·split at hv
      ·cases hv
       refine Array.toList_inj.1 (hzl.trans ?_)
       simp_all
      ·cases hv
     ·split at hv<;>cases hv
  have hb':=Nat.le_of_ble_eq_true hb
  have hl':=Nat.le_of_ble_eq_true hl
  have hl2:l<=9223372036854775807:=hl'
  have hb2:(i.bytes:Int)*(l:Int)<=281474976710656:=by
   rw[<- i6];have:((te.bytes*l:Nat):Int)<=281474976710656:=by omega
   rwa [Int.natCast_mul]at this
  have hr:=run_make (P:=P) w st e i z hu i1 i3 kx ky (l:Int) (l:Int) (by omega) (Int.le_refl _) hb2 (by omega)
  rw[Int.toNat_natCast,<- i5,hsz,Nat.mul_one,hzc]at hr
  have hcl:(madeCells #[Value.int k0 0] l).toList=List.replicate l (.int k0 0):=by
   apply List.ext_getElem?
   intro j
   by_cases hj:j<l
   ·simp[madeCells,List.getElem?_replicate,hj,Nat.mod_one]
   ·simp[madeCells,List.getElem?_replicate,hj]
  obtain⟨k1,k2,k3⟩:=hi.mem.row (List.replicate l (.int k0 0)) (List.replicate l (.int k0 0)) l 1 e (by decide) (by simp) (by simp) hl' (TB k0 l) (fun j x u hx hu=>by
   rw[KG]at hx
   rw[List.getElem?_replicate]at hx hu
   split at hx
   ·rename_i hj;rw[if_pos hj]at hu;cases hx;cases hu;exact .int _ _
   ·cases hx)
  rw[List.length_replicate]at k1 k2 k3
  have e1:=Yd hf
  subst e1 hm
  refine⟨.slice (some ⟨w.heap.size,0,none⟩) l l,_,_,?_,k1,k2,k3⟩
  rw[<- hcl]
  simp only[execOp,Sem.run_bind,h1,h2,hr]
  rfl) k
theorem Hl [Known][Dfr](hT:chk P T=true){x hh:Operand}{st e:Nat}{tk:Tok}{l l2:List E}{k1:IntKind}{j:Int}{ti te:Ti}(hx:ev tm x=.sl tk l)(ht:tl T st=some ti)(hk:ti.kd=.slice e)(hte:tl T e=some te)(htd:Nat.blt t n=true)
  (hhi:ev tm hh=.int k1 j) (hU:Uni te.size l) (h0:0<=j) (hle:j.toNat<=l.length) (hd:l.take j.toNat=l2)
  (kk:AL P ops rest ⟨n,(t,.sl .ext l2)::tm,bx,fr,ee⟩ Q):AL P ops (⟨some t,.slice st x none (some hh) none,ty,pos,after,none⟩::rest) ⟨n,tm,bx,fr,ee⟩ Q:=by
 subst hd
 exact Jn hT hx ht hk hte htd (.dft _) (.lit hh _ k1 j hhi h0) (Nat.zero_le _) hle hU (by rw[List.drop_zero]) kk
end
end Go.Av
end
section
open Go.RowKit Go.Pl
namespace Go.Av
def Hm (T:Tab)(tm:List (Nat × D))(op:BinOp)(xt:Nat)(x y:Operand):Option D:=
 match ev tm x,ev tm y with
 | .int k m,.int k2 q=>match decide (k=k2),(match op with | .quo | .rem | .shl | .shr=>false|_=>true) with
  | true,true=>nf (GS op k m q)
  | _,_=>none
 | .str p,.str q=>match op with
  | .eql | .neq | .lss | .leq | .gtr | .geq=>nf (OE op p q)
  | _=>none
 | .bool p,.bool q=>match tl T xt with
  | some ti=>match ti.kd with
   | .bool=>match op with
    | .eql=>some (.bool (p==q))
    | .neq=>some (.bool (!(p==q)))
    | _=>none
   | _=>none
  | none=>none
 | d,.nilp=>match NK d,tl T xt with
  | some p,some ti=>match ti.kd with
   | .ptr _=>match op with
    | .eql=>some (.bool p)
    | .neq=>some (.bool (!p))
    | _=>none
   | _=>none
  | _,_=>none
 | _,_=>none
def Nu (bx:List (List D))(ti:Ti):D->Option D
 | .ptr b o=>match bx[b]? with
  | some cs=>match ti.kd.agg with
   | false=>cs[o]?
   | true=>match Nat.ble (o+ti.size) cs.length,nfs ((cs.drop o).take ti.size) with
    | true,some cs'=>some (.agg cs')
    | _,_=>none
  | none=>none
 | .eptr cs o=>match ti.kd.agg with
  | false=>match cs[o]? with
   | some e=>nf (.ofE e)
   | none=>none
  | true=>match Nat.ble (o+ti.size) cs.length,nfs (((cs.drop o).take ti.size).map .ofE) with
   | true,some cs'=>some (.agg cs')
   | _,_=>none
 | _=>none
def TC (T:Tab)(st f:Nat):Option Fd:=
 match tl T st with
 | some ti=>match ti.kd with
  | .struct fs=>match fs[f]? with
   | some fd=>match Nat.beq fd.size 0 with
    | false=>some fd
    | true=>none
   | none=>none
  | _=>none
 | none=>none
def Hn (T:Tab)(tm:List (Nat × D))(bx:List (List D)):Op->Option D
 | .move x=>nf (ev tm x)
 | .assign x=>nf (ev tm x)
 | .binOp op xt x y _=>Hm T tm op xt x y
 | .unOp .not _ x=>match ev tm x with
  | .bool b=>some (.bool (!b))
  | _=>none
 | .convert src dst x=>match ev tm x with
  | .int _ q=>match tl T src,tl T dst with
   | some _,some td=>match td.kd with
    | .int k'=>some (.int k' (k'.wrap q))
    | _=>none
   | _,_=>none
  | _=>none
 | .load lt x=>match tl T lt with
  | some ti=>Nu bx ti (ev tm x)
  | none=>none
 | .fieldAddr st x f=>match TC T st f with
  | some fd=>match ev tm x with
   | .ptr b o=>match VG (List.replicate (o+fd.off) ()) with
    | some o'=>some (.ptr b o')
    | none=>none
   | .eptr cs o=>match VG (List.replicate (o+fd.off) ()) with
    | some o'=>some (.eptr cs o')
    | none=>none
   | _=>none
  | none=>none
 | .nilCheck x=>match ev tm x with
  | .ptr b o=>some (.ptr b o)
  | .eptr cs o=>some (.eptr cs o)
  | _=>none
 | .extract x i=>match ev tm x with
  | .tup l=>l[i]?
  | _=>none
 | .field st x f=>match TC T st f with
  | some fd=>match tl T fd.ty with
   | some ti'=>match ti'.kd.agg with
    | false=>match ev tm x with
     | .agg l=>l[fd.off]?
     | _=>none
    | true=>none
   | none=>none
  | none=>none
 | .build st parts=>match tl T st with
  | some ti=>match ti.kd with
   | .struct fs=>match Qy fs (ti.zero.map ZK.d) (parts.toList.map (fun p=>(p.1,ev tm p.2))) with
    | some cs=>match nfs cs with
     | some cs'=>some (.agg cs')
     | none=>none
    | none=>none
   | _=>none
  | none=>none
 | .makeFunc (.func f) ⟨[]⟩ caps=>match nfs (caps.toList.map (ev tm)) with
  | some ds=>some (.fn f ds)
  | none=>none
 | _=>none
abbrev Rs:=List (Nat × D) × List (List D)
def Iy (T:Tab)(n:Nat)(tm:List (Nat × D))(bx:List (List D)):Oper->Option Rs
 | ⟨some t,.box _ x,_,_,_,none⟩=>match nf (ev tm x) with
  | some d=>match D.ones d.cellsOf,nfb (bx++[d.cellsOf]),VG bx,Nat.blt t n with
   | true,some bx',some m,true=>some ((t,.ptr m 0)::tm,bx')
   | _,_,_,_=>none
  | none=>none
 | ⟨some t,.alloc e,_,_,_,none⟩=>match tl T e with
  | some ti=>match nfb (bx++[ti.zero.map ZK.d]),VG bx,Nat.blt t n with
   | some bx',some m,true=>some ((t,.ptr m 0)::tm,bx')
   | _,_,_=>none
  | none=>none
 | ⟨none,.store lt x y,_,_,_,none⟩=>match ev tm x,nf (ev tm y),tl T lt with
  | .ptr b o,some d,some ti=>match D.ones d.cellsOf,Nat.beq d.cellsOf.length ti.size,bx[b]? with
   | true,true,some cs=>match Nat.ble (o+d.cellsOf.length) cs.length,nfb (bx.set b (Ws cs o d.cellsOf)) with
    | true,some bx'=>some (tm,bx')
    | _,_=>none
   | _,_,_=>none
  | _,_,_=>none
 | ⟨some t,op,_,_,_,none⟩=>match Hn T tm bx op,Nat.blt t n with
  | some d,true=>some ((t,d)::tm,bx)
  | _,_=>none
 | _=>none
def Ho (T:Tab)(n:Nat):List Oper->List (Nat × D)->List (List D)->List Oper × Rs
 | [],tm,bx=>([],tm,bx)
 | o::l,tm,bx=>match Iy T n tm bx o with
  | some (tm',bx')=>Ho T n l tm' bx'
  | none=>(o::l,tm,bx)
inductive Fm where
 | seq (y:Code)
 | blk (id:Nat)
inductive Pos where
 | aw (c:Code)
 | al (ops:Array Oper) (l:List Oper)
 | x (x:X)
def goG (T:Tab)(n:Nat):Nat->Pos->List Fm->List (Nat × D)->List (List D)->Option (Pos × List Fm × Rs)
 | 0,p,ks,tm,bx=>some (p,ks,tm,bx)
 | f+1,.aw c,ks,tm,bx=>match c with
  | .seq a b=>goG T n f (.aw a) (.seq b::ks) tm bx
  | .block id a=>goG T n f (.aw a) (.blk id::ks) tm bx
  | .skip=>goG T n f (.x .norm) ks tm bx
  | .label _=>goG T n f (.x .norm) ks tm bx
  | .exit i=>goG T n f (.x (.exit i)) ks tm bx
  | .goto l=>goG T n f (.x (.goto l)) ks tm bx
  | .ret=>goG T n f (.x .ret) ks tm bx
  | .region _ ops false=>goG T n f (.al ops ops.toList) ks tm bx
  | .cond (.const (.bool true)) a _=>goG T n f (.aw a) ks tm bx
  | .cond (.const (.bool false)) _ b=>goG T n f (.aw b) ks tm bx
  | c=>some (.aw c,ks,tm,bx)
 | f+1,.al ops l,ks,tm,bx=>match Ho T n l tm bx with
  | ([],tm',bx')=>goG T n f (.x .norm) ks tm' bx'
  | (o::l',tm',bx')=>some (.al ops (o::l'),ks,tm',bx')
 | f+1,.x x,ks,tm,bx=>match ks with
  | []=>some (.x x,[],tm,bx)
  | k::ks=>match x with
   | .norm=>match k with
    | .seq b=>goG T n f (.aw b) ks tm bx
    | .blk _=>goG T n f (.x .norm) ks tm bx
   | .exit i=>match k with
    | .blk id=>match Nat.beq i id with
     | true=>goG T n f (.x .norm) ks tm bx
     | false=>goG T n f (.x (.exit i)) ks tm bx
    | .seq _=>goG T n f (.x (.exit i)) ks tm bx
   | .goto l=>goG T n f (.x (.goto l)) ks tm bx
   | .ret=>goG T n f (.x .ret) ks tm bx
   | .pan d=>goG T n f (.x (.pan d)) ks tm bx
def goA (T:Tab)(n:Nat)(c:Code)(tm:List (Nat × D))(bx:List (List D)):Option (Pos × List Fm × Rs):=
 match c with
 | .seq .. | .block .. | .skip | .label _ | .exit _ | .goto _ | .ret | .region _ _ false | .cond (.const (.bool _)) _ _=>goG T n 400 (.aw c) [] tm bx
 | _=>none
def goL (T:Tab)(n:Nat)(ops:Array Oper)(l:List Oper)(tm:List (Nat × D))(bx:List (List D)):Option (Pos × List Fm × Rs):=
 match l with
 | []=>some (.x .norm,[],tm,bx)
 | o::l=>match Iy T n tm bx o with
  | some (tm',bx')=>goG T n 400 (.al ops l) [] tm' bx'
  | none=>none
def goK (T:Tab)(n:Nat)(x:X)(ks:List Fm)(tm:List (Nat × D))(bx:List (List D)):Option (Pos × List Fm × Rs):=
 match ks with
 | []=>none
 | k::ks=>goG T n 400 (.x x) (k::ks) tm bx
section
variable {P:Program} {Q:X->St->Prop} {n:Nat} {ee:Nat × Nat} {tm:List (Nat × D)} {bx:List (List D)} {fr:List Fr} {T:Tab}
variable {ops:Array Oper} {rest:List Oper} {t ty:Nat} {pos:String} {after:Array Edge}
def unK [Known][Dfr](P:Program)(Q:X->St->Prop):List Fm->X->St->Prop
 | []=>Q
 | .seq y::ks=>X.then (fun S=>AW P y S (unK P Q ks)) (unK P Q ks)
 | .blk id::ks=>X.inBlock id (unK P Q ks)
@[reducible] def J [Known][Dfr](P:Program) (n:Nat) (fr:List Fr) (ee:Nat × Nat) (Q:X->St->Prop):Pos × List Fm × Rs->Prop
 | (.aw c,[],tm,bx)=>AW P c ⟨n,tm,bx,fr,ee⟩ Q
 | (.al ops l,[],tm,bx)=>AL P ops l ⟨n,tm,bx,fr,ee⟩ Q
 | (.x x,[],tm,bx)=>Q x ⟨n,tm,bx,fr,ee⟩
 | (.aw c,k::ks,tm,bx)=>AW P c ⟨n,tm,bx,fr,ee⟩ (unK P Q (k::ks))
 | (.al ops l,k::ks,tm,bx)=>AL P ops l ⟨n,tm,bx,fr,ee⟩ (unK P Q (k::ks))
 | (.x x,k::ks,tm,bx)=>unK P Q (k::ks) x ⟨n,tm,bx,fr,ee⟩
theorem Ww [Known][Dfr](P:Program)(n:Nat)(fr:List Fr)(ee:Nat × Nat)(Q:X->St->Prop)(p:Pos)(ks:List Fm)(tm:List (Nat × D))(bx:List (List D)):J P n fr ee Q (p,ks,tm,bx)=match p with
  | .aw c=>AW P c ⟨n,tm,bx,fr,ee⟩ (unK P Q ks)
  | .al ops l=>AL P ops l ⟨n,tm,bx,fr,ee⟩ (unK P Q ks)
  | .x x=>unK P Q ks x ⟨n,tm,bx,fr,ee⟩:=by
 cases p<;>cases ks<;>rfl
theorem KH {o o':Nat}(h:VG (List.replicate o ())=some o'):o=o':=by
 have:=YV h
 simpa using this
theorem Hp [Known][Dfr](hT:chk P T=true){op:BinOp}{xt yt:Nat}{x y:Operand}{d:D}(h:Hm T tm op xt x y=some d)(ht:Nat.blt t n=true)
  (k:AL P ops rest ⟨n,(t,d)::tm,bx,fr,ee⟩ Q):AL P ops (⟨some t,.binOp op xt x y yt,ty,pos,after,none⟩::rest) ⟨n,tm,bx,fr,ee⟩ Q:=by
 unfold Hm at h
 split at h
 ·rename_i k1 m k2 q hx hy
  split at h
  ·rename_i e1 e2
   have e1:=of_decide_eq_true e1
   subst e1
   exact NE hx hy e2 h ht k
  ·cases h
 ·rename_i p q hx hy
  cases op<;>simp only at h<;>first|cases h;done|exact NH hx hy rfl h ht k
 ·rename_i p q hx hy
  split at h
  ·rename_i ti hti
   split at h
   ·rename_i hk
    cases op<;>simp only at h<;>first|cases h;done|exact NJ hT hx hy hti hk h ht k
   ·cases h
  ·cases h
 ·have hy:ev tm y=.nilp:=by assumption
  split at h
  ·rename_i p ti hp hti
   split at h
   ·rename_i e hk
    cases op<;>simp only at h<;>first|cases h;done|exact Tw hT hp hy hti hk h ht k
   ·cases h
  ·cases h
 ·cases h
theorem Iz {st f:Nat}{fd:Fd}(h:TC T st f=some fd):∃ ti fs,tl T st=some ti/\ti.kd=.struct fs/\fs[f]?=some fd/\Nat.beq fd.size 0=false:=by
 unfold TC at h
 split at h
 ·rename_i ti hti
  split at h
  ·rename_i fs hk
   split at h
   ·rename_i fd' hf
    split at h
    ·rename_i hs
     cases h
     exact⟨ti,fs,hti,hk,hf,hs⟩
    ·cases h
   ·cases h
  ·cases h
 ·cases h
theorem Hq [Known][Dfr](hT:chk P T=true){op:Op}{d:D}(h:Hn T tm bx op=some d)(ht:Nat.blt t n=true)
  (k:AL P ops rest ⟨n,(t,d)::tm,bx,fr,ee⟩ Q):AL P ops (⟨some t,op,ty,pos,after,none⟩::rest) ⟨n,tm,bx,fr,ee⟩ Q:=by
 unfold Hn at h
 split at h
 ·exact Tn h ht k
 ·exact IV h ht k
 ·exact Hp hT h ht k
 ·split at h
  ·rename_i hx;cases h;exact NF hx ht k
  ·cases h
 ·split at h
  ·rename_i hx
   split at h
   ·rename_i hs hd
    split at h
    ·rename_i hk;cases h;exact G9 hT hx hs hd hk ht k
    ·cases h
   ·cases h
  ·cases h
 ·split at h
  ·rename_i ti hti
   unfold Nu at h
   split at h
   ·rename_i hx
    split at h
    ·rename_i cs hb
     split at h
     ·rename_i ha;exact G0 hT hx hti ha hb h ht k
     ·rename_i ha
      split at h
      ·rename_i h1 h2;cases h;exact G1 hT hx hti ha hb h1 h2 ht k
      ·cases h
    ·cases h
   ·rename_i hx
    split at h
    ·rename_i ha
     split at h
     ·rename_i he;exact IY hT hx hti ha he h ht k
     ·cases h
    ·rename_i ha
     split at h
     ·rename_i h1 h2;cases h;exact IZ hT hx hti ha h1 h2 ht k
     ·cases h
   ·cases h
  ·cases h
 ·split at h
  ·rename_i fd hfd
   obtain⟨ti,fs,h1,h2,h3,h4⟩:=Iz hfd
   split at h
   ·rename_i hx
    split at h
    ·rename_i ho;cases h;exact XY hT hx h1 h2 h3 h4 (KH ho) ht k
    ·cases h
   ·rename_i hx
    split at h
    ·rename_i ho;cases h;exact J6 hT hx h1 h2 h3 h4 (KH ho) ht k
    ·cases h
   ·cases h
  ·cases h
 ·split at h
  ·rename_i hx;cases h;exact Kw hx ht k
  ·rename_i hx;cases h;exact XZ hx ht k
  ·cases h
 ·split at h
  ·rename_i hx;exact OC hx h ht k
  ·cases h
 ·split at h
  ·rename_i fd hfd
   obtain⟨ti,fs,h1,h2,h3,h4⟩:=Iz hfd
   split at h
   ·rename_i ti' hti'
    split at h
    ·rename_i ha
     split at h
     ·rename_i hx;exact I4 hT hx h1 h2 h3 h4 hti' ha h ht k
     ·cases h
    ·cases h
   ·cases h
  ·cases h
 ·split at h
  ·rename_i ti hti
   split at h
   ·rename_i fs hk
    split at h
    ·rename_i cs hb
     split at h
     ·rename_i hn;cases h;exact G5 hT hti hk rfl hb hn ht k
     ·cases h
    ·cases h
   ·cases h
  ·cases h
 ·split at h
  ·rename_i hds;cases h;exact KA hds ht k
  ·cases h
 ·cases h
theorem KI [Known][Dfr](hT:chk P T=true){o:Oper}{r:Rs}(h:Iy T n tm bx o=some r)
  (k:AL P ops rest ⟨n,r.1,r.2,fr,ee⟩ Q):AL P ops (o::rest) ⟨n,tm,bx,fr,ee⟩ Q:=by
 unfold Iy at h
 split at h
 ·split at h
  ·rename_i hx
   split at h
   ·rename_i h1 h2 h3 h4;cases h;exact TA hx h1 h2 h3 h4 k
   ·cases h
  ·cases h
 ·split at h
  ·rename_i hti
   split at h
   ·rename_i h2 h3 h4;cases h;exact I9 hT hti h2 h3 h4 k
   ·cases h
  ·cases h
 ·split at h
  ·rename_i hx hy hti
   split at h
   ·rename_i h1 h2 h3
    split at h
    ·rename_i h4 h5;cases h;exact G3 hT hx hy h1 hti h2 h3 h4 h5 k
    ·cases h
   ·cases h
  ·cases h
 ·split at h
  ·rename_i h1 h2;cases h;exact Hq hT h1 h2 k
  ·cases h
 ·cases h
theorem X7 [Known][Dfr](hT:chk P T=true):∀(l:List Oper) (tm:List (Nat × D)) (bx:List (List D)) (l':List Oper) (r:Rs),Ho T n l tm bx=(l',r)->AL P ops l' ⟨n,r.1,r.2,fr,ee⟩ Q->AL P ops l ⟨n,tm,bx,fr,ee⟩ Q
 | [],tm,bx,l',r,h,k=>by unfold Ho at h;cases h;exact k
 | o::l,tm,bx,l',r,h,k=>by
  unfold Ho at h
  split at h
  ·rename_i tm' bx' hs
   exact KI hT hs (X7 hT l tm' bx' l' r h k)
  ·cases h;exact k
theorem Yv [Known][Dfr](hT:chk P T=true):∀(f:Nat) (p:Pos) (ks:List Fm) (tm:List (Nat × D)) (bx:List (List D)) (o:Pos × List Fm × Rs),goG T n f p ks tm bx=some o->J P n fr ee Q o->J P n fr ee Q (p,ks,tm,bx)
 | 0,p,ks,tm,bx,o,h,k=>by unfold goG at h;cases h;exact k
 | f+1,.aw c,ks,tm,bx,o,h,k=>by
  unfold goG at h
  rw[Ww]
  show AW P c ⟨n,tm,bx,fr,ee⟩ (unK P Q ks)
  split at h
  ·exact Tr (by have:=Yv hT f _ _ _ _ _ h k;rwa [Ww]at this)
  ·exact GR (by have:=Yv hT f _ _ _ _ _ h k;rwa [Ww]at this)
  ·exact Tk (by have:=Yv hT f _ _ _ _ _ h k;rwa [Ww]at this)
  ·exact GQ (by have:=Yv hT f _ _ _ _ _ h k;rwa [Ww]at this)
  ·exact Tl (by have:=Yv hT f _ _ _ _ _ h k;rwa [Ww]at this)
  ·exact Tm (by have:=Yv hT f _ _ _ _ _ h k;rwa [Ww]at this)
  ·exact NC (by have:=Yv hT f _ _ _ _ _ h k;rwa [Ww]at this)
  ·rename_i id ops
   have:=Yv hT f _ _ _ _ _ h k;rw[Ww]at this
   exact IU (l:=ops.toList) (by simpa using this)
  ·exact Ga (by have:=Yv hT f _ _ _ _ _ h k;rwa [Ww]at this)
  ·exact Gb (by have:=Yv hT f _ _ _ _ _ h k;rwa [Ww]at this)
  ·cases h;rwa [Ww]at k
 | f+1,.al ops l,ks,tm,bx,o,h,k=>by
  unfold goG at h
  rw[Ww]
  show AL P ops l ⟨n,tm,bx,fr,ee⟩ (unK P Q ks)
  split at h
  ·rename_i tm' bx' hr
   exact X7 hT _ _ _ _ _ hr (Ow (by have:=Yv hT f _ _ _ _ _ h k;rwa [Ww]at this))
  ·rename_i o l' tm' bx' hr
   cases h;rw[Ww]at k;exact X7 hT _ _ _ _ _ hr k
 | f+1,.x x,ks,tm,bx,o,h,k=>by
  unfold goG at h
  rw[Ww]
  show unK P Q ks x ⟨n,tm,bx,fr,ee⟩
  split at h
  ·cases h;rwa [Ww]at k
  ·split at h
   ·split at h
    ·have:=Yv hT f _ _ _ _ _ h k;rwa [Ww]at this
    ·have:=Yv hT f _ _ _ _ _ h k;rwa [Ww]at this
   ·split at h
    ·split at h
     ·rename_i i _ id hb
      have:=Yv hT f _ _ _ _ _ h k;rw[Ww]at this
      obtain rfl:=Nat.eq_of_beq_eq_true hb
      exact GV this
     ·rename_i i _ id hb
      exact Ts hb (by have:=Yv hT f _ _ _ _ _ h k;rwa [Ww]at this)
    ·exact IW (by have:=Yv hT f _ _ _ _ _ h k;rwa [Ww]at this)
   ·rename_i k0 _ _ _
    cases k0 with
    | seq y=>exact IX (by have:=Yv hT f _ _ _ _ _ h k;rwa [Ww]at this)
    | blk id=>exact GW (by have:=Yv hT f _ _ _ _ _ h k;rwa [Ww]at this)
   ·rename_i k0 _ _
    cases k0 with
    | seq y=>exact VA (by have:=Yv hT f _ _ _ _ _ h k;rwa [Ww]at this)
    | blk id=>exact Tt (by have:=Yv hT f _ _ _ _ _ h k;rwa [Ww]at this)
   ·rename_i k0 _ _ _
    cases k0 with
    | seq y=>exact GU (by have:=Yv hT f _ _ _ _ _ h k;rwa [Ww]at this)
    | blk id=>exact Tu (by have:=Yv hT f _ _ _ _ _ h k;rwa [Ww]at this)
theorem Zf [Known][Dfr](hT:chk P T=true){c:Code}{o:Pos × List Fm × Rs}(h:goA T n c tm bx=some o)(k:J P n fr ee Q o):AW P c ⟨n,tm,bx,fr,ee⟩ Q:=by
 unfold goA at h
 split at h<;>first|cases h;done|skip
 all_goals exact Yv hT _ _ _ _ _ _ h k
theorem Zg [Known][Dfr](hT:chk P T=true){o:Pos × List Fm × Rs}(h:goL T n ops rest tm bx=some o)(k:J P n fr ee Q o):AL P ops rest ⟨n,tm,bx,fr,ee⟩ Q:=by
 unfold goL at h
 split at h
 ·cases h;exact Ow k
 ·split at h
  ·rename_i tm' bx' hs
   exact KI hT hs (Yv hT _ _ _ _ _ _ h k)
  ·cases h
theorem Zs [Known][Dfr](hT:chk P T=true){x:X}{ks:List Fm}{o:Pos × List Fm × Rs}(h:goK T n x ks tm bx=some o)(k:J P n fr ee Q o):unK P Q ks x ⟨n,tm,bx,fr,ee⟩:=by
 unfold goK at h
 split at h
 ·cases h
 ·have:=Yv hT _ _ _ _ _ _ h k;rwa [Ww]at this
end
def NT (T:Tab)(tm:List (Nat × D))(bx:List (List D)):ResultVar->Option D
 | .tmp t=>nf (look tm t)
 | .cell a t=>match look tm a,tl T t with
  | .ptr b o,some ti=>match bx[b]? with
   | some cs=>match ti.kd.agg with
    | false=>match cs[o]? with
     | some d=>nf d
     | none=>none
    | true=>match Nat.ble (o+ti.size) cs.length,nfs ((cs.drop o).take ti.size) with
     | true,some cs'=>some (.agg cs')
     | _,_=>none
   | none=>none
  | _,_=>none
def TD (T:Tab)(tm:List (Nat × D))(bx:List (List D)):List ResultVar->Option (List D)
 | []=>some []
 | r::rs=>match NT T tm bx r,TD T tm bx rs with
  | some d,some ds=>some (d::ds)
  | _,_=>none
theorem Zc {P:Program}{T:Tab}(hT:chk P T=true){n:Nat}{ee:Nat × Nat}{tm:List (Nat × D)}{bx:List (List D)}{fr:List Fr}:∀ {rs:List ResultVar} {ds:List D},TD T tm bx rs=some ds->ResL P ⟨n,tm,bx,fr,ee⟩ rs ds
 | [],ds,h=>by unfold TD at h;cases h;exact .nil
 | r::rs,ds,h=>by
  unfold TD at h
  split at h
  ·rename_i d ds' h1 h2
   cases h
   refine .cons _ _ _ _ ?_ (Zc hT h2)
   cases r with
   | tmp t=>
    unfold NT at h1
    exact .tmp _ _ (Yz h1)
   | cell a t=>
    simp only[NT]at h1
    split at h1
    ·rename_i b o ti ha hti
     split at h1
     ·rename_i cs hb
      split at h1
      ·rename_i hag
       split at h1
       ·rename_i d' hd
        have hd':=Yz h1
        subst hd'
        exact .cell1 a t b o cs _ ha (by rw[(ZM hT hti).tAgg,hag]) hb hd
       ·cases h1
      ·rename_i hag
       split at h1
       ·rename_i h3 h4
        cases h1
        exact .celln a t b o ti.size cs _ ha (by rw[(ZM hT hti).tAgg,hag]) (ZM hT hti).tSize hb h3 (by rw[Ve h4])
       ·cases h1
     ·cases h1
    ·cases h1
  ·cases h
end Go.Av
end
