/- Package-level tables read; calls of function values; contracts with a panic; panics in regions that draw their order. -/
import Derived.Test.YtchlgagdbflkmaaGreatDoorK09
import Derived.Laws.MakeOwn
set_option linter.unusedSimpArgs false
set_option linter.unusedVariables false
section
open Go.RowKit Go.Pl
namespace Go.Av
section
variable {P:Program} {Q:X->St->Prop} {n:Nat} {ee:Nat × Nat} {tm tm':List (Nat × D)} {bx bx':List (List D)} {fr fr':List Fr} {b0:Bs} {g:G} {w:World} {a:Act} {T:Tab}
variable {ops:Array Oper} {rest:List Oper} {t ty:Nat} {pos:String} {after:Array Edge}
theorem Qf {k o:Nat}{v:Value}(h:V w g fr (.gptr k o) v):v=.pointer (some ⟨k,o,none⟩):=by cases h;rfl
theorem Yu [Known][Dfr](hT:chk P T=true){x y:Operand}{st e k o len:Nat}{kk0:IntKind}{i:Int}{ti te:Ti}(hx:ev tm x=.gptr k o)(hy:ev tm y=.int kk0 i)(ht:tl T st=some ti)(hk:ti.kd=.array len e)(hte:tl T e=some te)(htd:Nat.blt t n=true)
  (h0:0<=i) (hlt:i.toNat<len)
  (kk:AL P ops rest ⟨n,(t,.gptr k (o+i.toNat*te.size))::tm,bx,fr,ee⟩ Q):AL P ops (⟨some t,.indexAddr st x y,ty,pos,after,none⟩::rest) ⟨n,tm,bx,fr,ee⟩ Q:=
 ZX _ htd (fun g a w hi=>by
  have h1:V w g fr (ev tm x) (a.eval x):=hi.ev x
  rw[hx]at h1
  have h1:=Qf h1
  have h2:V w g fr (ev tm y) (a.eval y):=hi.ev y
  rw[hy]at h2
  have h2:=h2.int_inv
  obtain⟨u,hu,hkd⟩:=(ZP hT ht).under
  rw[hk]at hkd
  have hu:P.underlying st=some (.array len e):=by
   unfold JL at hkd
   split at hkd
   all_goals first|(cases hkd;exact hu)|(split at hkd<;>cases hkd)|cases hkd
  have hsz:=Yo (P:=P) (t:=e) (ZP hT hte).tSize w
  refine⟨_,?_,.gptr k (o+i.toNat*te.size)⟩
  have hb:0<=i/\i<(len:Int):=⟨h0,by omega⟩
  have hadd:(⟨k,o,none⟩:Addr).add (i.toNat*te.size)=⟨k,o+i.toNat*te.size,none⟩:=by unfold Addr.add;split<;>simp_all
  simp[execOp,h1,h2,Instr.indexAt,asIntOf,Instr.sureAddr,Sem.run_bind,run_underlying hu,hb,hsz,hadd]) kk
theorem Z4 [Known][Dfr](hT:chk P T=true){x:Operand}{lt k o:Nat}{cs:List Value}{v:Value}{d:D}{ti:Ti}(hx:ev tm x=.gptr k o)(ht:tl T lt=some ti)(ha:ti.kd.agg=false)(hk:k ∈ Known.ks)(hc:(k,cs) ∈ Is)(hv:cs[o]?=some v)(hd:U5 v=d)(htd:Nat.blt t n=true)
  (kk:AL P ops rest ⟨n,(t,d)::tm,bx,fr,ee⟩ Q):AL P ops (⟨some t,.load lt x,ty,pos,after,none⟩::rest) ⟨n,tm,bx,fr,ee⟩ Q:=
 ZX d htd (fun g a w hi=>by
  have h1:V w g fr (ev tm x) (a.eval x):=hi.ev x
  rw[hx]at h1
  have h1:=Qf h1
  have hcell:=(hi.mem.gl.1 k cs ⟨hk,hc⟩ o v hv).2
  refine⟨v,?_,hd ▸ Uj _ _ _ v⟩
  simp[execOp,h1,Instr.loadAt,Instr.sureAddr,Sem.run_bind,Qy (P:=P) (by rw[(ZP hT ht).tAgg,ha]) hcell]) kk
theorem Z5 [Known][Dfr](hT:chk P T=true){x:Operand}{lt k o:Nat}{cs vs:List Value}{ds:List D}{ti:Ti}(hx:ev tm x=.gptr k o)(ht:tl T lt=some ti)(ha:ti.kd.agg=true)(hk:k ∈ Known.ks)(hc:(k,cs) ∈ Is)(hv:(cs.drop o).take ti.size=vs)(hl:Nat.beq vs.length ti.size=true)(hd:vs.map U5=ds)(htd:Nat.blt t n=true)
  (kk:AL P ops rest ⟨n,(t,.agg ds)::tm,bx,fr,ee⟩ Q):AL P ops (⟨some t,.load lt x,ty,pos,after,none⟩::rest) ⟨n,tm,bx,fr,ee⟩ Q:=
 ZX _ htd (fun g a w hi=>by
  have h1:V w g fr (ev tm x) (a.eval x):=hi.ev x
  rw[hx]at h1
  have h1:=Qf h1
  have hl':=Nat.eq_of_beq_eq_true hl
  have hcell:∀ j v,vs[j]?=some v->w.cell? ⟨k,o+j,none⟩=some v:=fun j v hj=>by
   subst hv
   have hj':j<ti.size/\cs[o+j]?=some v:=by simpa[List.getElem?_take]using hj
   exact(hi.mem.gl.1 k cs ⟨hk,hc⟩ (o+j) v hj'.2).2
  refine⟨.agg vs.toArray,?_,?_⟩
  ·simp[execOp,h1,Instr.loadAt,Instr.sureAddr,Sem.run_bind,Qz (P:=P) (by rw[(ZP hT ht).tAgg,ha]) vs (by rw[(ZP hT ht).tSize,hl']) hcell]
  ·subst hd
   refine .agg _ vs (by simp) fun j d v hj hv=>?_
   rw[List.getElem?_map,hv]at hj
   simp at hj
   exact hj ▸ Uj _ _ _ v) kk
theorem Vp [Known][Dfr](hT:chk P T=true){x lo:Operand}{st e:Nat}{tk:Tok}{bs bs2:List UInt8}{l:List E}{k0:IntKind}{i:Int}{ti te:Ti}(hx:ev tm x=.sl tk l)(hl:l=bs.map E.byte)(ht:tl T st=some ti)(hk:ti.kd=.slice e)(hte:tl T e=some te)(hsz:Nat.beq te.size 1=true)(htd:Nat.blt t n=true)
  (hlo:ev tm lo=.int k0 i) (h0:0<=i) (hle:i.toNat<=bs.length) (hd:bs.drop i.toNat=bs2)
  (kk:AL P ops rest ⟨n,(t,.sl .ext (bs2.map E.byte))::tm,bx,fr,ee⟩ Q):AL P ops (⟨some t,.slice st x (some lo) none none,ty,pos,after,none⟩::rest) ⟨n,tm,bx,fr,ee⟩ Q:=by
 subst hd
 refine Ji hT hx ht hk hte htd (.lit lo _ k0 i hlo h0) (.dft _) (by rw[hl,List.length_map];exact hle) (Nat.le_refl _) ?_ ?_ kk
 ·rw[Nat.eq_of_beq_eq_true hsz,hl];exact Uni.map (f:=E.byte) (fun _=>rfl) bs
 ·rw[hl,List.take_of_length_le (Nat.le_refl _),List.map_drop]
theorem O3 [Known][Dfr](hT:chk P T=true){x lo hh:Operand}{st e:Nat}{tk:Tok}{bs bs2:List UInt8}{l:List E}{k0 k1:IntKind}{i j:Int}{ti te:Ti}(hx:ev tm x=.sl tk l)(hl:l=bs.map E.byte)(ht:tl T st=some ti)(hk:ti.kd=.slice e)(hte:tl T e=some te)(hsz:Nat.beq te.size 1=true)(htd:Nat.blt t n=true)
  (hlo:ev tm lo=.int k0 i) (hhi:ev tm hh=.int k1 j) (h0:0<=i) (hij:i<=j) (hle:j.toNat<=bs.length) (hd:(bs.take j.toNat).drop i.toNat=bs2)
  (kk:AL P ops rest ⟨n,(t,.sl .ext (bs2.map E.byte))::tm,bx,fr,ee⟩ Q):AL P ops (⟨some t,.slice st x (some lo) (some hh) none,ty,pos,after,none⟩::rest) ⟨n,tm,bx,fr,ee⟩ Q:=by
 subst hd
 refine Ji hT hx ht hk hte htd (.lit lo _ k0 i hlo h0) (.lit hh _ k1 j hhi (by omega)) (by omega) (by rw[hl,List.length_map];exact hle) ?_ ?_ kk
 ·rw[Nat.eq_of_beq_eq_true hsz,hl];exact Uni.map (f:=E.byte) (fun _=>rfl) bs
 ·rw[hl,List.map_drop,List.map_take]
theorem NJ [Known][Dfr](hT:chk P T=true){x hh mx:Operand}{st e:Nat}{tk:Tok}{bs:List UInt8}{l:List E}{k2 k3:IntKind}{j m:Int}{ti te:Ti}(hx:ev tm x=.sl tk l)(hl:l=bs.map E.byte)(ht:tl T st=some ti)(hk:ti.kd=.slice e)(hte:tl T e=some te)(hsz:Nat.beq te.size 1=true)(htd:Nat.blt t n=true)
  (hhi:ev tm hh=.int k2 j) (hmx:ev tm mx=.int k3 m) (hj0:j=(bs.length:Int)) (hm0:m=(bs.length:Int))
  (kk:AL P ops rest ⟨n,(t,.sl .ext (bs.map E.byte))::tm,bx,fr,ee⟩ Q):AL P ops (⟨some t,.slice st x none (some hh) (some mx),ty,pos,after,none⟩::rest) ⟨n,tm,bx,fr,ee⟩ Q:=
 ZX _ htd (fun g a w hi=>by
  subst hl
  have h1:V w g fr (ev tm x) (a.eval x):=hi.ev x
  rw[hx]at h1
  obtain⟨a1,_⟩:=VQ h1
  have hu:=(ZP hT ht).slice hk
  have hsz2:=Yo (P:=P) (t:=e) (ZP hT hte).tSize w
  have e2:a.eval hh=.int k2 j:=Bnd.val (S:=⟨n,tm,bx,fr,_⟩) hi hhi
  have e3:a.eval mx=.int k3 m:=Bnd.val (S:=⟨n,tm,bx,fr,_⟩) hi hmx
  subst hj0 hm0
  obtain⟨A,cap,hv,hcap,hmax⟩:∃ A cap,a.eval x=.slice A bs.length cap/\bs.length<=cap/\cap<=maxLen:=by
   generalize hq:E.sl (bs.map E.byte)=q at a1
   generalize a.eval x=v at a1
   cases a1 with
   | slC l' b off cap us h1 h2 _ _ _=>injection hq with hq;subst hq;exact⟨some ⟨b,off,none⟩,cap,by rw[List.length_map],by rw[List.length_map]at h1;exact h1,h2⟩
   | slE A cap h => injection hq with hq; have : bs = [] := by simpa using hq
                    subst this;exact⟨A,cap,rfl,Nat.zero_le _,h⟩
   | _=>cases hq
  have b1:(0:Int)<=(bs.length:Int)/\(bs.length:Int)<=(cap:Int):=by omega
  have b2:(0:Int)<=(bs.length:Int)/\(bs.length:Int)<=(bs.length:Int):=by omega
  have hb:(Instr.sliceBounds true bs.length cap none (some (.int k2 (bs.length:Int))) (some (.int k3 (bs.length:Int)))).run P w=.ok (0,bs.length,bs.length) w:=by
   simp only[Instr.sliceBounds,Instr.sliceBound,asIntOf,Sem.run_bind,Sem.run_pure,Result.andThen_ok,if_pos b1,Int.toNat_natCast,if_pos b2]
  refine⟨.slice (if bs.length=0 then A else A.map (·.add (0*te.size))) (bs.length-0) (bs.length-0),?_,?_⟩
  ·have hrun:(Instr.sliceAt st (.slice A bs.length cap) none (some (.int k2 (bs.length:Int))) (some (.int k3 (bs.length:Int)))).run P w=.ok (.slice (if bs.length=0 then A else A.map (·.add (0*te.size))) (bs.length-0) (bs.length-0)) w:=by
    simp[Instr.sliceAt,Instr.slice,Sem.run_bind,run_underlying hu,hb,hsz2]
   simp only[execOp,hv,e2,e3,Sem.run_bind,Option.map_some,Option.map_none,hrun,Result.andThen_ok]
   rfl
  ·rw[Nat.sub_zero]
   refine .sl _ _ _ ?_ trivial
   by_cases he:bs.length=0
   ·have hnil:bs=[]:=List.eq_nil_of_length_eq_zero he
    subst hnil
    exact .slE _ _ (by omega)
   ·rw[if_neg he]
    rw[hv]at a1
    generalize hq':E.sl (bs.map E.byte)=qq at a1
    generalize hs:Value.slice A bs.length cap=s at a1
    cases a1 with
    | slC l' b off cap' us h1 h2 hc hw hvv=>
     injection hq' with hq';subst hq'
     injection hs with q1 q2 q3
     subst q1 q3
     have hadd:(⟨b,off,none⟩:Addr).add (0*te.size)=⟨b,off,none⟩:=by rw[Nat.zero_mul];rfl
     have:=VE.slC (w:=w) (C:=g.C) (bs.map E.byte) b off bs.length us (by rw[List.length_map];exact Nat.le_refl _) (by omega) hc hw hvv
     rw[List.length_map]at this
     rw[Option.map_some,hadd]
     exact this
    | slE A cap h => injection hq' with hq'; have : bs = [] := by simpa using hq'
                     simp[this]at he
    | _=>cases hq') kk
theorem TA [Known][Dfr]{S:St}{x y:Code}(h:AW P x S Q):AW P (.cond (.const (.bool true)) x y) S Q:=⟨fun b0 g a w hi=>wp_cond_true rfl (h.run b0 g a w hi)⟩
theorem TB [Known][Dfr]{S:St}{x y:Code}(h:AW P y S Q):AW P (.cond (.const (.bool false)) x y) S Q:=⟨fun b0 g a w hi=>wp_cond_false rfl (h.run b0 g a w hi)⟩
def D.isIf:D->Bool
 | .iface _ _=>true
 | _=>false
theorem TC [Known][Dfr]{x:Operand}{d:D}{td:Option Nat}(hx:nf (ev tm x)=some d)(hn:d.isIf=true)(k:Q (.pan d) ⟨n,tm,bx,fr,ee⟩):AL P ops (⟨td,.panic x,ty,pos,after,none⟩::rest) ⟨n,tm,bx,fr,ee⟩ Q:=by
 cases d with
 | iface t d=>exact Nz hx rfl k
 | _=>cases hn
theorem RX {f:FuncId}{l:List D}{v:Value}(h:V w g fr (.fn f l) v):∃ vs:List Value,v=.func (.func f) #[] vs.toArray/\vs.length=l.length/\∀(j:Nat) (d:D) (v:Value),l[j]?=some d->vs[j]?=some v->V w g fr d v:=by
 cases h with
 | fn _ _ vs hl h=>exact⟨vs,rfl,hl,h⟩
end
theorem NK [Known][Dfr]{P:Program}{Q:X->St->Prop}{S:St}{ops:Array Oper}{rest:List Oper}{t:Option Nat}{ty:Nat}{pos:String}{after:Array Edge}{f:FuncId}{x:Operand}{ars:Array Operand}{ats:Array TypeId}(bs ts:List Nat)
  {cds caps:List D} {bxs:List (List D)} {frs:List Fr} {post:R->List (List D)->List Fr->Prop} (hx:ev S.tm x=.fn f caps) (hf:QP P f=true) (hAC:AC P f cds bxs frs post)
  (hc:(ars.toList.map (ev S.tm)++caps).map (D.ren (idx bs) (idx ts))=cds) (hb:YM bs S.bx.length) (ht:YM ts S.fr.length) (hbx:VM bs ts S.bx=bxs) (hfr:VN ts S.fr=frs) (htd:(match t with|some t=>Nat.blt t S.n|none=>true)=true)
  (hp:∀ d bx' fr',post (.pan d) bx' fr'->bs.length<=bx'.length/\Q (.pan (d.ren (upN bs S.bx.length) (upN ts S.fr.length))) ⟨S.n,S.tm,U6 bs ts S.bx S.fr.length bx',Uh ts S.fr fr',S.e⟩)
  (k:∀ d bx' fr',post (.ret d) bx' fr'->bs.length<=bx'.length/\AL P ops rest (S.aft bs ts bx' fr' t d) Q):AL P ops (⟨t,.call { callee:=.value x,args:=ars,argTypes:=ats },ty,pos,after,none⟩::rest) S Q:=by
 refine⟨fun b0 g a w hi=>?_⟩
 refine wpList_plain rfl fun K hK=>?_
 have hvx:=hi.ev x
 rw[hx]at hvx
 obtain⟨cvs,hcv,hcl,hcV⟩:=RX hvx
 have hrun:(execOp a.eval ⟨t,.call { callee:=.value x,args:=ars,argTypes:=ats },ty,pos,after,none⟩).run P w=.ok (.enter f (ars.toList.map a.eval++cvs).toArray) w:=by
  have e:ars.map a.eval++cvs.toArray=(ars.toList.map a.eval++cvs).toArray:=by
   rw[<- List.append_toArray,<- Array.toList_map,Array.toArray_toList]
  have hz:=Vm hf (ars.toList.map a.eval++cvs).toArray w
  rw[<- e]at hz ⊢
  simpa[execOp,resolve,hcv,Deferred.ofValue,invoke,Sem.run_bind]using hz
 unfold Oper.wp
 rw[hrun]
 have hm:=hi.mem
 have hcall:=hAC.run (g.sel bs ts) w (ars.toList.map a.eval++cvs) (by rw[<- hbx,<- hfr];exact hm.sel hb ht) (by rw[<- hc];simp[hcl]) (fun j d v hd hv=>by
  rw[<- hc,List.getElem?_map]at hd
  cases hj:(ars.toList.map (ev S.tm)++caps)[j]? with
  | none=>simp only[hj,Option.map_none]at hd;cases hd
  | some d0=>
   simp only[hj,Option.map_some,Option.some.injEq]at hd
   subst hd
   rw[<- hfr]
   refine V.sel hm hb ht ?_
   rcases Nat.lt_or_ge j ars.toList.length with hlt|hge
   ·rw[List.getElem?_append_left (by simpa using hlt)]at hj hv
    exact evs hi ars j d0 v hj hv
   ·rw[List.getElem?_append_right (by simpa using hge)]at hj hv
    simp only[List.length_map]at hj hv
    exact hcV _ d0 v hj hv)
 refine hcall.mono fun e w' ⟨g',bx',fr',r,he,hm',hr,hpost⟩=>?_
 rw[<- hfr]at he
 have common:bs.length<=bx'.length->Inv b0 ⟨S.n,S.tm,U6 bs ts S.bx S.fr.length bx',Uh ts S.fr fr',S.e⟩ (Vt bs ts g g') a w'/\∀ d v,V w' g' fr' d v->V w' (Vt bs ts g g') (Uh ts S.fr fr') (d.ren (upN bs S.bx.length) (upN ts S.fr.length)) v:=fun hle=>by
  obtain⟨q1,q2,q3⟩:=Go.Av.aft hm hb ht he hm' hle
  exact⟨⟨hi.size,hi.defers,q1,fun t=>(hi.tm t).evo q2,hi.evo.trans q2,hi.bd⟩,q3⟩
 cases r with
 | ret d=>
  obtain⟨v,rfl,hv⟩:=hr
  obtain⟨hle,hk⟩:=k d bx' fr' hpost
  obtain⟨hi2,hup⟩:=common hle
  refine hK _ _ (hk.run b0 (Vt bs ts g g') _ w' ?_)
  cases t with
  | none=>exact hi2
  | some t=>exact hi2.put htd (hup d v hv)
 | pan d=>
  obtain⟨v,rfl,hv⟩:=hr
  obtain⟨hle,hq⟩:=hp d bx' fr' hpost
  obtain⟨hi2,hup⟩:=common hle
  exact⟨_,_,v,_,hi2,rfl,hup d v hv,hq⟩
section
variable {P:Program} {Q:X->St->Prop} {n:Nat} {ee:Nat × Nat} {tm:List (Nat × D)} {bx:List (List D)} {fr:List Fr} {ops:Array Oper} {rest:List Oper} {ty:Nat} {pos:String} {after:Array Edge} {f:FuncId} {ars:Array Operand} {ats:Array TypeId}
theorem WR [Known][Dfr]{t:Nat}{x:Operand}{cds caps:List D}{d d':D}(hAC:AP P f cds d [])(hx:ev tm x=.fn f caps)(hf:QP P f=true)
  (hc:D.wks ((ars.toList.map (ev tm)++caps).map (D.ren (idx []) (idx [])))=cds) (htd:Nat.blt t n=true) (hd:nf (d.ren (upN [] bx.length) (upN [] fr.length))=some d')
  (k:AL P ops rest ⟨n,(t,d')::tm,bx,fr,ee⟩ Q):AL P ops (⟨some t,.call { callee:=.value x,args:=ars,argTypes:=ats },ty,pos,after,none⟩::rest) ⟨n,tm,bx,fr,ee⟩ Q:=by
 refine NK [] [] hx hf (AC.unwk (hc ▸ hAC)) rfl (ZH _) (ZH _) rfl rfl htd (fun _ _ _ h=>by cases h.1) fun d0 bx' fr' h=>?_
 obtain⟨h1,rfl,rfl⟩:=h
 injection h1 with h1
 subst h1
 refine⟨Nat.le_refl _,?_⟩
 have e1:=YA hd
 subst e1
 simpa[St.aft,U6,Uh,WV]using k
end
def AX [Known](P:Program)(f:FuncId)(args:List D)(bx:List (List D))(p:D):Prop:=AC P f args bx [] fun r b fr=>r=.pan p/\bx.length<=b.length
def D.pure:D->Bool
 | .bool _ | .int _ _ | .str _ | .nilp | .nilf | .nili=>true
 | .iface _ (.agg l)=>l.all fun | .bool _ | .int _ _ | .str _=>true|_=>false
 | .iface _ d=>match d with | .bool _ | .int _ _ | .str _=>true|_=>false
 | _=>false
def NL (k:Nat)(o:Except D (D × List (List D))):R->List (List D)->List Fr->Prop:=fun r b fr=>match o with
 | .ok (d,bx')=>∃ d0,r=.ret d0/\d0.wk=d/\b.map D.wks=bx'/\fr=[]
 | .error p=>r=.pan p/\k<=b.length
def AR [Known](P:Program)(f:FuncId)(args:List D)(bx:List (List D))(o:Except D (D × List (List D))):Prop:=AC P f args bx [] (NL bx.length o)
theorem AR.q [Known]{P:Program}{f:FuncId}{args:List D}{bx bx':List (List D)}{d:D}{o:Except D (D × List (List D))}(h:AR P f args bx o)(e:o=.ok (d,bx')):AQ P f args bx d bx':=by
 subst e
 exact AQ.weak h
theorem AR.x [Known]{P:Program}{f:FuncId}{args:List D}{bx:List (List D)}{p:D}{o:Except D (D × List (List D))}(h:AR P f args bx o)(e:o=.error p):AX P f args bx p:=by
 subst e
 exact h
theorem Jo {P:Program}{rs:List ResultVar}{S:St}{d d':D}{ds:List D}{bx' B:List (List D)}{k:Nat}{o:Except D (D × List (List D))}(ho:o=.ok (d,bx'))(bs:List Nat)(h:ResL P S rs ds)(hb:WQ bs S.bx.length=true)(hk:XZ k bs=true)(hn:nf (((XS ds).ren (idx bs) (idx [])).wk)=some d')(hB:nfb ((VM bs [] S.bx).map D.wks)=some B)(hd:d'=d)(hB':B=bx') :
  VO P rs k 0 (NL k o) .ret S:=by
 subst ho
 exact Zt bs h hb hk hn hB hd hB'
theorem VC {P:Program}{rs:List ResultVar}{S:St}{d p:D}{k:Nat}{o:Except D (D × List (List D))}(ho:o=.error p)(hk:k<=S.bx.length)(hd:nf (d.ren (idx (List.range k)) (idx []))=some p):VO P rs k 0 (NL k o) (.pan d) S:=by
 subst ho
 refine⟨List.range k,[],Iw hk,ZH _,fun i hi=>by simp[hi],fun i hi=>by omega,?_,?_⟩
 ·rw[YA hd]
 ·simp[VM]
section
variable {P:Program} {Q:X->St->Prop} {n:Nat} {ee:Nat × Nat} {tm:List (Nat × D)} {bx:List (List D)} {fr:List Fr} {ops:Array Oper} {rest:List Oper} {ty:Nat} {pos:String} {after:Array Edge} {f:FuncId} {ars:Array Operand} {ats:Array TypeId}
theorem Yd [Known][Dfr]{t:Option Nat}{cds:List D}{p p':D}{bxs:List (List D)}(bs:List Nat)(hX:AX P f cds bxs p)(hf:QP P f=true)
  (hc:D.wks ((ars.toList.map (ev tm)).map (D.ren (idx bs) (idx [])))=cds) (hb:WQ bs bx.length=true) (hbx:VM bs [] bx=bxs) (hle:Nat.ble bs.length bxs.length=true) (htd:(match t with|some t=>Nat.blt t n|none=>true)=true) (hp:nf (p.ren (upN bs bx.length) (upN [] fr.length))=some p')
  (k:∀ bx2 fr2,bx.length<=bx2.length->Q (.pan p') ⟨n,tm,bx2,fr2,ee⟩):AL P ops (⟨t,.call { callee:=.value (.func f),args:=ars,argTypes:=ats },ty,pos,after,none⟩::rest) ⟨n,tm,bx,fr,ee⟩ Q:=by
 refine QB bs [] hf (AC.unwk (hc ▸ hX)) rfl (Yw hb) (ZH _) hbx rfl htd (fun d bx' fr' h=>?_) fun d0 bx' fr' h=>by cases h.1
 obtain⟨h1,h2⟩:=h
 injection h1 with h1
 subst h1
 have hle:=Nat.le_of_ble_eq_true hle
 refine⟨by omega,?_⟩
 have e:=YA hp
 subst e
 exact k _ _ (by simp[U6,ZT])
end
end Go.Av
end
section
open Go.RowKit Go.Pl
namespace Go.Av
section
variable {P:Program} {Q:X->St->Prop} {n:Nat} {ee:Nat × Nat} {tm tm':List (Nat × D)} {bx bx':List (List D)} {fr fr':List Fr} {b0:Bs} {g:G} {w:World} {a:Act}
theorem TD [Known][Dfr]{l:List Oper}{ds:List (Nat × D)}{listed:Array Bool}(hchk:Yt l=true)(hE:QQ l=true)(hl:ds.length<=l.length)
  (hdst:∀(i:Nat) (o:Oper),l[i]?=some o->i<ds.length->∃ t d,ds[i]?=some (t,d)/\o.dst=some t)
  (hM:Mid b0 ee n tm bx fr l ds listed g a w) {i:Nat} (hi:i ∈ Region.ready .any l.toArray listed) (hids:i<ds.length) (hst:∀ o,l[i]?=some o->∃ t d,ds[i]?=some (t,d)/\o.dst=some t/\Nat.blt t n=true/\AL P l.toArray [o] ⟨n,Z8 l o ((ds.take i).reverse++tm),bx,fr,(bx.length,fr.length)⟩ (qp t d bx fr)) {K:Act->World->Prop} {Q2:Exit->Act->World->Prop} (hK:∀ g' a' w',Mid b0 ee n tm bx fr l ds (listed.setIfInBounds i true) g' a' w'->K a' w') :
  wpOp P l.toArray Q2 i K a w:=by
 obtain⟨hn0,o,ho,hr⟩:=mem_ready.1 hi
 have ho':l[i]?=some o:=by simpa using ho
 have hil:i<l.length:=(List.getElem?_eq_some_iff.1 ho').1
 have hn:listed.getD i false=false:=by
  have:i<listed.size:=by rw[hM.len];exact hil
  simp[this]at hn0 ⊢;exact hn0
 obtain⟨t,d,e1,e2,e3,hAL⟩:=hst o ho'
 have hN:∀(i j:Nat) (p q:Nat × D),ds[i]?=some p->ds[j]?=some q->p.1=q.1->i=j:=fun x y p q hx hy e=>by
  by_cases hxy:x=y
  ·exact hxy
  ·exfalso
   have hxd:=(List.getElem?_eq_some_iff.1 hx).1
   have hxl:x<l.length:=Nat.lt_of_lt_of_le hxd hl
   have hyd:=(List.getElem?_eq_some_iff.1 hy).1
   have hyl:y<l.length:=Nat.lt_of_lt_of_le hyd hl
   have hc:=V9 hchk hxl hyl hxy
   obtain⟨t1,d1,a1,a2⟩:=hdst x _ (List.getElem?_eq_getElem hxl) hxd
   obtain⟨t2,d2,c1,c2⟩:=hdst y _ (List.getElem?_eq_getElem hyl) hyd
   rw[hx]at a1;injection a1 with a1
   rw[hy]at c1;injection c1 with c1
   simp only[Vo,List.getElem?_eq_getElem hxl,List.getElem?_eq_getElem hyl,a2,c2,Bool.and_eq_true,bne_iff_ne,ne_eq,Option.some.injEq]at hc
   rw[a1,c1]at e
   exact hc.1 e.symm
 have hinv:Inv ⟨g,fr,w⟩ ⟨n,Z8 l o ((ds.take i).reverse++tm),bx,fr,(bx.length,fr.length)⟩ g a w:=by
  refine⟨hM.size,hM.defers,hM.mem,fun x=>?_,Evo.refl _,by rw[hM.mem.bl];exact Nat.le_refl _,Nat.le_refl _⟩
  by_cases hx:x ∈ Wn l o
  ·dsimp only
   rw[WM _ hx,<- JQ hchk hl hdst hM.closed ho' hn hr (Nat.le_of_lt hids) hx]
   exact hM.tm x
  ·dsimp only
   rw[YP _ hx]
   exact .junk _
 have hrun:=hAL.run ⟨g,fr,w⟩ g a w hinv
 have fin:∀ a' w',(∃ v,a'=a.put o.dst v)->wpList P l.toArray (Wk ⟨g,fr,w⟩ (qp t d bx fr)) [] a' w'->K a' w':=by
  rintro a' w' ⟨v,rfl⟩ h
  obtain⟨S',g',hi',hq⟩:=h
  obtain⟨n',tm2,bx2,fr2,ee'⟩:=S'
  have hn':n'=n:=by
   have h1:=hi'.size
   dsimp only at h1
   rw[<- h1,<- hM.size]
   cases hd':o.dst<;>simp[Act.put,hd']
  subst hn'
  obtain⟨tm3,g',hi',q3⟩:∃ tm3 g',Inv ⟨g,fr,w⟩ ⟨n',tm3,bx,fr,(g.ρ.length,fr.length)⟩ g' (a.put o.dst v) w'/\look tm3 t=d:=by
   rcases hq with⟨q1,q2,q3⟩ | ⟨q1,q2,q3,q4⟩
   ·dsimp only at q1 q2 q3
    subst q1 q2
    exact⟨tm2,g',⟨hi'.size,hi'.defers,hi'.mem,hi'.tm,hi'.evo,Nat.le_refl _,Nat.le_refl _⟩,q3⟩
   ·dsimp only at q1 q2 q3
    have h1:Inv ⟨g,fr,w⟩ ⟨n',[(t,d)],bx2,fr2,(g.ρ.length,fr.length)⟩ g' (a.put o.dst v) w':=by
     refine⟨hi'.size,hi'.defers,hi'.mem,fun x=>?_,hi'.evo,Nat.le_refl _,Nat.le_refl _⟩
     by_cases hx:x=t
     ·subst hx
      have:=hi'.tm x
      dsimp only at this ⊢
      simp only[look,Nat.beq_refl]
      rcases q3 with q3|q3
      ·rw[<- q3];exact this
      ·rw[<- q3];exact this.wk
     ·have hb:Nat.beq t x=false:=by
       cases hb:Nat.beq t x with
       | false=>rfl
       | true=>exact(hx (Nat.eq_of_beq_eq_true hb).symm).elim
      simp only[look,hb]
      exact .junk _
    have h2:=h1.cut (k:=bx.length) (m:=fr.length) (by show g.ρ.length<=_;rw[hM.mem.bl];exact Nat.le_refl _) (Nat.le_refl _) (by simp only[KN,q4]) (by rw[q1];exact hM.mem.allLt)
    rw[q1,q2]at h2
    exact⟨_,_,h2,by simp[look]⟩
  refine hK g' _ _ ⟨hM.bd,hi'.size,hi'.defers,hi'.mem,hM.evo.trans hi'.evo,fun x=>?_,fun m om hm hlm e he hb=>?_,by simp[hM.len]⟩
  ·by_cases hx:x=t
   ·subst hx
    rw[Yq hN hl e1,if_pos (by simp[hM.len,hil])]
    have:=hi'.tm x
    dsimp only at this
    rw[q3]at this
    exact this
   ·have hcur:cur l ds tm (listed.setIfInBounds i true) x=cur l ds tm listed x:=by
     by_cases hex:∃(j:Nat) (d:D),ds[j]?=some (x,d)
     ·obtain⟨j,dj,hj⟩:=hex
      have hne:i ≠ j:=fun e=>by
       subst e
       rw[e1]at hj;injection hj with hj;injection hj with hj
       exact hx hj.symm
      rw[Yq hN hl hj,Yq hN hl hj,getD_set_ne false hne]
     ·have hno:∀(j:Nat) (p:Nat × D),ds[j]?=some p->p.1 ≠ x:=fun j p hj e=>hex ⟨j,p.2,by rw[hj,<- e]⟩
      rw[YQ hno,YQ hno]
    rw[hcur]
    have htm:(a.put o.dst v).tmps.getD x undef=a.tmps.getD x undef:=by
     rw[e2]
     simp[Act.put,Array.getD_getElem?,Array.getElem?_setIfInBounds_ne (Ne.symm hx)]
    rw[htm]
    exact(hM.tm x).evo hi'.evo
  ·by_cases hmi:m=i
   ·subst hmi
    rw[ho']at hm;injection hm with hm;subst hm
    exact getD_set_true (hr e he hb)
   ·rw[getD_set_ne false (Ne.symm hmi)]at hlm
    exact getD_set_true (hM.closed m om hm hlm e he hb)
 unfold wpOp
 simp only[ho]
 unfold wpList at hrun
 by_cases hw:Region.wanted o (yielded l.toArray a.tmps)=true
 ·rw[if_pos hw]at hrun
  rw[if_pos hw]
  have hL:LetsOut (Wk ⟨g,fr,w⟩ (qp t d bx fr))->False:=fun⟨_,_,h⟩=>h
  rcases hrun with hrun|⟨_,hlo⟩
  ·refine .inl ?_
   have:=Jm (Q2:=Q2) hrun hM.defers (fun a w h=>by obtain⟨S',g',hi',_⟩:=h;exact hi'.defers) (fun c a w h=>by obtain⟨_,_,_,_,_,_,_,hq⟩:=h;exact hq) hL
   exact Oper.wp_mono (P:=P) (fun a' w' h=>fin a' w' h.1 h.2) this
  ·exact(hL hlo).elim
 ·rw[if_neg hw]at hrun
  rw[if_neg hw]
  exact fin _ _ ⟨undef,rfl⟩ hrun
def qx (p:D)(bx:List (List D)):X->St->Prop
 | .pan d,S=>d=p/\bx.length<=S.bx.length
 | _,_=>False
theorem JS {p d:D}{tm2:List (Nat × D)}{bx2:List (List D)}{fr2:List Fr}(hd:d=p)(h:bx.length<=bx2.length):qx p bx (.pan d) ⟨n,tm2,bx2,fr2,ee⟩:=⟨hd,h⟩
theorem NM {o:Oper}{K K':Act->World->Prop}{Q' Q2:Exit->Act->World->Prop}{r:Result Next}(h:o.upon P a K Q' r)(hK:∀ a w,K a w->False)(hQ:∀ c w,Q' (.panic c) a w->Q2 (.panic c) a w)(hL:LetsOut Q'->False) :
  o.upon P a K' Q2 r:=by
 cases r with
 | ok nx w'=>
  cases nx<;>simp only[Oper.upon]at h ⊢
  case value v=>exact(hK _ _ h).elim
  case skip=>exact(hK _ _ h).elim
  case defer d=>exact(hK _ _ h).elim
  case enter f args=>
   refine Calls.mono h (fun e w'' he=>?_)
   cases e with
   | returned u=>exact(hK _ _ he).elim
   | panicked c=>exact hQ _ _ he
   | outgrown=>exact(hL he).elim
  case row row args=>exact Rows.mono h fun u w'' he=>(hK _ _ he).elim
 | halt x w'=>
  cases x<;>simp only[Oper.upon]at h ⊢
  case panic u=>exact hQ _ _ h
theorem Lh [Known][Dfr]{l:List Oper}{ds:List (Nat × D)}{listed:Array Bool}{p:D}(hchk:Yt l=true)(hl:ds.length<=l.length)
  (hdst:∀(i:Nat) (o:Oper),l[i]?=some o->i<ds.length->∃ t d,ds[i]?=some (t,d)/\o.dst=some t)
  (hM:Mid b0 ee n tm bx fr l ds listed g a w) {i:Nat} (hi:i ∈ Region.ready .any l.toArray listed) (hids:i<ds.length)
  (hst:∀ o,l[i]?=some o->AL P l.toArray [o] ⟨n,Z8 l o ((ds.take i).reverse++tm),bx,fr,(bx.length,fr.length)⟩ (qx p bx))
  (hQ:∀ tm2 bx2 fr2,bx.length<=bx2.length->Q (.pan p) ⟨n,tm2,bx2,fr2,ee⟩) {K:Act->World->Prop}:wpOp P l.toArray (Wk b0 Q) i K a w:=by
 obtain⟨hn0,o,ho,hr⟩:=mem_ready.1 hi
 have ho':l[i]?=some o:=by simpa using ho
 have hil:i<l.length:=(List.getElem?_eq_some_iff.1 ho').1
 have hn:listed.getD i false=false:=by
  have:i<listed.size:=by rw[hM.len];exact hil
  simp[this]at hn0 ⊢;exact hn0
 have hAL:=hst o ho'
 have hinv:Inv ⟨g,fr,w⟩ ⟨n,Z8 l o ((ds.take i).reverse++tm),bx,fr,(bx.length,fr.length)⟩ g a w:=by
  refine⟨hM.size,hM.defers,hM.mem,fun x=>?_,Evo.refl _,by rw[hM.mem.bl];exact Nat.le_refl _,Nat.le_refl _⟩
  by_cases hx:x ∈ Wn l o
  ·dsimp only
   rw[WM _ hx,<- JQ hchk hl hdst hM.closed ho' hn hr (Nat.le_of_lt hids) hx]
   exact hM.tm x
  ·dsimp only
   rw[YP _ hx]
   exact .junk _
 have hrun:=hAL.run ⟨g,fr,w⟩ g a w hinv
 have hK:∀ a w,wpList P l.toArray (Wk ⟨g,fr,‹World›⟩ (qx p bx)) [] a w->False:=fun a w h=>by
  obtain⟨_,_,_,h⟩:=h;exact h
 have hL:LetsOut (Wk ⟨g,fr,‹World›⟩ (qx p bx))->False:=fun⟨_,_,h⟩=>h
 unfold wpOp
 simp only[ho]
 unfold wpList at hrun
 by_cases hw:Region.wanted o (yielded l.toArray a.tmps)=true
 ·rw[if_pos hw]at hrun
  rw[if_pos hw]
  rcases hrun with hrun|⟨_,hlo⟩
  ·refine .inl ?_
   refine NM hrun (fun a w h=>by obtain⟨_,_,_,h⟩:=h;exact h) (fun c w' h=>?_) (fun⟨_,_,h⟩=>h)
   obtain⟨S',g',v,d,hi',hc,hv,hd,hle⟩:=h
   obtain⟨n',tm2,bx2,fr2,ee'⟩:=S'
   have hn':n'=n:=by rw[<- hM.size];exact hi'.size.symm
   subst hn' hd
   exact⟨⟨n',tm2,bx2,fr2,ee⟩,g',v,d,⟨hi'.size,hi'.defers,hi'.mem,hi'.tm,hM.evo.trans hi'.evo,hM.bd⟩,hc,hv,hQ tm2 bx2 fr2 hle⟩
  ·obtain⟨_,_,h⟩:=hlo;exact h.elim
 ·rw[if_neg hw]at hrun
  obtain⟨_,_,_,h⟩:=hrun;exact h.elim
inductive ADX [Known][Dfr](P:Program) (l:List Oper) (n:Nat) (bx:List (List D)) (fr:List Fr) (j:Nat) (p:D):Nat->List Oper->List (Nat × D)->Prop
 | nil (i:Nat) (tm:List (Nat × D)):ADX P l n bx fr j p i [] tm
 | pu (i:Nat) (o:Oper) (rest:List Oper) (t:Nat) (d:D) (tm:List (Nat × D)) (hd:o.dst=some t) (ht:Nat.blt t n=true) (hne:Nat.beq i j=false) (h:AL P l.toArray [o] ⟨n,Z8 l o tm,bx,fr,(bx.length,fr.length)⟩ (qp t d bx fr)) (k:ADX P l n bx fr j p (i+1) rest ((t,d)::tm)):ADX P l n bx fr j p i (o::rest) tm
 | dead (i:Nat) (o:Oper) (rest:List Oper) (t:Nat) (tm:List (Nat × D)) (hd:o.dst=some t) (hu:up (Yp [] l) i j=true) (k:ADX P l n bx fr j p (i+1) rest ((t,.junk)::tm)):ADX P l n bx fr j p i (o::rest) tm
 | pan (o:Oper) (rest:List Oper) (t:Nat) (tm:List (Nat × D)) (hd:o.dst=some t) (h:AL P l.toArray [o] ⟨n,Z8 l o tm,bx,fr,(bx.length,fr.length)⟩ (qx p bx)) (k:ADX P l n bx fr j p (j+1) rest ((t,.junk)::tm)):ADX P l n bx fr j p j (o::rest) tm
theorem ADX.steps [Known][Dfr]{l:List Oper}{j:Nat}{p:D}{i0:Nat}{rest:List Oper}(h:ADX P l n bx fr j p i0 rest tm):∃ ds:List (Nat × D),ds.length=rest.length/\∀(i:Nat) (o:Oper),rest[i]?=some o->∃ t d,ds[i]?=some (t,d)/\o.dst=some t /\
  ((i0+i ≠ j/\Nat.blt t n=true/\AL P l.toArray [o] ⟨n,Z8 l o ((ds.take i).reverse++tm),bx,fr,(bx.length,fr.length)⟩ (qp t d bx fr))\/up (Yp [] l) (i0+i) j=true\/(i0+i=j/\AL P l.toArray [o] ⟨n,Z8 l o ((ds.take i).reverse++tm),bx,fr,(bx.length,fr.length)⟩ (qx p bx))):=by
 induction h with
 | nil i tm=>exact⟨[],rfl,fun i o h=>by simp at h⟩
 | pu i o rest t d tm hd ht hne h k ih=>
  obtain⟨ds,h1,h2⟩:=ih
  refine⟨(t,d)::ds,by simp[h1],fun x o' hx=>?_⟩
  cases x with
  | zero=>
   simp at hx;subst hx
   exact⟨t,d,rfl,hd,.inl ⟨fun e=>by rw[Nat.add_zero]at e;subst e;simp at hne,ht,h⟩⟩
  | succ x=>
   obtain⟨t',d',q1,q2,q3⟩:=h2 x o' (by simpa using hx)
   refine⟨t',d',by simpa using q1,q2,?_⟩
   rw[show i+(x+1)=i+1+x by omega]
   simpa using q3
 | dead i o rest t tm hd hu k ih=>
  obtain⟨ds,h1,h2⟩:=ih
  refine⟨(t,.junk)::ds,by simp[h1],fun x o' hx=>?_⟩
  cases x with
  | zero=>simp at hx;subst hx;exact⟨t,_,rfl,hd,.inr (.inl hu)⟩
  | succ x=>
   obtain⟨t',d',q1,q2,q3⟩:=h2 x o' (by simpa using hx)
   refine⟨t',d',by simpa using q1,q2,?_⟩
   rw[show i+(x+1)=i+1+x by omega]
   simpa using q3
 | pan o rest t tm hd h k ih=>
  obtain⟨ds,h1,h2⟩:=ih
  refine⟨(t,.junk)::ds,by simp[h1],fun x o' hx=>?_⟩
  cases x with
  | zero=>simp at hx;subst hx;exact⟨t,_,rfl,hd,.inr (.inr ⟨rfl,h⟩)⟩
  | succ x=>
   obtain⟨t',d',q1,q2,q3⟩:=h2 x o' (by simpa using hx)
   refine⟨t',d',by simpa using q1,q2,?_⟩
   rw[show j+(x+1)=j+1+x by omega]
   simpa using q3
def Li (l:List Oper)(j m:Nat):Bool:=(List.range l.length).all fun i=>Nat.blt i m||up (Yp [] l) i j
theorem Uo [Known][Dfr]{id:Nat}(m j:Nat){p:D}{l:List Oper}(hm:P.follows .mixedOrders=true)(hchk:Yt l=true)(hE:QQ l=true)(hdead:Li l j m=true)(hjm:Nat.blt j m=true)(hlen:Nat.beq (l.take m).length m=true)(h:ADX P l n bx fr j p 0 (l.take m) tm)
  (hQ:∀ tm2 bx2 fr2,bx.length<=bx2.length->Q (.pan p) ⟨n,tm2,bx2,fr2,ee⟩):AW P (.region id l.toArray true) ⟨n,tm,bx,fr,ee⟩ Q:=by
 obtain⟨ds,h1,h3⟩:=h.steps
 have hlen:=Nat.eq_of_beq_eq_true hlen
 have hjm:j<m:=by simpa using hjm
 have hml:m<=l.length:=by rw[List.length_take]at hlen;omega
 rw[hlen]at h1
 have hl:ds.length<=l.length:=by omega
 have hst:∀(i:Nat) (o:Oper),l[i]?=some o->i<ds.length->_:=fun i o ho hi=>h3 i o (by rw[List.getElem?_take,if_pos (by omega)];exact ho)
 have hdst:∀(i:Nat) (o:Oper),l[i]?=some o->i<ds.length->∃ t d,ds[i]?=some (t,d)/\o.dst=some t:=fun i o h hd=>by
  obtain⟨t,d,h1,h2,_⟩:=hst i o h hd;exact⟨t,d,h1,h2⟩
 have hjl:j<l.length:=by omega
 refine⟨fun b0 g a w hi=>wp_region_any hm ?_⟩
 have main:∀(fuel:Nat) (listed:Array Bool) (g:G) (a:Act) (w:World),Mid b0 ee n tm bx fr l ds listed g a w->listed.getD j false=false->left l listed=fuel->wpAny P .any l.toArray (Wk b0 Q) fuel listed a w:=by
  intro fuel
  induction fuel with
  | zero=>
   intro listed g a w hM hj h0
   have:=Yx h0 hjl
   rw[hj]at this;cases this
  | succ fuel ih=>
   intro listed g a w hM hj hf
   refine⟨fun he=>(Um hE hM.len (by omega) he).elim,fun i hi=>?_⟩
   obtain⟨hn0,o,ho,hr⟩:=mem_ready.1 hi
   have ho':l[i]?=some o:=by simpa using ho
   have hil:i<l.length:=(List.getElem?_eq_some_iff.1 ho').1
   have hlt:i<listed.size:=by rw[hM.len];exact hil
   have hn:listed.getD i false=false:=by simp[hlt]at hn0 ⊢;exact hn0
   have hleft:=U8 hil hM.len hn
   have nodead:up (Yp [] l) i j=true->False:=fun hu=>by
    have:=Wr hM.closed i o ho' hr j hu
    rw[hj]at this;cases this
   by_cases him:i<m
   ·obtain⟨t,d,e1,e2,hc⟩:=hst i o ho' (by omega)
    rcases hc with⟨hne,hbt,hAL⟩ | hu|⟨hij,hAL⟩
    ·refine TD hchk hE hl hdst hM hi (by omega) (fun o1 ho1=>?_) fun g' a' w' hM'=>ih _ g' a' w' hM' ?_ (by omega)
     ·rw[ho']at ho1;injection ho1 with ho1;subst ho1
      exact⟨t,d,e1,e2,hbt,hAL⟩
     ·rw[getD_set_ne false (by omega)];exact hj
    ·exact(nodead (by simpa using hu)).elim
    ·refine Lh hchk hl hdst hM hi (by omega) (fun o1 ho1=>?_) hQ
     rw[ho']at ho1;injection ho1 with ho1;subst ho1
     exact hAL
   ·have:=List.all_eq_true.1 hdead i (List.mem_range.2 hil)
    simp only[Bool.or_eq_true,Nat.blt_eq]at this
    exact(nodead (this.resolve_left him)).elim
 have hsz:l.toArray.size=l.length:=by simp
 rw[hsz]
 have hfresh:∀ i,(Array.replicate l.length false).getD i false=false:=fun i=>by
  rcases Nat.lt_or_ge i l.length with h|h<;>simp[h]
 refine main l.length _ g a _ ⟨hi.bd,hi.size,hi.defers,hi.mem.drew,hi.evo.trans Evo.drew,fun t=>?_,fun m o hm hl=>?_,by simp⟩ (hfresh j) ?_
 ·have:cur l ds tm (Array.replicate l.length false) t=look tm t:=by
   unfold cur
   have hf:(List.range l.length).find? (fun i=>(Array.replicate l.length false).getD i false&&((ds[i]?).map (·.1)==some t))=none:=by
    apply List.find?_eq_none.2
    intro i _
    rw[hfresh];simp
   rw[hf]
  rw[this]
  exact(hi.tm t).drew
 ·rw[hfresh]at hl;cases hl
 ·unfold left
  rw[List.countP_eq_length.2 (fun i _=>by rw[hfresh];rfl),List.length_range]
theorem JT [Known][Dfr]{l:List Oper}{j i t:Nat}{p d:D}{o:Oper}{rest:List Oper}{tm2:List (Nat × D)}(hd:o.dst=some t)(ht:Nat.blt t n=true)(hne:Nat.beq i j=false)(h2:nfl (Z8 l o tm)=some tm2)
  (h:AL P l.toArray [o] ⟨n,tm2,bx,fr,(bx.length,fr.length)⟩ (qp t d bx fr)) (k:ADX P l n bx fr j p (i+1) rest ((t,d)::tm)):ADX P l n bx fr j p i (o::rest) tm:=
 .pu i o rest t d tm hd ht hne (by rw[Yn h2];exact h) k
theorem Up [Known][Dfr]{l:List Oper}{j i t:Nat}{p:D}{o:Oper}{rest:List Oper}(hu:up (Yp [] l) i j=true)(hd:o.dst=some t)(k:ADX P l n bx fr j p (i+1) rest ((t,.junk)::tm)):ADX P l n bx fr j p i (o::rest) tm:=.dead i o rest t tm hd hu k
theorem QG [Known][Dfr]{l:List Oper}{j i t:Nat}{p:D}{o:Oper}{rest:List Oper}{tm2:List (Nat × D)}(hij:Nat.beq i j=true)(hd:o.dst=some t)(h2:nfl (Z8 l o tm)=some tm2)
  (h:AL P l.toArray [o] ⟨n,tm2,bx,fr,(bx.length,fr.length)⟩ (qx p bx)) (k:ADX P l n bx fr j p (i+1) rest ((t,.junk)::tm)):ADX P l n bx fr j p i (o::rest) tm:=by
 obtain rfl:=Nat.eq_of_beq_eq_true hij
 exact .pan o rest t tm hd (by rw[Yn h2];exact h) k
end
end Go.Av
end
section
open Go.RowKit Go.Pl
namespace Go.Av
section
variable {P:Program} {T:Tab} {Q:X->St->Prop} {n:Nat} {ee:Nat × Nat} {tm:List (Nat × D)} {bx:List (List D)} {fr fr':List Fr} {b0:Bs} {g:G} {w:World} {a:Act}
variable {ops:Array Oper} {rest:List Oper} {t ty:Nat} {pos:String} {after:Array Edge}
theorem NN [Known][Dfr]{x:Operand}{xt:Nat}{k:IntKind}{q:Int}(hx:ev tm x=.int k q)(ht:Nat.blt t n=true)
  (kk:AL P ops rest ⟨n,(t,.int k (bits .xor k (if k.signed then -1 else k.max) q))::tm,bx,fr,ee⟩ Q):AL P ops (⟨some t,.unOp .xor xt x,ty,pos,after,none⟩::rest) ⟨n,tm,bx,fr,ee⟩ Q:=
 ZX _ ht (fun g a w hi=>by
  have h1:V w g fr (ev tm x) (a.eval x):=hi.ev x;rw[hx]at h1;have h1:=h1.int_inv
  exact⟨.int k (bits .xor k (if k.signed then -1 else k.max) q),by simp[execOp,h1,Op.unary];rfl,.int _ _⟩) kk
theorem II (k:IntKind):∀ m:Nat,flat (List.replicate m (E.int k 0))=List.replicate m (E.int k 0)
 | 0=>rfl
 | m+1=>by rw[List.replicate_succ,WA,II k m];rfl
theorem Lj (k:IntKind)(m:Nat):Uni 1 (List.replicate m (E.int k 0)):=fun x hx=>by rw[(List.mem_replicate.1 hx).2];rfl
theorem Jp [Known][Dfr](hT:chk P T=true){st e:Nat}{x y:Operand}{kx ky k0:IntKind}{q:Int}{m l:Nat}{ti te:Ti}(hx:ev tm x=.int kx q)(hy:ev tm y=.int ky q)(hq:q=(l:Int))(ht:tl T st=some ti)(hk:ti.kd=.slice e)(hte:tl T e=some te)(hz:te.zero=[.i k0])
  (hb:Nat.ble (te.bytes*l) 281474976710656=true) (hl:Nat.ble l maxLen=true) (hm:fr.length=m) (hf:nfl (fr++[⟨l,1,e⟩])=some fr') (htd:Nat.blt t n=true)
  (k:AL P ops rest ⟨n,(t,.sl (.own m) (List.replicate l (.int k0 0)))::tm,bx,fr',ee⟩ Q):AL P ops (⟨some t,.makeSlice st x y,ty,pos,after,none⟩::rest) ⟨n,tm,bx,fr,ee⟩ Q:=
 Q1 _ htd (fun g a w hi=>by
  have h1:V w g fr (ev tm x) (a.eval x):=hi.ev x;rw[hx]at h1;have h1:=h1.int_inv
  have h2:V w g fr (ev tm y) (a.eval y):=hi.ev y;rw[hy]at h2;have h2:=h2.int_inv
  subst hq
  have hu:=(ZP hT ht).slice hk
  obtain⟨i,u,z,i1,i2,i3,i4,i5,i6,i7⟩:=(ZP hT hte).out
  have hsz:te.size=1:=by rw[<- (ZP hT hte).len,hz];rfl
  rw[hz]at i7
  have hzc:z.cells = #[.int k0 0]:=by
   have hl1:=(Vu (w:=w) (g:=g) (fr:=fr) i7).1
   match hzl:z.cells.toList,hl1 with
   | [v],_=>
    rw[hzl]at i7
    simp only[zks]at i7
    cases hv:zk v with
    | none=>rw[hv]at i7;cases i7
    | some z'=>
     rw[hv]at i7
     simp only[Option.some.injEq,List.cons.injEq,and_true]at i7
     subst i7
     unfold zk at hv
     split at hv<;>try(cases hv;done)
     ·split at hv
      ·cases hv
       refine Array.toList_inj.1 (hzl.trans ?_)
       simp_all
      ·cases hv
     ·split at hv<;>cases hv
  have hb':=Nat.le_of_ble_eq_true hb
  have hl':=Nat.le_of_ble_eq_true hl
  have hl2:l<=9223372036854775807:=hl'
  have hb2:(i.bytes:Int)*(l:Int)<=281474976710656:=by
   rw[<- i6];have:((te.bytes*l:Nat):Int)<=281474976710656:=by omega
   rwa [Int.natCast_mul]at this
  have hr:=run_make (P:=P) w st e i z hu i1 i3 kx ky (l:Int) (l:Int) (by omega) (Int.le_refl _) hb2 (by omega)
  rw[Int.toNat_natCast,<- i5,hsz,Nat.mul_one,hzc]at hr
  have hcl:(madeCells #[Value.int k0 0] l).toList=List.replicate l (.int k0 0):=by
   apply List.ext_getElem?
   intro j
   by_cases hj:j<l
   ·simp[madeCells,List.getElem?_replicate,hj,Nat.mod_one]
   ·simp[madeCells,List.getElem?_replicate,hj]
  obtain⟨k1,k2,k3⟩:=hi.mem.row (List.replicate l (.int k0 0)) (List.replicate l (.int k0 0)) l 1 e (by decide) (by simp) (by simp) hl' (Lj k0 l) (fun j x u hx hu=>by
   rw[II]at hx
   rw[List.getElem?_replicate]at hx hu
   split at hx
   ·rename_i hj;rw[if_pos hj]at hu;cases hx;cases hu;exact .int _ _
   ·cases hx)
  rw[List.length_replicate]at k1 k2 k3
  have e1:=Yn hf
  subst e1 hm
  refine⟨.slice (some ⟨w.heap.size,0,none⟩) l l,_,_,?_,k1,k2,k3⟩
  rw[<- hcl]
  simp only[execOp,Sem.run_bind,h1,h2,hr]
  rfl) k
theorem Jq [Known][Dfr](hT:chk P T=true){x hh:Operand}{st e:Nat}{tk:Tok}{l l2:List E}{k1:IntKind}{j:Int}{ti te:Ti}(hx:ev tm x=.sl tk l)(ht:tl T st=some ti)(hk:ti.kd=.slice e)(hte:tl T e=some te)(htd:Nat.blt t n=true)
  (hhi:ev tm hh=.int k1 j) (hU:Uni te.size l) (h0:0<=j) (hle:j.toNat<=l.length) (hd:l.take j.toNat=l2)
  (kk:AL P ops rest ⟨n,(t,.sl .ext l2)::tm,bx,fr,ee⟩ Q):AL P ops (⟨some t,.slice st x none (some hh) none,ty,pos,after,none⟩::rest) ⟨n,tm,bx,fr,ee⟩ Q:=by
 subst hd
 exact Ji hT hx ht hk hte htd (.dft _) (.lit hh _ k1 j hhi h0) (Nat.zero_le _) hle hU (by rw[List.drop_zero]) kk
end
end Go.Av
end
