/- The rules once more, with lengths written as numerals: for fixed calls with large states. -/
import Derived.Test.YtchlgagdbflkmaaGreatDoorL09
import Derived.Laws.MakeOwn
set_option linter.unusedSimpArgs false
set_option linter.unusedVariables false
section
open Go.RowKit Go.Pl
namespace Go.Av
def Te:List Nat:=[0,1,2,3,4,5,6,7,8,9,10,11,12,13,14,15,16,17,18,19,20,21,22,23,24,25,26,27,28,29,30,31,32,33,34,35,36,37,38,39,40,41,42,43,44,45,46,47,48,49,50,51,52,53,54,55,56,57,58,59,60,61,62,63]
def Ow {α:Type}:List α->List Nat->Option Nat
 | [],k::_=>some k
 | _::l,_::ks=>Ow l ks
 | _,[]=>none
abbrev UT {α:Type}(l:List α):Option Nat:=Ow l Te
theorem O0 {α:Type}:∀ {l:List α} {ks:List Nat} {b k:Nat},(∀(i x:Nat),ks[i]?=some x->x=b+i)->Ow l ks=some k->b+l.length=k
 | [],[],b,k,h,e=>by simp[Ow]at e
 | [],x::ks,b,k,h,e=>by
  simp[Ow]at e
  have:=h 0 x rfl
  simp;omega
 | _::l,[],b,k,h,e=>by simp[Ow]at e
 | _::l,x::ks,b,k,h,e=>by
  simp only[Ow]at e
  have:=O0 (b:=b+1) (fun i y hy=>by have:=h (i+1) y (by simpa using hy);omega) e
  simp;omega
theorem Hi:∀(i x:Nat),Te[i]?=some x->x=0+i:=fun i x h=>by
 have hl:Te=List.range 64:=by decide
 rw[hl]at h
 obtain⟨h1,h2⟩:=List.getElem?_eq_some_iff.1 h
 simp at h2
 omega
theorem WM {α:Type}{l:List α}{k:Nat}(h:UT l=some k):l.length=k:=by have:=O0 Hi h;omega
section
variable {P:Program} {Q:X->St->Prop} {n:Nat} {ee:Nat × Nat} {tm tm':List (Nat × D)} {bx bx':List (List D)} {fr fr':List Fr} {b0:Bs} {g:G} {w:World} {a:Act} {T:Tab}
variable {ops:Array Oper} {rest:List Oper} {t ty:Nat} {pos:String} {after:Array Edge} {ys:List Y}
theorem WN [Known][Dfr]{x:Operand}{e:TypeId}{d:D}{m:Nat}(hx:nf (ev tm x)=some d)(ho:D.ones d.cellsOf=true)(hb:nfb (bx++[d.cellsOf])=some bx')(hm:UT bx=some m)(htd:Nat.blt t n=true)
  (k:AL P ops rest ⟨n,(t,.ptr m 0)::tm,bx',fr,ee⟩ Q):AL P ops (⟨some t,.box e x,ty,pos,after,none⟩::rest) ⟨n,tm,bx,fr,ee⟩ Q:=H6 hx ho hb (WM hm) htd k
theorem YV [Known][Dfr](hT:chk P T=true){e:TypeId}{ti:Ti}{m:Nat}(ht:tl T e=some ti)(hb:nfb (bx++[ti.zero.map ZK.d])=some bx')(hm:UT bx=some m)(htd:Nat.blt t n=true)
  (k:AL P ops rest ⟨n,(t,.ptr m 0)::tm,bx',fr,ee⟩ Q):AL P ops (⟨some t,.alloc e,ty,pos,after,none⟩::rest) ⟨n,tm,bx,fr,ee⟩ Q:=IX hT ht hb (WM hm) htd k
theorem Z8 [Known][Dfr](hT:chk P T=true){st len e:Nat}{ds:List D}{es:List E}{ti te:Ti}{m:Nat}{parts:Array (Nat × Operand)}(ht:tl T st=some ti)(hk:ti.kd=.slice e)(hte:tl T e=some te)(hp:parts.toList.map (·.1)=List.range len)
  (hds:nfs (parts.toList.map fun p=>ev tm p.2)=some ds) (hes:D.toEl ds=some es) (hU:Ky te.size es=true) (hpos:Nat.blt 0 te.size=true) (hsm:Nat.ble (len*te.size) 16777216=true) (hm:UT fr=some m) (hf:nfl (fr++[⟨len,te.size,e⟩])=some fr') (htd:Nat.blt t n=true)
  (k:AL P ops rest ⟨n,(t,.sl (.own m) es)::tm,bx,fr',ee⟩ Q):AL P ops (⟨some t,.buildSlice st len parts,ty,pos,after,none⟩::rest) ⟨n,tm,bx,fr,ee⟩ Q:=
 V1 hT ht hk hte hp hds hes hU hpos hsm (WM hm) hf htd k
theorem Yl [Known][Dfr](hT:chk P T=true){x y:Operand}{st e i k2:Nat}{l l' l2:List E}{tk:Tok}{ti te:Ti}{f:Fr}(ht:tl T st=some ti)(hk:ti.kd=.slice e)(hte:tl T e=some te)(hx:ev tm x=.sl (.own i) l)(hy:ev tm y=.sl tk l')
  (hl2:nfl (l++l')=some l2) (hk2:UT l2=some k2) (hf:fr[i]?=some f) (hfn:f.n=l.length) (hfs:f.sz=te.size) (hfe:f.e=e) (hU:Uni te.size l) (hU':Uni te.size l') (hne:l' ≠ []) (hlen:Nat.ble k2 maxLen=true) (hby:Nat.ble (k2*te.bytes) 140737488355328=true)
  (hfr:nfl (fr.set i ⟨k2,te.size,e⟩)=some fr') (htd:Nat.blt t n=true)
  (k:AL P ops rest ⟨n,(t,.sl (.own i) l2)::tm,bx,fr',ee⟩ Q):AL P ops (⟨some t,.call { callee:=.builtin .append,args := #[x,y],argTypes := #[st,st] },ty,pos,after,none⟩::rest) ⟨n,tm,bx,fr,ee⟩ Q:=by
 have e2:=YO hl2
 have e3:=WM hk2
 have e4:l.length+l'.length=k2:=by rw[<- e3,<- e2,List.length_append]
 have e5:=Nat.le_of_ble_eq_true hlen
 have e6:=Nat.le_of_ble_eq_true hby
 refine ZJ hT ht hk hte hx hy hf hfn hfs hfe hU hU' hne (by rw[e4];exact e5) (by rw[e4];exact e6) (by rw[e4];exact hfr) htd (by rw[e2];exact k)
theorem ZL [Known][Dfr](hT:chk P T=true){x y:Operand}{st e m k2:Nat}{l':List E}{tk:Tok}{ti te:Ti}(ht:tl T st=some ti)(hk:ti.kd=.slice e)(hte:tl T e=some te)(hx:ev tm x=.sl .nil [])(hy:ev tm y=.sl tk l')
  (hpos:Nat.blt 0 te.size=true) (hU':Uni te.size l') (hne:l' ≠ []) (hk2:UT l'=some k2) (hlen:Nat.ble k2 maxLen=true) (hby:Nat.ble (k2*te.bytes) 140737488355328=true)
  (hm:UT fr=some m) (hfr:nfl (fr++[⟨k2,te.size,e⟩])=some fr') (htd:Nat.blt t n=true)
  (k:AL P ops rest ⟨n,(t,.sl (.own m) l')::tm,bx,fr',ee⟩ Q):AL P ops (⟨some t,.call { callee:=.builtin .append,args := #[x,y],argTypes := #[st,st] },ty,pos,after,none⟩::rest) ⟨n,tm,bx,fr,ee⟩ Q:=by
 have e3:=WM hk2
 subst e3
 exact Z3 hT ht hk hte hx hy hpos hU' hne (Nat.le_of_ble_eq_true hlen) (Nat.le_of_ble_eq_true hby) (WM hm) hfr htd k
theorem Zr [Known]{t:Option Nat}{ty:Nat}{pos:String}{after:Array Edge}{f:FuncId}{ars:Array Operand}{ats:Array TypeId}{fn:Func}{c:Code}{n' i j:Nat}{rs:List ResultVar}{cds:List D}{tm2:List (Nat × D)}
  (hf:P.funcs[f]?=some fn) (hn:fn.ntmps=n') (hb:fn.body=some c) (hr:fn.results=rs.toArray) (hif:Jh P f=true) (hc:nfs (ars.toList.map (ev tm))=some cds) (hl:Nat.ble cds.length n'=true) (ht:Ta t n=true) (hi:UT bx=some i) (hj:UT fr=some j) (htm:nfl (VZ 0 cds)=some tm2)
  (h:AW P c ⟨n',tm2,bx,fr,(i,j)⟩ (Kl P rs t n tm ee ops rest Q)):AL P ops (⟨t,.call { callee:=.value (.func f),args:=ars,argTypes:=ats },ty,pos,after,none⟩::rest) ⟨n,tm,bx,fr,ee⟩ Q:=
 TW hf hn hb hr hif hc hl ht (by rw[WM hi,WM hj,YO htm];exact h)
theorem Zv [Known][Dfr]{l:List Oper}{i p q:Nat}{o:Oper}{rest:List Oper}{y:Y}{tm2:List (Nat × D)}(ht:XT n o=true)(h2:nfl (Wp l o tm)=some tm2)(hp:UT bx=some p)(hq:UT fr=some q)
  (h:AL P l.toArray [o] ⟨n,tm2,bx,fr,(p,q)⟩ (qY o bx fr y)) (k:AEk P l n i o rest y tm bx fr ys tm' bx' fr'):AE P l n i (o::rest) tm bx fr (y::ys) tm' bx' fr':=
 Hh ht h2 (by rw[WM hp,WM hq];exact h) k
theorem ZP [Known][Dfr]{l:List Oper}{es:List Nat}{i c p q:Nat}{o:Oper}{d:D}{sts:List (Nat × List (List D) × List Fr)}{tm2:List (Nat × D)}(h2:nfl (Wp l o tm)=some tm2)(hp:UT bx=some p)(hq:UT fr=some q)(h:AL P l.toArray [o] ⟨n,tm2,bx,fr,(p,q)⟩ (qY o bx fr (.pu d)))(k:AOs P l n es i o tm d sts):AOs P l n es i o tm d ((c,bx,fr)::sts):=
 Td h2 (by rw[WM hp,WM hq];exact h) k
theorem ZB [Known][Dfr]{l:List Oper}{i t:Nat}{o:Oper}{rest:List Oper}{d:D}(ho:o.dst=some t)(k:AE P l n (i+1) rest ((t,d)::tm) bx fr ys tm' bx' fr'):AEk P l n i o rest (.pu d) tm bx fr ys tm' bx' fr':=VD (by simp[Ww,ho]) k
theorem Z1 [Known][Dfr]{l:List Oper}{i t:Nat}{o:Oper}{rest:List Oper}{d:D}{b:List (List D)}{f:List Fr}(ho:o.dst=some t)(k:AE P l n (i+1) rest ((t,d)::tm) b f ys tm' bx' fr'):AEk P l n i o rest (.ef d b f) tm bx fr ys tm' bx' fr':=Y3 (by simp[Ww,ho]) k
theorem Ye [Known][Dfr]{l:List Oper}{es:List Nat}{sts:List (Nat × List (List D) × List Fr)}{i t:Nat}{o:Oper}{rest:List Oper}{d:D}{b:List (List D)}{f:List Fr}(ho:o.dst=some t)(k:AO P l n es sts (i+1) rest ys ((t,d)::tm)):AO P l n es sts i (o::rest) (.ef d b f::ys) tm:=WP (by simp[Ww,ho]) k
theorem ZE [Known][Dfr]{l:List Oper}{es:List Nat}{sts:List (Nat × List (List D) × List Fr)}{i t:Nat}{o:Oper}{rest:List Oper}{d:D}(ho:o.dst=some t)(h:AOs P l n es i o tm d sts)(k:AO P l n es sts (i+1) rest ys ((t,d)::tm)):AO P l n es sts i (o::rest) (.pu d::ys) tm:=Uy (by simp[Ww,ho]) h k
end
end Go.Av
end
section
open Go.RowKit Go.Pl
namespace Go.Av
section
variable {P:Program} {Q:X->St->Prop} {n:Nat} {ee:Nat × Nat} {tm tm':List (Nat × D)} {bx bx':List (List D)} {fr fr':List Fr} {b0:Bs} {g:G} {w:World} {a:Act} {T:Tab}
variable {ops:Array Oper} {rest:List Oper} {t ty:Nat} {pos:String} {after:Array Edge}
theorem VR [Known][Dfr](hT:chk P T=true){x lo:Operand}{st e:Nat}{tk:Tok}{bs bs2:List UInt8}{l:List E}{k0:IntKind}{i:Int}{ti te:Ti}(hx:ev tm x=.sl tk l)(hl:l=bs.map E.byte)(ht:tl T st=some ti)(hk:ti.kd=.slice e)(hte:tl T e=some te)(hsz:Nat.beq te.size 1=true)(htd:Nat.blt t n=true)
  (hlo:ev tm lo=.int k0 i) (h0:0<=i) (hle:i.toNat<=bs.length) (hd:bs.drop i.toNat=bs2)
  (kk:AL P ops rest ⟨n,(t,.sl .ext (bs2.map E.byte))::tm,bx,fr,ee⟩ Q):AL P ops (⟨some t,.slice st x (some lo) none none,ty,pos,after,none⟩::rest) ⟨n,tm,bx,fr,ee⟩ Q:=by
 subst hd
 refine W9 hT hx ht hk hte htd (.lit lo _ k0 i hlo h0) (.dft _) (by rw[hl,List.length_map];exact hle) (Nat.le_refl _) ?_ ?_ kk
 ·rw[Nat.eq_of_beq_eq_true hsz,hl];exact Uni.map (f:=E.byte) (fun _=>rfl) bs
 ·rw[hl,List.take_of_length_le (Nat.le_refl _),List.map_drop]
theorem Hj [Known][Dfr](hT:chk P T=true){x lo hh:Operand}{st e:Nat}{tk:Tok}{bs bs2:List UInt8}{l:List E}{k0 k1:IntKind}{i j:Int}{ti te:Ti}(hx:ev tm x=.sl tk l)(hl:l=bs.map E.byte)(ht:tl T st=some ti)(hk:ti.kd=.slice e)(hte:tl T e=some te)(hsz:Nat.beq te.size 1=true)(htd:Nat.blt t n=true)
  (hlo:ev tm lo=.int k0 i) (hhi:ev tm hh=.int k1 j) (h0:0<=i) (hij:i<=j) (hle:j.toNat<=bs.length) (hd:(bs.take j.toNat).drop i.toNat=bs2)
  (kk:AL P ops rest ⟨n,(t,.sl .ext (bs2.map E.byte))::tm,bx,fr,ee⟩ Q):AL P ops (⟨some t,.slice st x (some lo) (some hh) none,ty,pos,after,none⟩::rest) ⟨n,tm,bx,fr,ee⟩ Q:=by
 subst hd
 refine W9 hT hx ht hk hte htd (.lit lo _ k0 i hlo h0) (.lit hh _ k1 j hhi (by omega)) (by omega) (by rw[hl,List.length_map];exact hle) ?_ ?_ kk
 ·rw[Nat.eq_of_beq_eq_true hsz,hl];exact Uni.map (f:=E.byte) (fun _=>rfl) bs
 ·rw[hl,List.map_drop,List.map_take]
theorem Hk [Known][Dfr](hT:chk P T=true){x hh:Operand}{st e:Nat}{tk:Tok}{bs bs2:List UInt8}{l:List E}{k1:IntKind}{j:Int}{ti te:Ti}(hx:ev tm x=.sl tk l)(hl:l=bs.map E.byte)(ht:tl T st=some ti)(hk:ti.kd=.slice e)(hte:tl T e=some te)(hsz:Nat.beq te.size 1=true)(htd:Nat.blt t n=true)
  (hhi:ev tm hh=.int k1 j) (h0:0<=j) (hle:j.toNat<=bs.length) (hd:bs.take j.toNat=bs2)
  (kk:AL P ops rest ⟨n,(t,.sl .ext (bs2.map E.byte))::tm,bx,fr,ee⟩ Q):AL P ops (⟨some t,.slice st x none (some hh) none,ty,pos,after,none⟩::rest) ⟨n,tm,bx,fr,ee⟩ Q:=by
 subst hd
 refine W9 hT hx ht hk hte htd (.dft _) (.lit hh _ k1 j hhi h0) (Nat.zero_le _) (by rw[hl,List.length_map];exact hle) ?_ ?_ kk
 ·rw[Nat.eq_of_beq_eq_true hsz,hl];exact Uni.map (f:=E.byte) (fun _=>rfl) bs
 ·rw[hl,List.drop_zero,List.map_take]
theorem YW [Known][Dfr]{S:St}{x y:Code}(h:AW P x S Q):AW P (.cond (.const (.bool true)) x y) S Q:=⟨fun b0 g a w hi=>wp_cond_true rfl (h.run b0 g a w hi)⟩
theorem YX [Known][Dfr]{S:St}{x y:Code}(h:AW P y S Q):AW P (.cond (.const (.bool false)) x y) S Q:=⟨fun b0 g a w hi=>wp_cond_false rfl (h.run b0 g a w hi)⟩
theorem Tf {f:FuncId}{l:List D}{v:Value}(h:V w g fr (.fn f l) v):∃ vs:List Value,v=.func (.func f) #[] vs.toArray/\vs.length=l.length/\∀(j:Nat) (d:D) (v:Value),l[j]?=some d->vs[j]?=some v->V w g fr d v:=by
 cases h with
 | fn _ _ vs hl h=>exact⟨vs,rfl,hl,h⟩
end
theorem Ga [Known][Dfr]{P:Program}{Q:X->St->Prop}{S:St}{ops:Array Oper}{rest:List Oper}{t:Option Nat}{ty:Nat}{pos:String}{after:Array Edge}{f:FuncId}{x:Operand}{ars:Array Operand}{ats:Array TypeId}(bs ts:List Nat)
  {cds caps:List D} {bxs:List (List D)} {frs:List Fr} {post:R->List (List D)->List Fr->Prop} (hx:ev S.tm x=.fn f caps) (hf:Jh P f=true) (hAC:AC P f cds bxs frs post)
  (hc:(ars.toList.map (ev S.tm)++caps).map (D.ren (idx bs) (idx ts))=cds) (hb:WK bs S.bx.length) (ht:WK ts S.fr.length) (hbx:Qp bs ts S.bx=bxs) (hfr:VY ts S.fr=frs) (htd:(match t with|some t=>Nat.blt t S.n|none=>true)=true)
  (hp:∀ d bx' fr',post (.pan d) bx' fr'->bs.length<=bx'.length/\Q (.pan (d.ren (upN bs S.bx.length) (upN ts S.fr.length))) ⟨S.n,S.tm,Q6 bs ts S.bx S.fr.length bx',Us ts S.fr fr',S.e⟩)
  (k:∀ d bx' fr',post (.ret d) bx' fr'->bs.length<=bx'.length/\AL P ops rest (S.aft bs ts bx' fr' t d) Q):AL P ops (⟨t,.call { callee:=.value x,args:=ars,argTypes:=ats },ty,pos,after,none⟩::rest) S Q:=by
 refine⟨fun b0 g a w hi=>?_⟩
 refine wpList_plain rfl fun K hK=>?_
 have hvx:=hi.ev x
 rw[hx]at hvx
 obtain⟨cvs,hcv,hcl,hcV⟩:=Tf hvx
 have hrun:(execOp a.eval ⟨t,.call { callee:=.value x,args:=ars,argTypes:=ats },ty,pos,after,none⟩).run P w=.ok (.enter f (ars.toList.map a.eval++cvs).toArray) w:=by
  have e:ars.map a.eval++cvs.toArray=(ars.toList.map a.eval++cvs).toArray:=by
   rw[<- List.append_toArray,<- Array.toList_map,Array.toArray_toList]
  have hz:=VK hf (ars.toList.map a.eval++cvs).toArray w
  rw[<- e]at hz ⊢
  simpa[execOp,resolve,hcv,Deferred.ofValue,invoke,Sem.run_bind]using hz
 unfold Oper.wp
 rw[hrun]
 have hm:=hi.mem
 have hcall:=hAC.run (g.sel bs ts) w (ars.toList.map a.eval++cvs) (by rw[<- hbx,<- hfr];exact hm.sel hb ht) (by rw[<- hc];simp[hcl]) (fun j d v hd hv=>by
  rw[<- hc,List.getElem?_map]at hd
  cases hj:(ars.toList.map (ev S.tm)++caps)[j]? with
  | none=>simp only[hj,Option.map_none]at hd;cases hd
  | some d0=>
   simp only[hj,Option.map_some,Option.some.injEq]at hd
   subst hd
   rw[<- hfr]
   refine V.sel hm hb ht ?_
   rcases Nat.lt_or_ge j ars.toList.length with hlt|hge
   ·rw[List.getElem?_append_left (by simpa using hlt)]at hj hv
    exact evs hi ars j d0 v hj hv
   ·rw[List.getElem?_append_right (by simpa using hge)]at hj hv
    simp only[List.length_map]at hj hv
    exact hcV _ d0 v hj hv)
 refine hcall.mono fun e w' ⟨g',bx',fr',r,he,hm',hr,hpost⟩=>?_
 rw[<- hfr]at he
 have common:bs.length<=bx'.length->Inv b0 ⟨S.n,S.tm,Q6 bs ts S.bx S.fr.length bx',Us ts S.fr fr',S.e⟩ (VO bs ts g g') a w'/\∀ d v,V w' g' fr' d v->V w' (VO bs ts g g') (Us ts S.fr fr') (d.ren (upN bs S.bx.length) (upN ts S.fr.length)) v:=fun hle=>by
  obtain⟨q1,q2,q3⟩:=Go.Av.aft hm hb ht he hm' hle
  exact⟨⟨hi.size,hi.defers,q1,fun t=>(hi.tm t).evo q2,hi.evo.trans q2,hi.bd⟩,q3⟩
 cases r with
 | ret d=>
  obtain⟨v,rfl,hv⟩:=hr
  obtain⟨hle,hk⟩:=k d bx' fr' hpost
  obtain⟨hi2,hup⟩:=common hle
  refine hK _ _ (hk.run b0 (VO bs ts g g') _ w' ?_)
  cases t with
  | none=>exact hi2
  | some t=>exact hi2.put htd (hup d v hv)
 | pan d=>
  obtain⟨v,rfl,hv⟩:=hr
  obtain⟨hle,hq⟩:=hp d bx' fr' hpost
  obtain⟨hi2,hup⟩:=common hle
  exact⟨_,_,v,_,hi2,rfl,hup d v hv,hq⟩
section
variable {P:Program} {Q:X->St->Prop} {n:Nat} {ee:Nat × Nat} {tm:List (Nat × D)} {bx:List (List D)} {fr:List Fr} {ops:Array Oper} {rest:List Oper} {ty:Nat} {pos:String} {after:Array Edge} {f:FuncId} {ars:Array Operand} {ats:Array TypeId}
theorem XU [Known][Dfr]{t:Nat}{x:Operand}{cds caps:List D}{d d':D}(hAC:AP P f cds d [])(hx:ev tm x=.fn f caps)(hf:Jh P f=true)
  (hc:D.wks ((ars.toList.map (ev tm)++caps).map (D.ren (idx []) (idx [])))=cds) (htd:Nat.blt t n=true) (hd:nf (d.ren (upN [] bx.length) (upN [] fr.length))=some d')
  (k:AL P ops rest ⟨n,(t,d')::tm,bx,fr,ee⟩ Q):AL P ops (⟨some t,.call { callee:=.value x,args:=ars,argTypes:=ats },ty,pos,after,none⟩::rest) ⟨n,tm,bx,fr,ee⟩ Q:=by
 refine Ga [] [] hx hf (AC.unwk (hc ▸ hAC)) rfl (Wi _) (Wi _) rfl rfl htd (fun _ _ _ h=>by cases h.1) fun d0 bx' fr' h=>?_
 obtain⟨h1,rfl,rfl⟩:=h
 injection h1 with h1
 subst h1
 refine⟨Nat.le_refl _,?_⟩
 have e1:=YZ hd
 subst e1
 simpa[St.aft,Q6,Us,Vu]using k
end
def D.pure:D->Bool
 | .bool _ | .int _ _ | .str _ | .nilp | .nilf | .nili=>true
 | .iface _ (.agg l)=>l.all fun | .bool _ | .int _ _ | .str _=>true|_=>false
 | .iface _ d=>match d with | .bool _ | .int _ _ | .str _=>true|_=>false
 | _=>false
section
variable {P:Program} {Q:X->St->Prop} {n:Nat} {ee:Nat × Nat} {tm:List (Nat × D)} {bx:List (List D)} {fr:List Fr} {ops:Array Oper} {rest:List Oper} {ty:Nat} {pos:String} {after:Array Edge} {f:FuncId} {ars:Array Operand} {ats:Array TypeId}
end
end Go.Av
end
section
open Go.RowKit Go.Pl
namespace Go.Av
section
variable {P:Program} {Q:X->St->Prop} {n:Nat} {ee:Nat × Nat} {tm tm':List (Nat × D)} {bx bx':List (List D)} {fr fr':List Fr} {b0:Bs} {g:G} {w:World} {a:Act}
def qx (p:D)(bx:List (List D)):X->St->Prop
 | .pan d,S=>d=p/\bx.length<=S.bx.length
 | _,_=>False
inductive ADX [Known][Dfr](P:Program) (l:List Oper) (n:Nat) (bx:List (List D)) (fr:List Fr) (j:Nat) (p:D):Nat->List Oper->List (Nat × D)->Prop
 | nil (i:Nat) (tm:List (Nat × D)):ADX P l n bx fr j p i [] tm
 | pu (i:Nat) (o:Oper) (rest:List Oper) (t:Nat) (d:D) (tm:List (Nat × D)) (hd:o.dst=some t) (ht:Nat.blt t n=true) (hne:Nat.beq i j=false) (h:AL P l.toArray [o] ⟨n,Wp l o tm,bx,fr,(bx.length,fr.length)⟩ (qp t d bx fr)) (k:ADX P l n bx fr j p (i+1) rest ((t,d)::tm)):ADX P l n bx fr j p i (o::rest) tm
 | dead (i:Nat) (o:Oper) (rest:List Oper) (t:Nat) (tm:List (Nat × D)) (hd:o.dst=some t) (hu:up (Wf [] l) i j=true) (k:ADX P l n bx fr j p (i+1) rest ((t,.junk)::tm)):ADX P l n bx fr j p i (o::rest) tm
 | pan (o:Oper) (rest:List Oper) (t:Nat) (tm:List (Nat × D)) (hd:o.dst=some t) (h:AL P l.toArray [o] ⟨n,Wp l o tm,bx,fr,(bx.length,fr.length)⟩ (qx p bx)) (k:ADX P l n bx fr j p (j+1) rest ((t,.junk)::tm)):ADX P l n bx fr j p j (o::rest) tm
end
end Go.Av
end
section
open Go.RowKit Go.Pl
namespace Go.Av
section
variable {P:Program} {T:Tab} {Q:X->St->Prop} {n:Nat} {ee:Nat × Nat} {tm:List (Nat × D)} {bx:List (List D)} {fr fr':List Fr} {b0:Bs} {g:G} {w:World} {a:Act}
variable {ops:Array Oper} {rest:List Oper} {t ty:Nat} {pos:String} {after:Array Edge}
end
end Go.Av
end
section
open Go.RowKit Go.Pl
namespace Go.Av
def Gb (T:Tab)(tm:List (Nat × D))(op:BinOp)(xt:Nat)(x y:Operand):Option D:=
 match ev tm x,ev tm y with
 | .int k m,.int k2 q=>match decide (k=k2),(match op with | .quo | .rem | .shl | .shr=>false|_=>true) with
  | true,true=>nf (IQ op k m q)
  | _,_=>none
 | .str p,.str q=>match op with
  | .eql | .neq | .lss | .leq | .gtr | .geq=>nf (On op p q)
  | _=>none
 | .bool p,.bool q=>match tl T xt with
  | some ti=>match ti.kd with
   | .bool=>match op with
    | .eql=>some (.bool (p==q))
    | .neq=>some (.bool (!(p==q)))
    | _=>none
   | _=>none
  | none=>none
 | d,.nilp=>match H7 d,tl T xt with
  | some p,some ti=>match ti.kd with
   | .ptr _=>match op with
    | .eql=>some (.bool p)
    | .neq=>some (.bool (!p))
    | _=>none
   | _=>none
  | _,_=>none
 | _,_=>none
def H0 (bx:List (List D))(ti:Ti):D->Option D
 | .ptr b o=>match bx[b]? with
  | some cs=>match ti.kd.agg with
   | false=>cs[o]?
   | true=>match Nat.ble (o+ti.size) cs.length,nfs ((cs.drop o).take ti.size) with
    | true,some cs'=>some (.agg cs')
    | _,_=>none
  | none=>none
 | .eptr cs o=>match ti.kd.agg with
  | false=>match cs[o]? with
   | some e=>nf (.ofE e)
   | none=>none
  | true=>match Nat.ble (o+ti.size) cs.length,nfs (((cs.drop o).take ti.size).map .ofE) with
   | true,some cs'=>some (.agg cs')
   | _,_=>none
 | _=>none
def Hl (T:Tab)(st f:Nat):Option Fd:=
 match tl T st with
 | some ti=>match ti.kd with
  | .struct fs=>match fs[f]? with
   | some fd=>match Nat.beq fd.size 0 with
    | false=>some fd
    | true=>none
   | none=>none
  | _=>none
 | none=>none
def Gc (T:Tab)(tm:List (Nat × D))(bx:List (List D)):Op->Option D
 | .move x=>nf (ev tm x)
 | .assign x=>nf (ev tm x)
 | .binOp op xt x y _=>Gb T tm op xt x y
 | .unOp .not _ x=>match ev tm x with
  | .bool b=>some (.bool (!b))
  | _=>none
 | .convert src dst x=>match ev tm x with
  | .int _ q=>match tl T src,tl T dst with
   | some _,some td=>match td.kd with
    | .int k'=>some (.int k' (k'.wrap q))
    | _=>none
   | _,_=>none
  | _=>none
 | .load lt x=>match tl T lt with
  | some ti=>H0 bx ti (ev tm x)
  | none=>none
 | .fieldAddr st x f=>match Hl T st f with
  | some fd=>match ev tm x with
   | .ptr b o=>match UT (List.replicate (o+fd.off) ()) with
    | some o'=>some (.ptr b o')
    | none=>none
   | .eptr cs o=>match UT (List.replicate (o+fd.off) ()) with
    | some o'=>some (.eptr cs o')
    | none=>none
   | _=>none
  | none=>none
 | .nilCheck x=>match ev tm x with
  | .ptr b o=>some (.ptr b o)
  | .eptr cs o=>some (.eptr cs o)
  | _=>none
 | .extract x i=>match ev tm x with
  | .tup l=>l[i]?
  | _=>none
 | .field st x f=>match Hl T st f with
  | some fd=>match tl T fd.ty with
   | some ti'=>match ti'.kd.agg with
    | false=>match ev tm x with
     | .agg l=>l[fd.off]?
     | _=>none
    | true=>none
   | none=>none
  | none=>none
 | .build st parts=>match tl T st with
  | some ti=>match ti.kd with
   | .struct fs=>match Jl fs (ti.zero.map ZK.d) (parts.toList.map (fun p=>(p.1,ev tm p.2))) with
    | some cs=>match nfs cs with
     | some cs'=>some (.agg cs')
     | none=>none
    | none=>none
   | _=>none
  | none=>none
 | .makeFunc (.func f) ⟨[]⟩ caps=>match nfs (caps.toList.map (ev tm)) with
  | some ds=>some (.fn f ds)
  | none=>none
 | _=>none
abbrev Rs:=List (Nat × D) × List (List D)
def O1 (T:Tab)(n:Nat)(tm:List (Nat × D))(bx:List (List D)):Oper->Option Rs
 | ⟨some t,.box _ x,_,_,_,none⟩=>match nf (ev tm x) with
  | some d=>match D.ones d.cellsOf,nfb (bx++[d.cellsOf]),UT bx,Nat.blt t n with
   | true,some bx',some m,true=>some ((t,.ptr m 0)::tm,bx')
   | _,_,_,_=>none
  | none=>none
 | ⟨some t,.alloc e,_,_,_,none⟩=>match tl T e with
  | some ti=>match nfb (bx++[ti.zero.map ZK.d]),UT bx,Nat.blt t n with
   | some bx',some m,true=>some ((t,.ptr m 0)::tm,bx')
   | _,_,_=>none
  | none=>none
 | ⟨none,.store lt x y,_,_,_,none⟩=>match ev tm x,nf (ev tm y),tl T lt with
  | .ptr b o,some d,some ti=>match D.ones d.cellsOf,Nat.beq d.cellsOf.length ti.size,bx[b]? with
   | true,true,some cs=>match Nat.ble (o+d.cellsOf.length) cs.length,nfb (bx.set b (Vp cs o d.cellsOf)) with
    | true,some bx'=>some (tm,bx')
    | _,_=>none
   | _,_,_=>none
  | _,_,_=>none
 | ⟨some t,op,_,_,_,none⟩=>match Gc T tm bx op,Nat.blt t n with
  | some d,true=>some ((t,d)::tm,bx)
  | _,_=>none
 | _=>none
def Gd (T:Tab)(n:Nat):List Oper->List (Nat × D)->List (List D)->List Oper × Rs
 | [],tm,bx=>([],tm,bx)
 | o::l,tm,bx=>match O1 T n tm bx o with
  | some (tm',bx')=>Gd T n l tm' bx'
  | none=>(o::l,tm,bx)
inductive Fm where
 | seq (y:Code)
 | blk (id:Nat)
inductive Pos where
 | aw (c:Code)
 | al (ops:Array Oper) (l:List Oper)
 | x (x:X)
def goG (T:Tab)(n:Nat):Nat->Pos->List Fm->List (Nat × D)->List (List D)->Option (Pos × List Fm × Rs)
 | 0,p,ks,tm,bx=>some (p,ks,tm,bx)
 | f+1,.aw c,ks,tm,bx=>match c with
  | .seq a b=>goG T n f (.aw a) (.seq b::ks) tm bx
  | .block id a=>goG T n f (.aw a) (.blk id::ks) tm bx
  | .skip=>goG T n f (.x .norm) ks tm bx
  | .label _=>goG T n f (.x .norm) ks tm bx
  | .exit i=>goG T n f (.x (.exit i)) ks tm bx
  | .goto l=>goG T n f (.x (.goto l)) ks tm bx
  | .ret=>goG T n f (.x .ret) ks tm bx
  | .region _ ops false=>goG T n f (.al ops ops.toList) ks tm bx
  | .cond (.const (.bool true)) a _=>goG T n f (.aw a) ks tm bx
  | .cond (.const (.bool false)) _ b=>goG T n f (.aw b) ks tm bx
  | c=>some (.aw c,ks,tm,bx)
 | f+1,.al ops l,ks,tm,bx=>match Gd T n l tm bx with
  | ([],tm',bx')=>goG T n f (.x .norm) ks tm' bx'
  | (o::l',tm',bx')=>some (.al ops (o::l'),ks,tm',bx')
 | f+1,.x x,ks,tm,bx=>match ks with
  | []=>some (.x x,[],tm,bx)
  | k::ks=>match x with
   | .norm=>match k with
    | .seq b=>goG T n f (.aw b) ks tm bx
    | .blk _=>goG T n f (.x .norm) ks tm bx
   | .exit i=>match k with
    | .blk id=>match Nat.beq i id with
     | true=>goG T n f (.x .norm) ks tm bx
     | false=>goG T n f (.x (.exit i)) ks tm bx
    | .seq _=>goG T n f (.x (.exit i)) ks tm bx
   | .goto l=>goG T n f (.x (.goto l)) ks tm bx
   | .ret=>goG T n f (.x .ret) ks tm bx
   | .pan d=>goG T n f (.x (.pan d)) ks tm bx
def goA (T:Tab)(n:Nat)(c:Code)(tm:List (Nat × D))(bx:List (List D)):Option (Pos × List Fm × Rs):=
 match c with
 | .seq .. | .block .. | .skip | .label _ | .exit _ | .goto _ | .ret | .region _ _ false | .cond (.const (.bool _)) _ _=>goG T n 400 (.aw c) [] tm bx
 | _=>none
def goL (T:Tab)(n:Nat)(ops:Array Oper)(l:List Oper)(tm:List (Nat × D))(bx:List (List D)):Option (Pos × List Fm × Rs):=
 match l with
 | []=>some (.x .norm,[],tm,bx)
 | o::l=>match O1 T n tm bx o with
  | some (tm',bx')=>goG T n 400 (.al ops l) [] tm' bx'
  | none=>none
def goK (T:Tab)(n:Nat)(x:X)(ks:List Fm)(tm:List (Nat × D))(bx:List (List D)):Option (Pos × List Fm × Rs):=
 match ks with
 | []=>none
 | k::ks=>goG T n 400 (.x x) (k::ks) tm bx
section
variable {P:Program} {Q:X->St->Prop} {n:Nat} {ee:Nat × Nat} {tm:List (Nat × D)} {bx:List (List D)} {fr:List Fr} {T:Tab}
variable {ops:Array Oper} {rest:List Oper} {t ty:Nat} {pos:String} {after:Array Edge}
def unK [Known][Dfr](P:Program)(Q:X->St->Prop):List Fm->X->St->Prop
 | []=>Q
 | .seq y::ks=>X.then (fun S=>AW P y S (unK P Q ks)) (unK P Q ks)
 | .blk id::ks=>X.inBlock id (unK P Q ks)
@[reducible] def J [Known][Dfr](P:Program) (n:Nat) (fr:List Fr) (ee:Nat × Nat) (Q:X->St->Prop):Pos × List Fm × Rs->Prop
 | (.aw c,[],tm,bx)=>AW P c ⟨n,tm,bx,fr,ee⟩ Q
 | (.al ops l,[],tm,bx)=>AL P ops l ⟨n,tm,bx,fr,ee⟩ Q
 | (.x x,[],tm,bx)=>Q x ⟨n,tm,bx,fr,ee⟩
 | (.aw c,k::ks,tm,bx)=>AW P c ⟨n,tm,bx,fr,ee⟩ (unK P Q (k::ks))
 | (.al ops l,k::ks,tm,bx)=>AL P ops l ⟨n,tm,bx,fr,ee⟩ (unK P Q (k::ks))
 | (.x x,k::ks,tm,bx)=>unK P Q (k::ks) x ⟨n,tm,bx,fr,ee⟩
theorem Vs [Known][Dfr](P:Program)(n:Nat)(fr:List Fr)(ee:Nat × Nat)(Q:X->St->Prop)(p:Pos)(ks:List Fm)(tm:List (Nat × D))(bx:List (List D)):J P n fr ee Q (p,ks,tm,bx)=match p with
  | .aw c=>AW P c ⟨n,tm,bx,fr,ee⟩ (unK P Q ks)
  | .al ops l=>AL P ops l ⟨n,tm,bx,fr,ee⟩ (unK P Q ks)
  | .x x=>unK P Q ks x ⟨n,tm,bx,fr,ee⟩:=by
 cases p<;>cases ks<;>rfl
theorem KJ {o o':Nat}(h:UT (List.replicate o ())=some o'):o=o':=by
 have:=WM h
 simpa using this
theorem Ge [Known][Dfr](hT:chk P T=true){op:BinOp}{xt yt:Nat}{x y:Operand}{d:D}(h:Gb T tm op xt x y=some d)(ht:Nat.blt t n=true)
  (k:AL P ops rest ⟨n,(t,d)::tm,bx,fr,ee⟩ Q):AL P ops (⟨some t,.binOp op xt x y yt,ty,pos,after,none⟩::rest) ⟨n,tm,bx,fr,ee⟩ Q:=by
 unfold Gb at h
 split at h
 ·rename_i k1 m k2 q hx hy
  split at h
  ·rename_i e1 e2
   have e1:=of_decide_eq_true e1
   subst e1
   exact Vm hx hy e2 h ht k
  ·cases h
 ·rename_i p q hx hy
  cases op<;>simp only at h<;>first|cases h;done|exact Vq hx hy rfl h ht k
 ·rename_i p q hx hy
  split at h
  ·rename_i ti hti
   split at h
   ·rename_i hk
    cases op<;>simp only at h<;>first|cases h;done|exact Vz hT hx hy hti hk h ht k
   ·cases h
  ·cases h
 ·have hy:ev tm y=.nilp:=by assumption
  split at h
  ·rename_i p ti hp hti
   split at h
   ·rename_i e hk
    cases op<;>simp only at h<;>first|cases h;done|exact WZ hT hp hy hti hk h ht k
   ·cases h
  ·cases h
 ·cases h
theorem O2 {st f:Nat}{fd:Fd}(h:Hl T st f=some fd):∃ ti fs,tl T st=some ti/\ti.kd=.struct fs/\fs[f]?=some fd/\Nat.beq fd.size 0=false:=by
 unfold Hl at h
 split at h
 ·rename_i ti hti
  split at h
  ·rename_i fs hk
   split at h
   ·rename_i fd' hf
    split at h
    ·rename_i hs
     cases h
     exact⟨ti,fs,hti,hk,hf,hs⟩
    ·cases h
   ·cases h
  ·cases h
 ·cases h
theorem Gf [Known][Dfr](hT:chk P T=true){op:Op}{d:D}(h:Gc T tm bx op=some d)(ht:Nat.blt t n=true)
  (k:AL P ops rest ⟨n,(t,d)::tm,bx,fr,ee⟩ Q):AL P ops (⟨some t,op,ty,pos,after,none⟩::rest) ⟨n,tm,bx,fr,ee⟩ Q:=by
 unfold Gc at h
 split at h
 ·exact WA h ht k
 ·exact Yz h ht k
 ·exact Ge hT h ht k
 ·split at h
  ·rename_i hx;cases h;exact Vn hx ht k
  ·cases h
 ·split at h
  ·rename_i hx
   split at h
   ·rename_i hs hd
    split at h
    ·rename_i hk;cases h;exact Wo hT hx hs hd hk ht k
    ·cases h
   ·cases h
  ·cases h
 ·split at h
  ·rename_i ti hti
   unfold H0 at h
   split at h
   ·rename_i hx
    split at h
    ·rename_i cs hb
     split at h
     ·rename_i ha;exact Y2 hT hx hti ha hb h ht k
     ·rename_i ha
      split at h
      ·rename_i h1 h2;cases h;exact Wm hT hx hti ha hb h1 h2 ht k
      ·cases h
    ·cases h
   ·rename_i hx
    split at h
    ·rename_i ha
     split at h
     ·rename_i he;exact YS hT hx hti ha he h ht k
     ·cases h
    ·rename_i ha
     split at h
     ·rename_i h1 h2;cases h;exact YT hT hx hti ha h1 h2 ht k
     ·cases h
   ·cases h
  ·cases h
 ·split at h
  ·rename_i fd hfd
   obtain⟨ti,fs,h1,h2,h3,h4⟩:=O2 hfd
   split at h
   ·rename_i hx
    split at h
    ·rename_i ho;cases h;exact Z7 hT hx h1 h2 h3 h4 (KJ ho) ht k
    ·cases h
   ·rename_i hx
    split at h
    ·rename_i ho;cases h;exact Ya hT hx h1 h2 h3 h4 (KJ ho) ht k
    ·cases h
   ·cases h
  ·cases h
 ·split at h
  ·rename_i hx;cases h;exact Yg hx ht k
  ·rename_i hx;cases h;exact Yf hx ht k
  ·cases h
 ·split at h
  ·rename_i hx;exact YA hx h ht k
  ·cases h
 ·split at h
  ·rename_i fd hfd
   obtain⟨ti,fs,h1,h2,h3,h4⟩:=O2 hfd
   split at h
   ·rename_i ti' hti'
    split at h
    ·rename_i ha
     split at h
     ·rename_i hx;exact YU hT hx h1 h2 h3 h4 hti' ha h ht k
     ·cases h
    ·cases h
   ·cases h
  ·cases h
 ·split at h
  ·rename_i ti hti
   split at h
   ·rename_i fs hk
    split at h
    ·rename_i cs hb
     split at h
     ·rename_i hn;cases h;exact Wn hT hti hk rfl hb hn ht k
     ·cases h
    ·cases h
   ·cases h
  ·cases h
 ·split at h
  ·rename_i hds;cases h;exact Ym hds ht k
  ·cases h
 ·cases h
theorem KK [Known][Dfr](hT:chk P T=true){o:Oper}{r:Rs}(h:O1 T n tm bx o=some r)
  (k:AL P ops rest ⟨n,r.1,r.2,fr,ee⟩ Q):AL P ops (o::rest) ⟨n,tm,bx,fr,ee⟩ Q:=by
 unfold O1 at h
 split at h
 ·split at h
  ·rename_i hx
   split at h
   ·rename_i h1 h2 h3 h4;cases h;exact WN hx h1 h2 h3 h4 k
   ·cases h
  ·cases h
 ·split at h
  ·rename_i hti
   split at h
   ·rename_i h2 h3 h4;cases h;exact YV hT hti h2 h3 h4 k
   ·cases h
  ·cases h
 ·split at h
  ·rename_i hx hy hti
   split at h
   ·rename_i h1 h2 h3
    split at h
    ·rename_i h4 h5;cases h;exact Wc hT hx hy h1 hti h2 h3 h4 h5 k
    ·cases h
   ·cases h
  ·cases h
 ·split at h
  ·rename_i h1 h2;cases h;exact Gf hT h1 h2 k
  ·cases h
 ·cases h
theorem Km [Known][Dfr](hT:chk P T=true):∀(l:List Oper) (tm:List (Nat × D)) (bx:List (List D)) (l':List Oper) (r:Rs),Gd T n l tm bx=(l',r)->AL P ops l' ⟨n,r.1,r.2,fr,ee⟩ Q->AL P ops l ⟨n,tm,bx,fr,ee⟩ Q
 | [],tm,bx,l',r,h,k=>by unfold Gd at h;cases h;exact k
 | o::l,tm,bx,l',r,h,k=>by
  unfold Gd at h
  split at h
  ·rename_i tm' bx' hs
   exact KK hT hs (Km hT l tm' bx' l' r h k)
  ·cases h;exact k
theorem YL [Known][Dfr](hT:chk P T=true):∀(f:Nat) (p:Pos) (ks:List Fm) (tm:List (Nat × D)) (bx:List (List D)) (o:Pos × List Fm × Rs),goG T n f p ks tm bx=some o->J P n fr ee Q o->J P n fr ee Q (p,ks,tm,bx)
 | 0,p,ks,tm,bx,o,h,k=>by unfold goG at h;cases h;exact k
 | f+1,.aw c,ks,tm,bx,o,h,k=>by
  unfold goG at h
  rw[Vs]
  show AW P c ⟨n,tm,bx,fr,ee⟩ (unK P Q ks)
  split at h
  ·exact Wb (by have:=YL hT f _ _ _ _ _ h k;rwa [Vs]at this)
  ·exact Wh (by have:=YL hT f _ _ _ _ _ h k;rwa [Vs]at this)
  ·exact Wz (by have:=YL hT f _ _ _ _ _ h k;rwa [Vs]at this)
  ·exact Wa (by have:=YL hT f _ _ _ _ _ h k;rwa [Vs]at this)
  ·exact WU (by have:=YL hT f _ _ _ _ _ h k;rwa [Vs]at this)
  ·exact WV (by have:=YL hT f _ _ _ _ _ h k;rwa [Vs]at this)
  ·exact Vk (by have:=YL hT f _ _ _ _ _ h k;rwa [Vs]at this)
  ·rename_i id ops
   have:=YL hT f _ _ _ _ _ h k;rw[Vs]at this
   exact Yy (l:=ops.toList) (by simpa using this)
  ·exact YW (by have:=YL hT f _ _ _ _ _ h k;rwa [Vs]at this)
  ·exact YX (by have:=YL hT f _ _ _ _ _ h k;rwa [Vs]at this)
  ·cases h;rwa [Vs]at k
 | f+1,.al ops l,ks,tm,bx,o,h,k=>by
  unfold goG at h
  rw[Vs]
  show AL P ops l ⟨n,tm,bx,fr,ee⟩ (unK P Q ks)
  split at h
  ·rename_i tm' bx' hr
   exact Km hT _ _ _ _ _ hr (W6 (by have:=YL hT f _ _ _ _ _ h k;rwa [Vs]at this))
  ·rename_i o l' tm' bx' hr
   cases h;rw[Vs]at k;exact Km hT _ _ _ _ _ hr k
 | f+1,.x x,ks,tm,bx,o,h,k=>by
  unfold goG at h
  rw[Vs]
  show unK P Q ks x ⟨n,tm,bx,fr,ee⟩
  split at h
  ·cases h;rwa [Vs]at k
  ·split at h
   ·split at h
    ·have:=YL hT f _ _ _ _ _ h k;rwa [Vs]at this
    ·have:=YL hT f _ _ _ _ _ h k;rwa [Vs]at this
   ·split at h
    ·split at h
     ·rename_i i _ id hb
      have:=YL hT f _ _ _ _ _ h k;rw[Vs]at this
      obtain rfl:=Nat.eq_of_beq_eq_true hb
      exact Wk this
     ·rename_i i _ id hb
      exact WW hb (by have:=YL hT f _ _ _ _ _ h k;rwa [Vs]at this)
    ·exact YQ (by have:=YL hT f _ _ _ _ _ h k;rwa [Vs]at this)
   ·rename_i k0 _ _ _
    cases k0 with
    | seq y=>exact YR (by have:=YL hT f _ _ _ _ _ h k;rwa [Vs]at this)
    | blk id=>exact Wl (by have:=YL hT f _ _ _ _ _ h k;rwa [Vs]at this)
   ·rename_i k0 _ _
    cases k0 with
    | seq y=>exact Yu (by have:=YL hT f _ _ _ _ _ h k;rwa [Vs]at this)
    | blk id=>exact WX (by have:=YL hT f _ _ _ _ _ h k;rwa [Vs]at this)
   ·rename_i k0 _ _ _
    cases k0 with
    | seq y=>exact Wj (by have:=YL hT f _ _ _ _ _ h k;rwa [Vs]at this)
    | blk id=>exact WY (by have:=YL hT f _ _ _ _ _ h k;rwa [Vs]at this)
theorem Zj [Known][Dfr](hT:chk P T=true){c:Code}{o:Pos × List Fm × Rs}(h:goA T n c tm bx=some o)(k:J P n fr ee Q o):AW P c ⟨n,tm,bx,fr,ee⟩ Q:=by
 unfold goA at h
 split at h<;>first|cases h;done|skip
 all_goals exact YL hT _ _ _ _ _ _ h k
theorem Zl [Known][Dfr](hT:chk P T=true){o:Pos × List Fm × Rs}(h:goL T n ops rest tm bx=some o)(k:J P n fr ee Q o):AL P ops rest ⟨n,tm,bx,fr,ee⟩ Q:=by
 unfold goL at h
 split at h
 ·cases h;exact W6 k
 ·split at h
  ·rename_i tm' bx' hs
   exact KK hT hs (YL hT _ _ _ _ _ _ h k)
  ·cases h
theorem Zt [Known][Dfr](hT:chk P T=true){x:X}{ks:List Fm}{o:Pos × List Fm × Rs}(h:goK T n x ks tm bx=some o)(k:J P n fr ee Q o):unK P Q ks x ⟨n,tm,bx,fr,ee⟩:=by
 unfold goK at h
 split at h
 ·cases h
 ·have:=YL hT _ _ _ _ _ _ h k;rwa [Vs]at this
end
def Tg (T:Tab)(tm:List (Nat × D))(bx:List (List D)):ResultVar->Option D
 | .tmp t=>nf (look tm t)
 | .cell a t=>match look tm a,tl T t with
  | .ptr b o,some ti=>match bx[b]? with
   | some cs=>match ti.kd.agg with
    | false=>match cs[o]? with
     | some d=>nf d
     | none=>none
    | true=>match Nat.ble (o+ti.size) cs.length,nfs ((cs.drop o).take ti.size) with
     | true,some cs'=>some (.agg cs')
     | _,_=>none
   | none=>none
  | _,_=>none
def Hm (T:Tab)(tm:List (Nat × D))(bx:List (List D)):List ResultVar->Option (List D)
 | []=>some []
 | r::rs=>match Tg T tm bx r,Hm T tm bx rs with
  | some d,some ds=>some (d::ds)
  | _,_=>none
theorem Zd {P:Program}{T:Tab}(hT:chk P T=true){n:Nat}{ee:Nat × Nat}{tm:List (Nat × D)}{bx:List (List D)}{fr:List Fr}:∀ {rs:List ResultVar} {ds:List D},Hm T tm bx rs=some ds->ResL P ⟨n,tm,bx,fr,ee⟩ rs ds
 | [],ds,h=>by unfold Hm at h;cases h;exact .nil
 | r::rs,ds,h=>by
  unfold Hm at h
  split at h
  ·rename_i d ds' h1 h2
   cases h
   refine .cons _ _ _ _ ?_ (Zd hT h2)
   cases r with
   | tmp t=>
    unfold Tg at h1
    exact .tmp _ _ (YZ h1)
   | cell a t=>
    simp only[Tg]at h1
    split at h1
    ·rename_i b o ti ha hti
     split at h1
     ·rename_i cs hb
      split at h1
      ·rename_i hag
       split at h1
       ·rename_i d' hd
        have hd':=YZ h1
        subst hd'
        exact .cell1 a t b o cs _ ha (by rw[(Z9 hT hti).tAgg,hag]) hb hd
       ·cases h1
      ·rename_i hag
       split at h1
       ·rename_i h3 h4
        cases h1
        exact .celln a t b o ti.size cs _ ha (by rw[(Z9 hT hti).tAgg,hag]) (Z9 hT hti).tSize hb h3 (by rw[Vl h4])
       ·cases h1
     ·cases h1
    ·cases h1
  ·cases h
end Go.Av
end
