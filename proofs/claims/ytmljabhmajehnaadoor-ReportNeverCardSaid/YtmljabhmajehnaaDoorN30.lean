/- Package bundle: the payload; the law's fixed calls. -/
import Derived.Test.YtmljabhmajehnaaDoorN29
import Derived.Test.YtmljabhmajehnaaDoorN28
import Derived.Test.YtmljabhmajehnaaDoorN09
import Derived.Test.YtmljabhmajehnaaDoorN19
import Derived.Test.YtmljabhmajehnaaDoorN16
set_option linter.unusedVariables false
set_option linter.unusedSimpArgs false
section
open Go.RowKit Go.Pl Go.Av
namespace Go.Proofs.YtmljabhmajehnaaDoor
set_option maxHeartbeats 4000000
def Kj (b:BunV):List UInt8:=match b.bl[b.bl.length-1]? with
 | some c=>c.data
 | none=>[]
theorem Mj [Known](b:BunV)(hb:BunOk b):AP Tryd.prog 13 [.agg (bnC b)] (byE (Kj b)) []:=by
 have hlen:=Qs b.bl
 have hU:=GF b.bl
 unfold Kj
 obtain⟨_,hl,hbl⟩:=hb
 cases hlast:b.bl[b.bl.length-1]? with
 | none=>
  have h0:b.bl.length=0:=by have:=List.getElem?_eq_none_iff.1 hlast;omega
  have t1:(((YJ b.bl).length:Int)==0)=true:=by rw[hlen,h0];rfl
  obtain⟨⟨fl,sum,⟨di,dn,ds,dh,dd⟩,⟨ri,rn,rs,rh,rd⟩,⟨xi,xn,xs,xh,xd⟩,t,q,life⟩,bl⟩:=b
  try dsimp only at *
  refine AP.ofA (Zl Tryd.func13 Z Tryd.ntmps13 Z Z ?_)
  repeat'(first|(apply Zg Za;exact Z)|(apply Zf Za;exact Z)|(apply Zs Za;exact Z)|refine Zd Z Qt ?_|refine Zn Za Z Z Z Z ?_)
  all_goals exact Qe
 | some c=>
 have hlt:=(List.getElem?_eq_some_iff.1 hlast).1
 have hv:=UE hlast
 rw[show((b.bl.length-1:Nat):Int)=(b.bl.length:Int)-1 from by omega]at hv
 have t1:(((YJ b.bl).length:Int)==0)=false:=by rw[hlen];exact beq_eq_false_iff_ne.2 (by omega)
 have en:IntKind.i64.wrap (((YJ b.bl).length:Int)-1)=(b.bl.length:Int)-1:=by rw[IntWalk.i64_in _ (by omega)];omega
 have i0:(0:Int)<=(b.bl.length:Int)-1:=by omega
 have hC:=Uy c.data (by have:=(hbl c (List.mem_of_getElem? hlast)).2;omega)
 obtain⟨⟨fl,sum,⟨di,dn,ds,dh,dd⟩,⟨ri,rn,rs,rh,rd⟩,⟨xi,xn,xs,xh,xd⟩,t,q,life⟩,bl⟩:=b
 try dsimp only at *
 refine AP.ofA (Zl Tryd.func13 Z Tryd.ntmps13 Z Z ?_)
 repeat'(first|rw[en]|(apply Zb (hC);kernel_rfl;(iterate 4 exact Z))|(apply Zg Za;exact Z)|(apply Zf Za;exact Z)|(apply Zs Za;exact Z)|refine Zh Z Qt ?_|refine Zn Za Z Z Z Z ?_|(apply Zx Za;(iterate 6 exact Z);(first|exact Qt|rotate_left);(first|with_reducible assumption|decide +kernel|exact Z);(first|exact Zj rfl|with_reducible assumption|decide +kernel|rotate_left)))
 all_goals exact Qe
theorem Mk:BunOk bn0:=⟨by decide,by decide,by decide⟩
abbrev zeC:List D:=[.int .u64 0,.int .i64 0,.bool false,.int .u64 0,.int .u64 0,.str [],.str [],.bool false,.int .u64 0,.int .u64 0,.str [],.str [],.bool false,.int .u64 0,.int .u64 0,.str [],.str [],.int .u64 0,.int .u64 0,.int .u64 0,.sl .ext []]
def Vw (b:List UInt8)(dest src:EidV)(t q life:Nat):BunV:=⟨⟨2,0,dest,Yl,src,t,q,life⟩,[⟨1,1,0,0,b⟩]⟩
def Vt (r:RepV)(dest src:EidV)(t q life:Nat):BunV × Int:=match(YH r).2 != 0 with
 | true=>(bn0,(YH r).2)
 | false=>match Wc (Vw (YH r).1 dest src t q life) with
  | false=>(bn0,3)
  | true=>(Vw (YH r).1 dest src t q life,0)
theorem O8 (r:RepV):(YH r).1.length<=200:=by
 unfold YH
 cases h:YG r with
 | false=>simp
 | true=>exact UC h
theorem Kk (b:List UInt8)(hb:b.length<=3000)(dest src:EidV)(t q life:Nat):BunOk (Vw b dest src t q life):=
 ⟨by show 2<_;decide,by show 1<=_;decide,fun c hc=>by
  rcases List.mem_cons.1 hc with rfl|hc
  ·exact⟨by show 0<_;decide,hb⟩
  ·cases hc⟩
theorem JZ [Known][KnownU8](r:RepV)(dest src:EidV)(t q life:Nat):AP Tryd.prog 5 [.agg (OY r),.agg (eC dest),.agg (iC src t q),.int .u64 (life:Int)] (bnR (Vt r dest src t q life)) []:=by
 have hW:=UD r
 have hl:=O8 r
 unfold Vt
 generalize YH r=w at *
 obtain⟨wb,we⟩:=w
 dsimp only at *
 have hRt:=JY (Vw wb dest src t q life) (Kk wb (by omega) dest src t q life)
 have hUb:=YK (wb)
 cases tw:(we != 0) with
 | true=>
  obtain⟨a,b,c,rs,tm,⟨i,n,s,h,d⟩,rt,rq⟩:=r
  obtain⟨di,dn,ds,dh,dd⟩:=dest
  obtain⟨xi,xn,xs,xh,xd⟩:=src
  dsimp only at *
  refine AP.ofA (Zl Tryd.func5 Z Tryd.ntmps5 Z Z ?_)
  repeat'(first|(apply Zb (hW);kernel_rfl;(iterate 4 exact Z))|(apply Zg Za;exact Z)|(apply Zf Za;exact Z)|(apply Zs Za;exact Z)|(apply Zd;exact Z;(first|with_reducible assumption|decide +kernel|(solve|simp only[bn]))))
  all_goals exact Qe
 | false=>
  have we0:we=0:=by simpa using tw
  subst we0
  generalize hrt:Wc (Vw wb dest src t q life)=R at *
  obtain⟨a,b,c,rs,tm,⟨i,n,s,h,d⟩,rt,rq⟩:=r
  obtain⟨di,dn,ds,dh,dd⟩:=dest
  obtain⟨xi,xn,xs,xh,xd⟩:=src
  dsimp only at *
  replace hRt:AP Tryd.prog 9 [.agg [.int .u64 2,.int .i64 0,.bool di,.int .u64 (dn:Int),.int .u64 (ds:Int),.str dh,.str dd,.bool false,.int .u64 0,.int .u64 0,.str [],.str [],.bool xi,.int .u64 (xn:Int),.int .u64 (xs:Int),.str xh,.str xd,.int .u64 (t:Int),.int .u64 (q:Int),.int .u64 (life:Int),.sl .ext [.agg [.int .u64 1,.int .u64 1,.int .u64 0,.int .i64 0,.sl (wb.map E.byte)]]]] (.bool R) []:=hRt
  cases R with
  | false=>
   refine AP.ofA (Zl Tryd.func5 Z Tryd.ntmps5 Z Z ?_)
   repeat'(first|(apply Zb (hW);kernel_rfl;(iterate 4 exact Z))|(apply Zb (hRt);kernel_rfl;(iterate 4 exact Z))|(apply Zg Za;exact Z)|(apply Zf Za;exact Z)|(apply Zs Za;exact Z)|(apply Zd;exact Z;(first|with_reducible assumption|decide +kernel|(solve|simp only[bn])))|(apply Zh;exact Z;(first|with_reducible assumption|decide +kernel|(solve|simp only[bn])))|refine ZX Za Z Z Z Z Z Z Z Z Z Z Z Z ?_)
   all_goals exact Qe
  | true=>
   refine AP.ofA (Zl Tryd.func5 Z Tryd.ntmps5 Z Z ?_)
   repeat'(first|(apply Zb (hW);kernel_rfl;(iterate 4 exact Z))|(apply Zb (hRt);kernel_rfl;(iterate 4 exact Z))|(apply Zg Za;exact Z)|(apply Zf Za;exact Z)|(apply Zs Za;exact Z)|(apply Zh;exact Z;(first|with_reducible assumption|decide +kernel|(solve|simp only[bn])))|refine ZX Za Z Z Z Z Z Z Z Z Z Z Z Z ?_)
   all_goals exact Qe
def ofR (b:BunV):RepV × Int:=match bits .and .u64 (b.p.fl:Int) 2==0 with
 | true=>(rp0,4)
 | false=>match Wc b with
  | false=>(rp0,3)
  | true=>V3 (Kj b)
theorem Nc {b:BunV}(hb:BunOk b):(Kj b).length<=3000:=by
 unfold Kj
 cases h:b.bl[b.bl.length-1]? with
 | none=>simp
 | some c=>exact(hb.bl c (List.mem_of_getElem? h)).2
theorem J0 [Known][KnownU8](b:BunV)(hb:BunOk b):AP Tryd.prog 8 [.agg (bnC b)] (.tup [.agg (OY (ofR b).1),.int .i64 (ofR b).2]) []:=by
 have hRt:=JY b hb
 have hP:=Mj b hb
 have hRd:=Ol (Kj b) (Nc hb)
 unfold ofR
 generalize hrt:Wc b=R at *
 generalize Kj b=pl at *
 generalize V3 pl=rr at *
 obtain⟨⟨ra,rb,rc,rs,rtm,⟨ri,rn,rs2,rh,rd⟩,rt,rq⟩,re⟩:=rr
 have hUb:=GF b.bl
 obtain⟨⟨fl,sum,⟨di,dn,ds,dh,dd⟩,⟨pi,pn,ps,ph,pd⟩,⟨xi,xn,xs,xh,xd⟩,t,q,life⟩,bl⟩:=b
 dsimp only at *
 cases t1:(bits .and .u64 (fl:Int) 2==0)<;>cases R
 all_goals
  refine AP.ofA (Zl Tryd.func8 Z Tryd.ntmps8 Z Z ?_)
  repeat'(first|(apply Zb (hRt);kernel_rfl;(iterate 4 exact Z))|(apply Zb (hP);kernel_rfl;(iterate 4 exact Z))|(apply Zb (hRd);kernel_rfl;(iterate 4 exact Z))|(apply Zg Za;exact Z)|(apply Zf Za;exact Z)|(apply Zs Za;exact Z)|(apply Zd;exact Z;(first|with_reducible assumption|decide +kernel|(solve|simp only[bn])))|(apply Zh;exact Z;(first|with_reducible assumption|decide +kernel|(solve|simp only[bn]))))
  all_goals exact Qe
theorem QN (b:Bool):((nb b:Int)==1)=b:=by cases b<;>rfl
theorem V5 {r:RepV}(h:YG r=true):YH r=(ZG (Yj r),0):=by
 unfold YH
 rw[h]
theorem XQ {r:RepV}(h:YG r=false):YH r=([],3):=by
 unfold YH
 rw[h]
theorem UO {r:RepV}(h:YG r=true):V3 (ZG (Yj r))=(r,0):=by
 obtain⟨h1,h2,h3⟩:=VQ h
 have hi:=Q8 h3
 have hrep:W4 (.mk 0 (nb r.a) [] []) (.mk 0 (nb r.b) [] []) (.mk 0 (nb r.c) [] []) (.mk 0 r.rs [] []) (.mk 0 r.tm [] []) (YD r.of r.t r.q)=r:=by
  unfold W4
  rw[hi]
  dsimp only[It.n]
  rw[QN,QN,QN]
 unfold V3
 rw[O1 (Qr h) (Vs h)]
 dsimp only
 rw[show(((0:Nat):Int) != 0)=false from rfl]
 dsimp only
 unfold Jj
 show(match(Wg (YD r.of r.t r.q)).2.2.2 with
  | false=>(rp0,(3:Int))
  | true=>match(YH (W4 (.mk 0 (nb r.a) [] []) (.mk 0 (nb r.b) [] []) (.mk 0 (nb r.c) [] []) (.mk 0 r.rs [] []) (.mk 0 r.tm [] []) (YD r.of r.t r.q))).2 != 0 with
   | true=>(rp0,3)
   | false=>match(YH (W4 (.mk 0 (nb r.a) [] []) (.mk 0 (nb r.b) [] []) (.mk 0 (nb r.c) [] []) (.mk 0 r.rs [] []) (.mk 0 r.tm [] []) (YD r.of r.t r.q))).1==ZG (Yj r) with
    | false=>(rp0,3)
    | true=>(W4 (.mk 0 (nb r.a) [] []) (.mk 0 (nb r.b) [] []) (.mk 0 (nb r.c) [] []) (.mk 0 r.rs [] []) (.mk 0 r.tm [] []) (YD r.of r.t r.q),0))=(r,0)
 rw[hrep,hi,V5 h]
 dsimp only
 rw[show((0:Int) != 0)=false from rfl]
 dsimp only
 rw[beq_self_eq_true]
theorem Nd {r:RepV}(h:YG r=true)(m:UInt8):V3 (ZG (Yj r)++[m])=(rp0,3):=by
 obtain⟨h1,h2,h3⟩:=VQ h
 have hi:=Q8 h3
 have hrep:W4 (.mk 0 (nb r.a) [] []) (.mk 0 (nb r.b) [] []) (.mk 0 (nb r.c) [] []) (.mk 0 r.rs [] []) (.mk 0 r.tm [] []) (YD r.of r.t r.q)=r:=by
  unfold W4
  rw[hi]
  dsimp only[It.n]
  rw[QN,QN,QN]
 unfold V3
 rw[XI (Qr h) (Vs h) [m]]
 dsimp only
 rw[show(((0:Nat):Int) != 0)=false from rfl]
 dsimp only
 unfold Jj
 show(match(Wg (YD r.of r.t r.q)).2.2.2 with
  | false=>(rp0,(3:Int))
  | true=>match(YH (W4 (.mk 0 (nb r.a) [] []) (.mk 0 (nb r.b) [] []) (.mk 0 (nb r.c) [] []) (.mk 0 r.rs [] []) (.mk 0 r.tm [] []) (YD r.of r.t r.q))).2 != 0 with
   | true=>(rp0,3)
   | false=>match(YH (W4 (.mk 0 (nb r.a) [] []) (.mk 0 (nb r.b) [] []) (.mk 0 (nb r.c) [] []) (.mk 0 r.rs [] []) (.mk 0 r.tm [] []) (YD r.of r.t r.q))).1==ZG (Yj r)++[m]with
    | false=>(rp0,3)
    | true=>(W4 (.mk 0 (nb r.a) [] []) (.mk 0 (nb r.b) [] []) (.mk 0 (nb r.c) [] []) (.mk 0 r.rs [] []) (.mk 0 r.tm [] []) (YD r.of r.t r.q),0))=(rp0,3)
 rw[hrep,hi,V5 h]
 dsimp only
 rw[show((0:Int) != 0)=false from rfl]
 dsimp only
 have hne:(ZG (Yj r)==ZG (Yj r)++[m])=false:=by
  refine beq_eq_false_iff_ne.2 fun e=>?_
  have:=congrArg List.length e
  rw[List.length_append]at this
  simp at this
 rw[hne]
theorem IS {b:BunV}(h:(bits .and .u64 (b.p.fl:Int) 2==0)=true):ofR b=(rp0,4):=by
 unfold ofR
 rw[h]
theorem Nf {r:RepV}(h:YG r=true)(m:UInt8)(dest src:EidV)(t q life:Nat):ofR (Vw (ZG (Yj r)++[m]) dest src t q life)=(rp0,3):=by
 have hp:Kj (Vw (ZG (Yj r)++[m]) dest src t q life)=ZG (Yj r)++[m]:=rfl
 have h2:(bits .and .u64 ((Vw (ZG (Yj r)++[m]) dest src t q life).p.fl:Int) 2==0)=false:=by
  show(bits .and .u64 ((2:Nat):Int) 2==0)=false
  kernel_rfl
 unfold ofR
 rw[h2]
 dsimp only
 cases Wc (Vw (ZG (Yj r)++[m]) dest src t q life) with
 | false=>rfl
 | true=>
  dsimp only
  rw[hp,Nd h]
theorem Ml (fl:Nat)(h:fl<18446744073709551616):bits .andNot .u64 (fl:Int) 2=((fl &&& 18446744073709551613:Nat):Int)/\(bits .and .u64 ((fl &&& 18446744073709551613:Nat):Int) 2==0)=true/\(fl &&& 18446744073709551613)<18446744073709551616:=by
 have hl:(fl &&& 18446744073709551613)<18446744073709551616:=Nat.and_lt_two_pow (n:=64) _ (by omega)
 have h1:=u64_andNot_nat fl 2 h (by omega)
 have h2:=u64_and_nat (fl &&& 18446744073709551613) 2 hl (by omega)
 refine⟨h1,?_,hl⟩
 rw[show((2:Int))=((2:Nat):Int) from rfl,h2,Nat.and_assoc,show(18446744073709551613 &&& 2:Nat)=0 from by decide,Nat.and_zero]
 rfl
end Go.Proofs.YtmljabhmajehnaaDoor
end
section
open Go.RowKit Go.Pl
namespace Go.Av
section
variable {P:Program} {Q:X->St->Prop} {n:Nat} {ee:Nat × Nat} {tm:List (Nat × D)} {bx bx':List (List D)} {fr fr':List Fr} {b0:Bs} {g:G} {w:World} {a:Act} {T:Tab}
variable {ops:Array Oper} {rest:List Oper} {t ty:Nat} {pos:String} {after:Array Edge}
theorem Ng {b o m c:Nat}{v:Value}(h:V w g fr (.bsl b o m c) v):∃ blk cap,g.ρ[b]?=some blk/\m<=cap/\cap<=maxLen/\v=.slice (some ⟨blk,o,none⟩) m cap/\(c=0\/c=cap):=by
 cases h;exact⟨_,_,‹_›,‹_›,‹_›,rfl,‹_›⟩
theorem Nh [Known][Dfr](hT:chk P T=true){x y:Operand}{st e:Nat}{k:IntKind}{i:Int}{b m c o2:Nat}{ti te:Ti}(hx:ev tm x=.bsl b 0 m c)(hy:ev tm y=.int k i)(ht:tl T st=some ti)(hk:ti.kd=.slice e)(hte:tl T e=some te)(htd:Nat.blt t n=true)
  (h0:0<=i) (hi2:i<(m:Int)) (ho:i.toNat*te.size=o2)
  (kk:AL P ops rest ⟨n,(t,.ptr b o2)::tm,bx,fr,ee⟩ Q):AL P ops (⟨some t,.indexAddr st x y,ty,pos,after,none⟩::rest) ⟨n,tm,bx,fr,ee⟩ Q:=
 ZR _ htd (fun g a w hi=>by
  have h1:V w g fr (ev tm x) (a.eval x):=hi.ev x
  rw[hx]at h1
  have h2:V w g fr (ev tm y) (a.eval y):=hi.ev y
  rw[hy]at h2
  have h2:=h2.int_inv
  obtain⟨blk,cap0,hb,_,_,hv,_⟩:=Ng h1
  have hu:=(ZM hT ht).slice hk
  have hsz:=Z6 (P:=P) (t:=e) (ZM hT hte).tSize w
  have hadd:(⟨blk,0,none⟩:Addr).add (i.toNat*te.size)=⟨blk,o2,none⟩:=by rw[Addr.add_mid,Nat.zero_add,ho]
  refine⟨.pointer (some ⟨blk,o2,none⟩),?_,.ptr _ _ _ hb⟩
  have hrun:(Instr.indexAt st (.slice (some ⟨blk,0,none⟩) m cap0) (.int k i)).run P w=.ok (.pointer (some ⟨blk,o2,none⟩)) w:=by
   simp[Instr.indexAt,asIntOf,Sem.run_bind,run_underlying hu,(⟨h0,hi2⟩:0<=i/\i<(m:Int)),hsz,hadd]
  simp[execOp,hv,h2,Sem.run_bind,hrun]) kk
theorem Mem.rowc [Known](hm:Mem g bx fr w){b blk z:Nat}{l:List E}(hb:g.ρ[b]?=some blk)(hx:bx[b]?=some [.row z l]):∃ vs ty,w.heap[blk]?=some (.cells vs ty (0,0))/\(z=0\/vs.size=z)/\l.length<=vs.size /\
  ∀(j:Nat) (e:E) (v:Value),l[j]?=some e->vs[j]?=some v->VE w g.C e v:=by
 obtain⟨vs,ty,h1,h2,h3⟩:=hm.bat b blk _ hb hx
 refine⟨vs,ty,h1,h2.2.2 z l rfl,by have:=h2.2.1;simpa[D.ex]using this,fun j e v he hv=>(h3 j _ v ?_ hv).offC⟩
 show(l.map D.ofC)[j]?=_
 rw[List.getElem?_map,he];rfl
theorem O9 [Known][Dfr]{o:Op}(h:∀ b0 g a w,Inv b0 ⟨n,tm,bx,fr,ee⟩ g a w->∃ v w' tm' bx' fr' g' d,(execOp a.eval ⟨some t,o,ty,pos,after,none⟩).run P w=.ok (.value v) w'/\Inv b0 ⟨n,tm',bx',fr',ee⟩ g' a w'/\V w' g' fr' d v/\AL P ops rest ⟨n,(t,d)::tm',bx',fr',ee⟩ Q)(htd:Nat.blt t n=true) :
  AL P ops (⟨some t,o,ty,pos,after,none⟩::rest) ⟨n,tm,bx,fr,ee⟩ Q:=⟨fun b0 g a w hi=>
 wpList_plain rfl fun K hK=>by
  obtain⟨v,w',tm',bx',fr',g',d,hr,hi2,hv,k⟩:=h b0 g a w hi
  unfold Oper.wp
  rw[hr]
  exact hK _ _ (k.run b0 g' _ w' (hi2.put htd hv))⟩
theorem Ia (z:Nat)(l:List E):D.ex [.row z l]=l.map .ofC:=rfl
theorem XR {z n:Nat}{l:List E}(h1:1<=n)(h2:l.length<=n)(h3:z=0\/n=z):D.fits [.row z l] n:=⟨h1,by rw[Ia,List.length_map];exact h2,fun z' l' e=>by injection e with e _;injection e with e e2;rw[<- e];exact h3⟩
theorem IT {l:List E}{j:Nat}{d:D}(h:(l.map D.ofC)[j]?=some d):∃ x,l[j]?=some x/\d=D.ofC x:=by
 rw[List.getElem?_map]at h
 cases hj:l[j]? with
 | none=>rw[hj]at h;cases h
 | some x=>rw[hj]at h;exact⟨x,rfl,by injection h with h;exact h.symm⟩
theorem On [Known][Dfr](hT:chk P T=true){x y:Operand}{st e m k2:Nat}{l':List E}{ti te:Ti}{bx2:List (List D)}(ht:tl T st=some ti)(hk:ti.kd=.slice e)(hte:tl T e=some te)(hx:emp (ev tm x)=true)(hy:Src bx te.size (ev tm y) l')
  (hpos:Nat.blt 0 te.size=true) (hU':Uni te.size l') (hne:l' ≠ []) (hk2:l'.length=k2) (hlen:l'.length<=maxLen) (hby:l'.length*te.bytes<=140737488355328)
  (hm:bx.length=m) (hbx:nfb (bx++[[.row 0 (flat l')]])=some bx2) (htd:Nat.blt t n=true)
  (k:AL P ops rest ⟨n,(t,.bsl m 0 k2 0)::tm,bx2,fr,ee⟩ Q):AL P ops (⟨some t,.call { callee:=.builtin .append,args := #[x,y],argTypes := #[st,st] },ty,pos,after,none⟩::rest) ⟨n,tm,bx,fr,ee⟩ Q:=
 O9 (fun b0 g a w hi=>by
  have h1:V w g fr (ev tm x) (a.eval x):=hi.ev x
  have h2:V w g fr (ev tm y) (a.eval y):=hi.ev y
  obtain⟨A0,hxv⟩:=Iq h1 hx
  obtain⟨ad,c,news,hyv,n1,n2,n3,n4⟩:=hy hi.mem h2 hU' hne
  have hpos':0<l'.length:=List.length_pos_iff.2 hne
  have hpos:0<te.size:=by simpa[Nat.blt_eq]using hpos
  have hu:=(ZM hT ht).slice hk
  obtain⟨ie,ue,z,i1,i2,i3,i4,i5,i6,i7⟩:=(ZM hT hte).out
  have hr:=VC (P:=P) A0 w st ty e ie z hu i1 i3 ad l'.length c news (by rw[<- i5];exact n1) n2 hpos' (by simp only[maxLen]at hlen;omega) (by rw[<- i6];omega)
  have hge:=grownCap_ge w l'.length 0 e
  have hcm:=grownCap_le_maxLen w l'.length 0 e hlen
  obtain⟨C2,hC2⟩:∃ C2,C2=grownCap w l'.length 0 e:=⟨_,rfl⟩
  rw[<- hC2]at hr hge hcm
  have hcurr:news.toArray++Builtin.zeroCells z.cells (C2-l'.length)=(news++(Builtin.zeroCells z.cells (C2-l'.length)).toList).toArray:=by simp
  rw[hcurr]at hr
  have hz:=(WX (w:=w) (g:=g) (fr:=fr) i7).1
  have hzc:z.cells.size=ie.size:=by
   rw[<- Array.length_toList,hz,<- i5]
   exact(XX hT hte).symm
  have hfl:=hU'.flat
  have hd:Mem g bx fr w.drew:=hi.mem.drew
  have hzl:(Builtin.zeroCells z.cells (C2-l'.length)).toList.length=(C2-l'.length)*te.size:=by rw[Array.length_toList,size_zeroCells,hzc,<- i5]
  have hmul:C2*te.size=l'.length*te.size+(C2-l'.length)*te.size:=by rw[<- Nat.add_mul];congr 1;omega
  obtain⟨k1,k2⟩:=hd.box0 (news++(Builtin.zeroCells z.cells (C2-l'.length)).toList) [.row 0 (flat l')] e (by
    rw[List.length_append,hzl,n1,<- hmul]
    exact XR (by have:1<=l'.length*te.size:=Nat.mul_pos hpos' hpos;omega) (by rw[hfl];omega) (.inl rfl)) (fun j d u hd hu=>by
   rw[Ia]at hd
   obtain⟨x2,hx2,rfl⟩:=IT hd
   have hj:=(List.getElem?_eq_some_iff.1 hx2).1
   rw[List.getElem?_append_left (by omega)]at hu
   exact V.ofC (n4 j x2 u hx2 hu).drew)
  have e1:=Wn hbx
  subst hm hk2
  rw[e1]at k2
  have hevo:=Evo.drew.trans k1
  refine⟨.slice (some ⟨w.heap.size,0,none⟩) l'.length C2,_,tm,bx2,fr,_,.bsl bx.length 0 l'.length 0,by simp only[execOp,resolve,invoke,builtin,Sem.run_bind,Sem.run_pure,Result.andThen_ok,List.map_toArray,List.map_cons,List.map_nil,hxv,hyv,hr],⟨hi.size,hi.defers,k2,fun t=>(hi.tm t).evo hevo,hi.evo.trans hevo,hi.bd⟩,.bsl _ 0 _ 0 w.heap.size C2 ?_ hge hcm (.inl rfl),k⟩
  have:=hi.mem.bl
  dsimp only at this
  show(g.ρ++[w.drew.heap.size])[bx.length]?=_
  rw[List.getElem?_append_right (by omega),this,Nat.sub_self]
  rfl) htd
def Kl (l:List E)(o:Nat)(es:List E):List E:=l.take o++(es++l.drop (o+es.length))
theorem GK [Known][Dfr](hT:chk P T=true){x y:Operand}{lt b o z:Nat}{l es l2:List E}{d:D}{ti:Ti}(hx:ev tm x=.ptr b o)(hy:nf (ev tm y)=some d)(hes:D.toEs d.cellsOf=some es)(ht:tl T lt=some ti)(hs:Nat.beq es.length ti.size=true)(hb:bx[b]?=some [.row z l])
  (hle:o+es.length<=l.length) (hl2:Kl l o es=l2) (hb':nfb (bx.set b [.row z l2])=some bx')
  (k:AL P ops rest ⟨n,tm,bx',fr,ee⟩ Q):AL P ops (⟨none,.store lt x y,ty,pos,after,none⟩::rest) ⟨n,tm,bx,fr,ee⟩ Q:=
 Il (fun g a w hi=>by
  have h1:V w g fr (ev tm x) (a.eval x):=hi.ev x
  rw[hx]at h1
  obtain⟨blk,h2,h3⟩:=Jd h1
  have hv:V w g fr (ev tm y) (a.eval y):=hi.ev y
  rw[Yz hy]at hv
  have hlen:=(U2 hes).1
  have ho:D.ones d.cellsOf=true:=by
   have:∀ {ds:List D} {es:List E},D.toEs ds=some es->D.ones ds=true:=by
    intro ds
    induction ds with
    | nil=>intros;rfl
    | cons d0 ds ih=>
     intro es h
     cases hd0:d0.toE1 with
     | none=>simp[D.toEs,hd0]at h
     | some e0=>
      cases hds:D.toEs ds with
      | none=>simp[D.toEs,hd0,hds]at h
      | some es0=>
       have:d0.one=true:=by cases d0<;>first|rfl|(simp[D.toE1]at hd0)
       simp only[D.ones,this]
       exact ih hds
   exact this hes
  obtain⟨vs,q2,q3,q4⟩:=hv.cells ho
  have hm:=hi.mem
  obtain⟨us,ut,r1,r2,r0,r3⟩:=hm.rowc h2 hb
  have hs':=Nat.eq_of_beq_eq_true hs
  have hvs1:∀ v ∈ vs,v.oneCell'=true:=fun v hv=>by
   obtain⟨j,hj⟩:=List.getElem?_of_mem hv
   have hlt:j<d.cellsOf.length:=by rw[<- q3];exact(List.getElem?_eq_some_iff.1 hj).1
   exact(q4 j _ v (List.getElem?_eq_getElem hlt) hj).one (VB ho (List.getElem?_eq_getElem hlt))
  have hrun:=run_storeCells_at (P:=P) blk o ut vs 0 us w r1 (by omega) hvs1
  have hag:=(ZM hT ht)
  obtain⟨w',hw'⟩:∃ w',w'=w.setRow blk (us.toList.take (o+0)++vs++us.toList.drop (o+0+vs.length)).toArray:=⟨_,rfl⟩
  have hheap:w'.heap[blk]?=some (.cells (us.toList.take (o+0)++vs++us.toList.drop (o+0+vs.length)).toArray ut (0,0)):=by
   rw[hw'];exact setRow_heap w blk us _ ut _ r1
  have hfar:∀ k,k ≠ blk->w'.heap[k]?=w.heap[k]? := fun k hk=>by
   rw[hw'];simp only[World.setRow,Array.getElem?_modify];rw[if_neg (fun e=>hk e.symm)]
  have hsize:w'.heap.size=w.heap.size:=by rw[hw'];simp[World.setRow]
  have hcell:∀ k p,g.C k p->w'.cell? ⟨k,p,none⟩=w.cell? ⟨k,p,none⟩:=fun k p hC=>World.cell?_of_block (w:=w) (hfar k fun e=>by
   subst e;exact hm.bC k p (List.mem_of_getElem? h2) hC)
  have hevo:Evo ⟨g,fr,w⟩ ⟨g,fr,w'⟩:=⟨by rw[hw'];rfl,by rw[hw'];rfl,by rw[hw'];rfl,by rw[hsize];exact Nat.le_refl _,fun k hk hn=>hfar k fun e=>hn (.inl (e ▸ List.mem_of_getElem? h2)),fun _ _ h=>h,hcell,fun _ _ h=>.inl h,fun _ _ h=>h,fun _ h=>.inl h,fun _ c h=>.inl ⟨c,h⟩,Wd.refl _ _⟩
  refine⟨w',g,?_,hevo,?_⟩
  ·rw[<- hw']at hrun
   have hsz:(sizeOf lt).run P w=.ok vs.length w:=Z6 (by rw[hag.tSize,q3,hlen,hs']) w
   simp[execOp,h3,Instr.storeAt,Instr.sureAddr,storeVar,Sem.run_bind,q2,hsz,hrun]
  ·rw[<- Wn hb']
   have hl2l:l2.length=l.length:=by rw[<- hl2];simp[Kl];omega
   constructor
   ·simp[hm.bl]
   ·intro i k cs' e1 e2
    by_cases hib:i=b
    ·subst hib
     rw[h2]at e1
     injection e1 with e1
     subst e1
     have hlt:i<bx.length:=(List.getElem?_eq_some_iff.1 hb).1
     rw[List.getElem?_set_self hlt]at e2
     injection e2 with e2
     subst e2
     obtain⟨us2,ut2,p1,p2,_⟩:=hm.bat i blk _ h2 hb
     rw[r1]at p1
     injection p1 with p1
     injection p1 with p1 p4
     subst p1 p4
     have hz1:1<=us.size:=p2.1
     have hsz2:(us.toList.take (o+0)++vs++us.toList.drop (o+0+vs.length)).toArray.size=us.size:=by simp;omega
     refine⟨_,ut,hheap,by rw[hsz2];exact XR (by omega) (by omega) r2,fun j c u hc hu=>?_⟩
     rw[Ia]at hc
     obtain⟨x2,hx2,rfl⟩:=IT hc
     ·have hu:(us.toList.take o++vs++us.toList.drop (o+vs.length))[j]?=some u:=by simpa using hu
      rw[<- hl2,Kl]at hx2
      rw[List.append_assoc]at hu
      have hvl:vs.length=es.length:=by rw[q3,hlen]
      rcases Nat.lt_or_ge j o with hjo|hjo
      ·rw[List.getElem?_append_left (by simp;omega),List.getElem?_take,if_pos hjo]at hx2 hu
       exact V.ofC ((r3 j x2 u hx2 (by simpa using hu)).mono hevo.C hevo.cell)
      ·rw[List.getElem?_append_right (by simp;omega)]at hx2 hu
       simp only[List.length_take,Nat.min_eq_left (show o<=l.length by omega)]at hx2
       simp only[List.length_take,Nat.min_eq_left (show o<=us.toList.length by simp;omega)]at hu
       rcases Nat.lt_or_ge (j-o) vs.length with hj2|hj2
       ·rw[List.getElem?_append_left (by omega)]at hx2
        rw[List.getElem?_append_left hj2]at hu
        obtain⟨d0,hd0,hd1⟩:=(U2 hes).2 _ x2 hx2
        exact V.ofC (((q4 (j-o) d0 u hd0 hu).toE1 hd1).mono hevo.C hevo.cell)
       ·rw[List.getElem?_append_right (by omega),List.getElem?_drop]at hx2
        rw[List.getElem?_append_right hj2,List.getElem?_drop]at hu
        rw[hvl]at hu
        exact V.ofC ((r3 _ x2 u hx2 (by simpa using hu)).mono hevo.C hevo.cell)
    ·rw[List.getElem?_set_ne (Ne.symm hib)]at e2
     obtain⟨us',ut',t1,t2,t3⟩:=hm.bat i k cs' e1 e2
     have hne:k ≠ blk:=fun e=>by
      subst e
      exact hib (hm.bN i b k e1 h2)
     exact⟨us',ut',(hfar k hne).trans t1,t2,fun j c u hc hu=>(t3 j c u hc hu).evo hevo⟩
   ·exact hm.bC
   ·exact hm.bN
   ·exact hm.tl
   ·intro i k c f e1 e2
    have hTk:=hm.tat i k c f e1 e2
    obtain⟨cur,s1,s2⟩:=hTk.row
    have hne:k ≠ blk:=fun e=>by
     subst e
     exact hm.tρ k c (List.mem_of_getElem? e1) (List.mem_of_getElem? h2)
    exact⟨⟨cur,(hfar k hne).trans s1,s2⟩,hTk.le,hTk.max,hTk.pos,hTk.far⟩
   ·exact hm.tN
   ·exact hm.tρ
   ·intro k p hC
    rw[hsize];exact hm.Clt k p hC
   ·exact hm.gl.evo hevo) k
end
end Go.Av
end
section
open Go.RowKit Go.Pl
namespace Go.Av
mutual
def Tf (l:List E):D->D
 | .bsl _ _ _ _=>.sl .ext l
 | .sl _ l'=>.sl .ext l'
 | .agg ds=>.agg (J1 l ds)
 | .bool b=>.bool b
 | .int k n=>.int k n
 | .str s=>.str s
 | .nilp=>.nilp
 | .eptr cs o=>.eptr cs o
 | .gptr k o=>.gptr k o
 | .nilf=>.nilf
 | .nili=>.nili
 | _=>.junk
def J1 (l:List E):List D->List D
 | []=>[]
 | d::ds=>Tf l d::J1 l ds
end
mutual
def LOk (b n:Nat):D->Prop
 | .bsl b' o n' _=>b'=b/\o=0/\n'=n
 | .agg ds=>Ib b n ds
 | _=>True
def Ib (b n:Nat):List D->Prop
 | []=>True
 | d::ds=>LOk b n d/\Ib b n ds
end
theorem GL {b n:Nat}{d:D}{ds:List D}(h:LOk b n d)(k:Ib b n ds):Ib b n (d::ds):=⟨h,k⟩
theorem Ni {b n:Nat}{ds:List D}(h:Ib b n ds):LOk b n (.agg ds):=h
theorem Nj (b n c:Nat):LOk b n (.bsl b 0 n c):=⟨rfl,rfl,rfl⟩
theorem V6 (l:List E)(ds:List D):J1 l ds=ds.map (Tf l):=by
 induction ds with
 | nil=>rfl
 | cons d ds ih=>simp[J1,ih]
theorem J2 {b n:Nat}:∀ {ds:List D} {j:Nat} {d:D},Ib b n ds->ds[j]?=some d->LOk b n d
 | [],j,d,_,h=>by simp at h
 | x::ds,0,d,h,hd=>by simp at hd;subst hd;exact h.1
 | x::ds,j+1,d,h,hd=>by simp at hd;exact J2 h.2 hd
def G.lent (g:G):G:=⟨fun k o=>g.C k o\/k ∈ g.ρ,[],[]⟩
section
variable {P:Program} {Q:X->St->Prop} {n:Nat} {ee:Nat × Nat} {tm:List (Nat × D)} {bx bx':List (List D)} {fr fr':List Fr} {b0:Bs} {g g':G} {w w':World} {a:Act} {T:Tab}
variable {ops:Array Oper} {rest:List Oper} {t ty:Nat} {pos:String} {after:Array Edge}
theorem Mem.lent [Known](hm:Mem g bx fr w):Mem g.lent [] [] w where
 bl:=rfl
 bat i blk cs h:=by simp[G.lent]at h
 bC blk o h:=by simp[G.lent]at h
 bN i j b h:=by simp[G.lent]at h
 tl:=rfl
 tat i blk cap f h:=by simp[G.lent]at h
 tN i j b c c' h:=by simp[G.lent]at h
 tρ b c h:=by simp[G.lent]at h
 Clt b o h:=h.elim (hm.Clt b o) fun h=>hm.lt (.inl h)
 gl:=⟨fun k cs hk j v hv=>⟨.inl (hm.gl.1 k cs hk j v hv).1,(hm.gl.1 k cs hk j v hv).2⟩,fun k t hk=>⟨.inl (hm.gl.2 k t hk).1,(hm.gl.2 k t hk).2⟩⟩
theorem V.lend [Known]{b m z:Nat}{l:List E}{d:D}{v:Value}(hm:Mem g bx fr w)(hb:bx[b]?=some [.row z (flat l)])(hl:l.length=m)(h:V w g fr d v)(ho:LOk b m d):V w g.lent [] (Tf l d) v:=by
 have hE:∀ {e v},VE w g.C e v->VE w g.lent.C e v:=fun hv=>hv.mono (fun _ _ h=>.inl h) fun _ _ _=>rfl
 induction h with
 | bool b=>exact .bool b
 | int k n=>exact .int k n
 | str s h=>exact .str s h
 | sl t l v h hk=>exact .sl .ext l v (hE h) trivial
 | nilp=>exact .nilp
 | ptr b o blk h=>exact .junk _
 | eptr cs o blk off us hc hw' hv=>exact .eptr cs o blk off us (fun j hj=>.inl (hc j hj)) hw' (fun j e he=>hE (hv j e he))
 | gptr k o=>exact .gptr k o
 | bsl b' o n c blk cap hr h1 h2 _=>
  obtain⟨rfl,rfl,rfl⟩:=ho
  obtain⟨vs,ut,r1,r2,r3,r4⟩:=hm.rowc hr hb
  subst hl
  refine .sl .ext l _ ?_ trivial
  refine .slC l blk 0 cap (fun j=>vs.toList.getD j undef) h1 h2 (fun j hj=>.inr (List.mem_of_getElem? hr)) (fun j hj=>?_) (fun j x hx=>?_)
  ·rw[Nat.zero_add,cell_of_row w blk j vs ut (0,0) r1]
   have:j<vs.size:=by omega
   simp[List.getD,this]
  ·have hj:=(List.getElem?_eq_some_iff.1 hx).1
   have hlt:j<vs.size:=by omega
   exact hE (r4 j x _ hx (by simp[List.getD,hlt]))
 | agg ds vs hl' _ ih=>
  refine .agg _ vs (by rw[V6];simpa using hl') fun j d v hd hv=>?_
  rw[V6,List.getElem?_map]at hd
  cases hj:ds[j]? with
  | none=>rw[hj]at hd;cases hd
  | some d0=>
   rw[hj]at hd
   injection hd with hd
   subst hd
   exact ih j d0 v hj hv (J2 ho hj)
 | tup l vs hl _ ih=>exact .junk _
 | fn f l vs hl _ ih=>exact .junk _
 | nilf=>exact .nilf
 | iface t d v _ ih=>exact .junk _
 | nili=>exact .nili
 | junk v=>exact .junk v
 | row z l v=>exact .junk v
mutual
def plD:D->D
 | .bool b=>.bool b
 | .int k n=>.int k n
 | .str s=>.str s
 | .nilp=>.nilp
 | .sl _ l=>match l with
  | []=>.sl .ext []
  | _::_=>.junk
 | .agg ds=>.agg (GM ds)
 | .tup ds=>.tup (GM ds)
 | .nilf=>.nilf
 | .nili=>.nili
 | _=>.junk
def GM:List D->List D
 | []=>[]
 | d::ds=>plD d::GM ds
end
theorem J3 (ds:List D):GM ds=ds.map plD:=by
 induction ds with
 | nil=>rfl
 | cons d ds ih=>simp[GM,ih]
theorem V.pl {d:D}{v:Value}(h:V w g fr d v)(g':G)(fr':List Fr):V w g' fr' (plD d) v:=by
 have key:∀ {ds:List D} {vs:List Value},(∀(j:Nat) (d:D) (v:Value),ds[j]?=some d->vs[j]?=some v->V w g' fr' (plD d) v)->∀(j:Nat) (d:D) (v:Value),(GM ds)[j]?=some d->vs[j]?=some v->V w g' fr' d v:=by
  intro ds vs h j d v hd hv
  rw[J3,List.getElem?_map]at hd
  cases hj:ds[j]? with
  | none=>rw[hj]at hd;cases hd
  | some d0=>
   rw[hj]at hd
   injection hd with hd
   subst hd
   exact h j d0 v hj hv
 induction h with
 | bool b=>exact .bool b
 | int k n=>exact .int k n
 | str s h=>exact .str s h
 | sl t l v h hk=>
  cases l with
  | cons x l=>exact .junk _
  | nil=>
   refine .sl .ext [] v ?_ trivial
   generalize hq:E.sl []=q at h
   cases h with
   | slE A cap h=>exact .slE A cap h
   | slC l' g off cap us h1 h2 hc hw hv=>
    injection hq with hq;subst hq
    exact .slE _ _ h2
   | _=>cases hq
 | nilp=>exact .nilp
 | ptr b o blk h=>exact .junk _
 | eptr cs o blk off us hc hw' hv=>exact .junk _
 | gptr k o=>exact .junk _
 | bsl b o n c blk cap hb h1 h2 _=>exact .junk _
 | agg ds vs hl' _ ih=>exact .agg _ vs (by rw[J3];simpa using hl') (key ih)
 | tup ds vs hl' _ ih=>exact .tup _ vs (by rw[J3];simpa using hl') (key ih)
 | fn f l vs hl _ ih=>exact .junk _
 | nilf=>exact .nilf
 | iface t d v _ ih=>exact .junk _
 | nili=>exact .nili
 | junk v=>exact .junk v
 | row z l v=>exact .junk v
theorem Mem.lentBack [Known](hm:Mem g bx fr w)(he:Evo ⟨g.lent,[],w⟩ ⟨g',fr',w'⟩)(hm':Mem g' bx' fr' w') :
  Evo ⟨g,fr,w⟩ ⟨⟨fun k o=>g'.C k o/\k ∉ g.ρ,g.ρ,g.τ⟩,fr,w'⟩/\Mem ⟨fun k o=>g'.C k o/\k ∉ g.ρ,g.ρ,g.τ⟩ bx fr w':=by
 have hnM:∀ k,¬ M g.lent k:=fun k h=>by
  rcases h with h|⟨c,h⟩
  ·simp[G.lent]at h
  ·simp[G.lent]at h
 have hblk:∀ k,k<w.heap.size->w'.heap[k]?=w.heap[k]? := fun k hk=>he.block k hk (hnM k)
 have hcell:∀ k o,g.C k o->w'.cell? ⟨k,o,none⟩=w.cell? ⟨k,o,none⟩:=fun k o h=>he.cell k o (.inl h)
 have hevo:Evo ⟨g,fr,w⟩ ⟨⟨fun k o=>g'.C k o/\k ∉ g.ρ,g.ρ,g.τ⟩,fr,w'⟩:=by
  refine⟨he.os,he.tape,he.output,he.size,fun k hk _=>hblk k hk,fun k o h=>⟨he.C k o (.inl h),fun hk=>hm.bC k o hk h⟩,hcell,fun k o h=>?_,fun _ _ h=>h,fun _ h=>.inl h,fun k c h=>.inl ⟨c,h⟩,Wd.refl _ _⟩
  rcases he.newC k o h.1 with h1|h1|h1
  ·exact h1.elim .inl fun h2=>(h.2 h2).elim
  ·exact .inr (.inl h1)
  ·exact(hnM k h1).elim
 refine⟨hevo,⟨hm.bl,fun i blk cs h1 h2=>?_,fun k o hk h=>h.2 hk,hm.bN,hm.tl,fun i k c f h1 h2=>?_,hm.tN,hm.tρ,fun k o h=>hm'.Clt k o h.1,hm.gl.evo hevo⟩⟩
 ·obtain⟨us,ty,k1,k2,k3⟩:=hm.bat i blk cs h1 h2
  exact⟨us,ty,(hblk blk (Array.getElem?_eq_some_iff.1 k1).1).trans k1,k2,fun j d v hd hv=>(k3 j d v hd hv).evo hevo⟩
 ·have hT:=hm.tat i k c f h1 h2
  obtain⟨cur,r1,r2⟩:=hT.row
  have hlt:=(Array.getElem?_eq_some_iff.1 r1).1
  refine⟨⟨cur,(hblk k hlt).trans r1,r2⟩,hT.le,hT.max,hT.pos,fun o ho h=>?_⟩
  rcases he.newC k o h.1 with h3|h3|h3
  ·exact h3.elim (hT.far o ho) fun h4=>h.2 h4
  ·exact absurd hlt (Nat.not_lt.2 h3)
  ·exact hnM k h3
theorem Tg [Known][Dfr]{f:FuncId}{ars:Array Operand}{ats:Array TypeId}{cds:List D}{d d':D}{b m z:Nat}{l:List E}(hAC:AP P f cds d [])(hf:UR P f=true)
  (hb:bx[b]?=some [.row z (flat l)]) (ho:Ib b m (ars.toList.map (ev tm))) (hc:J1 l (ars.toList.map (ev tm))=cds) (htd:Nat.blt t n=true) (hd:nf (plD d)=some d') (hl:l.length=m)
  (k:AL P ops rest ⟨n,(t,d')::tm,bx,fr,ee⟩ Q):AL P ops (⟨some t,.call { callee:=.value (.func f),args:=ars,argTypes:=ats },ty,pos,after,none⟩::rest) ⟨n,tm,bx,fr,ee⟩ Q:=by
 refine⟨fun b0 g a w hi=>?_⟩
 refine wpList_plain rfl fun K hK=>?_
 have hrun:(execOp a.eval ⟨some t,.call { callee:=.value (.func f),args:=ars,argTypes:=ats },ty,pos,after,none⟩).run P w=.ok (.enter f (ars.toList.map a.eval).toArray) w:=by
  have e:ars.map a.eval=(ars.toList.map a.eval).toArray:=by rw[<- Array.toList_map,Array.toArray_toList]
  have hz:=WP hf (ars.toList.map a.eval).toArray w
  rw[<- e]at hz ⊢
  simpa[execOp,resolve,Act.eval,Deferred.ofValue,invoke,Sem.run_bind]using hz
 unfold Oper.wp
 rw[hrun]
 have hm:=hi.mem
 have hcall:=hAC.run g.lent w (ars.toList.map a.eval) hm.lent (by rw[<- hc,V6];simp) (fun j d v hd hv=>by
  rw[<- hc,V6,List.getElem?_map]at hd
  cases hj:(ars.toList.map (ev tm))[j]? with
  | none=>simp only[hj,Option.map_none]at hd;cases hd
  | some d0=>
   simp only[hj,Option.map_some,Option.some.injEq]at hd
   subst hd
   exact(evs hi ars j d0 v hj hv).lend hm hb hl (J2 ho hj))
 refine hcall.mono fun e w' ⟨g',bx',fr',r,he,hm',hr,h1,h2,h3⟩=>?_
 subst h1
 obtain⟨q1,q2⟩:=hm.lentBack he hm'
 obtain⟨v,rfl,hv⟩:=hr
 rw[<- Yz hd]at k
 have hi2:Inv b0 ⟨n,tm,bx,fr,ee⟩ ⟨fun k o=>g'.C k o/\k ∉ g.ρ,g.ρ,g.τ⟩ a w':=⟨hi.size,hi.defers,q2,fun t=>(hi.tm t).evo q1,hi.evo.trans q1,hi.bd⟩
 exact hK _ _ (k.run b0 _ _ w' (hi2.put htd (hv.pl _ _)))
end
section
variable {P:Program} {Q:X->St->Prop} {n:Nat} {ee:Nat × Nat} {tm:List (Nat × D)} {bx:List (List D)} {fr:List Fr} {ops:Array Oper} {rest:List Oper} {ty:Nat} {pos:String} {after:Array Edge} {f:FuncId} {ars:Array Operand} {ats:Array TypeId}
end
end Go.Av
end
section
open Go.RowKit Go.Pl
namespace Go.Av
mutual
def stD (b:Nat)(l:List E):D->D
 | .bsl b' o n c=>match Nat.blt b' b with
  | true=>.bsl b' o n c
  | false=>match Nat.beq b' b with
   | true=>.sl .ext l
   | false=>.junk
 | .ptr b' o=>match Nat.blt b' b with
  | true=>.ptr b' o
  | false=>.junk
 | .sl t l'=>.sl t l'
 | .agg ds=>.agg (Nk b l ds)
 | .tup ds=>.tup (Nk b l ds)
 | .fn f ds=>.fn f (Nk b l ds)
 | .iface t d=>.iface t (stD b l d)
 | .bool b=>.bool b
 | .int k n=>.int k n
 | .str s=>.str s
 | .nilp=>.nilp
 | .eptr cs o=>.eptr cs o
 | .gptr k o=>.gptr k o
 | .nilf=>.nilf
 | .nili=>.nili
 | .junk=>.junk
 | .row z l=>.row z l
def Nk (b:Nat)(l:List E):List D->List D
 | []=>[]
 | d::ds=>stD b l d::Nk b l ds
end
mutual
def SOk (b n:Nat):D->Prop
 | .bsl b' o n' _=>Nat.blt b' b=true\/Nat.blt b b'=true\/(b'=b/\o=0/\n'=n)
 | .agg ds=>Nl b n ds
 | .tup ds=>Nl b n ds
 | .fn _ ds=>Nl b n ds
 | .iface _ d=>SOk b n d
 | _=>True
def Nl (b n:Nat):List D->Prop
 | []=>True
 | d::ds=>SOk b n d/\Nl b n ds
end
section
variable {P:Program} {Q:X->St->Prop} {n:Nat} {ee:Nat × Nat} {tm:List (Nat × D)} {bx bx':List (List D)} {fr fr':List Fr} {b0:Bs} {g g':G} {w w':World} {a:Act} {T:Tab}
variable {ops:Array Oper} {rest:List Oper} {t ty:Nat} {pos:String} {after:Array Edge}
theorem Mm [Known][Dfr](hT:chk P T=true){st e:Nat}{ti te:Ti}{parts:Array (Nat × Operand)}(ht:tl T st=some ti)(hk:ti.kd=.slice e)(hte:tl T e=some te)(hp:parts = #[])(hpos:Nat.blt 0 te.size=true)(htd:Nat.blt t n=true)
  (k:AL P ops rest ⟨n,(t,.sl .zero [])::tm,bx,fr,ee⟩ Q):AL P ops (⟨some t,.buildSlice st 0 parts,ty,pos,after,none⟩::rest) ⟨n,tm,bx,fr,ee⟩ Q:=
 O9 (fun b0 g a w hi=>by
  obtain⟨cs,c1,c2,c3,c4,c5⟩:=G4 (t:=t) (ty:=ty) (pos:=pos) (after:=after) hT ht hk hte (parts:=parts) (xs:=[]) (ds:=[]) (es:=[]) (len:=0) (by rw[hp];rfl) rfl rfl rfl rfl hpos (by rw[Nat.zero_mul];rfl) hi
  have hev:Evo ⟨g,fr,w⟩ ⟨g,fr,w.alloc (.cells cs.toArray e)⟩:=Evo.al hi.mem _
  have hi2:Inv b0 ⟨n,tm,bx,fr,ee⟩ g a (w.alloc (.cells cs.toArray e)):=⟨hi.size,hi.defers,Mem.al hi.mem _,fun t=>(hi.tm t).evo hev,hi.evo.trans hev,hi.bd⟩
  exact⟨.slice (some ⟨w.heap.size,0,none⟩) 0 0,_,tm,bx,fr,g,.sl .zero [],c5,hi2,.sl _ _ _ (.slE _ _ (Nat.zero_le _)) ⟨_,rfl⟩,k⟩) htd
theorem Ic [Known][Dfr](hT:chk P T=true){x hh mx:Operand}{st e:Nat}{tk:Tok}{l:List E}{k2 k3:IntKind}{ti te:Ti}(hx:ev tm x=.sl tk l)(ht:tl T st=some ti)(hk:ti.kd=.slice e)(hte:tl T e=some te)(htd:Nat.blt t n=true)
  (hhi:ev tm hh=.int k2 0) (hmx:ev tm mx=.int k3 0)
  (kk:AL P ops rest ⟨n,(t,.sl .zero [])::tm,bx,fr,ee⟩ Q):AL P ops (⟨some t,.slice st x none (some hh) (some mx),ty,pos,after,none⟩::rest) ⟨n,tm,bx,fr,ee⟩ Q:=
 ZR _ htd (fun g a w hi=>by
  have h1:V w g fr (ev tm x) (a.eval x):=hi.ev x
  rw[hx]at h1
  obtain⟨a1,_⟩:=WY h1
  have hu:=(ZM hT ht).slice hk
  have hsz:=Z6 (P:=P) (t:=e) (ZM hT hte).tSize w
  obtain⟨A,cap,hv,hcap⟩:∃ A cap,a.eval x=.slice A l.length cap/\l.length<=cap:=by
   generalize hq:E.sl l=q at a1
   generalize a.eval x=v at a1
   cases a1 with
   | slC l' b off cap us h1 h2 _ _ _=>injection hq with hq;subst hq;exact⟨_,cap,rfl,h1⟩
   | slE A cap h=>injection hq with hq;subst hq;exact⟨A,cap,rfl,Nat.zero_le _⟩
   | _=>cases hq
  have v2:=Bnd.val (S:=⟨n,tm,bx,fr,_⟩) hi hhi
  have v3:=Bnd.val (S:=⟨n,tm,bx,fr,_⟩) hi hmx
  have b1:(0:Int)<=0/\(0:Int)<=(cap:Int):=by omega
  have b2:(0:Int)<=0/\(0:Int)<=((0:Nat):Int):=by omega
  have hb:(Instr.sliceBounds true l.length cap none (some (.int k2 0)) (some (.int k3 0))).run P w=.ok (0,0,0) w:=by
   simp[Instr.sliceBounds,Instr.sliceBound,asIntOf,Sem.run_bind,Sem.run_pure,Result.andThen_ok]
  refine⟨.slice A 0 0,?_,.sl _ _ _ (.slE _ _ (Nat.zero_le _)) ⟨_,rfl⟩⟩
  have hrun:(Instr.sliceAt st (.slice A l.length cap) none (some (.int k2 0)) (some (.int k3 0))).run P w=.ok (.slice A 0 0) w:=by
   simp[Instr.sliceAt,Instr.slice,Sem.run_bind,run_underlying hu,hb,hsz]
  simp only[execOp,hv,v2,v3,Sem.run_bind,Option.map_some,Option.map_none,hrun,Result.andThen_ok]
  rfl) kk
theorem Km [Known][Dfr](hT:chk P T=true){x y:Operand}{st e m k2:Nat}{l' fl:List E}{ti te:Ti}{bx2:List (List D)}(ht:tl T st=some ti)(hk:ti.kd=.slice e)(hte:tl T e=some te)(hx:emp (ev tm x)=true)(hy:Src bx te.size (ev tm y) l')
  (hpos:Nat.blt 0 te.size=true) (hU':Uni te.size l') (hne:l' ≠ []) (hk2:VG l'=some k2) (hlen:Nat.ble k2 maxLen=true) (hby:Nat.ble (k2*te.bytes) 140737488355328=true)
  (hm:VG bx=some m) (hfl:nfl (flat l')=some fl) (hbx:nfb (bx++[[.row 0 fl]])=some bx2) (htd:Nat.blt t n=true)
  (k:AL P ops rest ⟨n,(t,.bsl m 0 k2 0)::tm,bx2,fr,ee⟩ Q):AL P ops (⟨some t,.call { callee:=.builtin .append,args := #[x,y],argTypes := #[st,st] },ty,pos,after,none⟩::rest) ⟨n,tm,bx,fr,ee⟩ Q:=by
 have e3:=YV hk2
 have e4:=Yd hfl
 subst e3 e4
 exact On hT ht hk hte hx hy hpos hU' hne rfl (Nat.le_of_ble_eq_true hlen) (Nat.le_of_ble_eq_true hby) (YV hm) hbx htd k
end
end Go.Av
end
