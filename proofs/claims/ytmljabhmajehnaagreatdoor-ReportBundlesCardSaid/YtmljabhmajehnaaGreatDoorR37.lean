/- Package bundle: what the law of bundles asks ahead; the payload. -/
import Derived.Test.YtmljabhmajehnaaGreatDoorR36
import Derived.Test.YtmljabhmajehnaaGreatDoorR35
import Derived.Test.YtmljabhmajehnaaGreatDoorR30
import Derived.Test.YtmljabhmajehnaaGreatDoorR26
import Derived.Test.YtmljabhmajehnaaGreatDoorR27
import Derived.Test.YtmljabhmajehnaaGreatDoorR32
set_option linter.unusedVariables false
set_option linter.unusedSimpArgs false
section
open Go.RowKit Go.Pl Go.Av
namespace Go.Proofs.YtmljabhmajehnaaGreatDoor
set_option maxHeartbeats 4000000
def Ra (l:List BlkV):Bool:=l.any fun c=>decide ((c.data.length:Int)>400)
def Ji (b:BunV):Bool:=decide ((b.bl.length:Int)>20)||(IW b.p||Ra b.bl)
theorem Hm {b:BunV}(h:Ji b=false):b.bl.length<=20/\∀ c ∈ b.bl,c.data.length<=400:=by
 unfold Ji Ra at h
 simp only[Bool.or_eq_false_iff,decide_eq_false_iff_not,List.any_eq_false,decide_eq_true_eq]at h
 refine⟨by omega,fun c hc=>?_⟩
 have:=h.2.2 c hc
 omega
theorem Mm [Known](b:BunV):AP Tryz.prog 27 [.agg (bnC b)] (.bool (Ji b)) []:=by
 have hG:=Ml b.p
 have hlen:=WW b.bl
 unfold Ji
 cases t0:decide ((b.bl.length:Int)>20) with
 | true=>
  have t1:decide (((Yo b.bl).length:Int)>20)=true:=by rw[hlen];exact t0
  obtain⟨⟨fl,sum,⟨di,dn,ds,dh,dd⟩,⟨ri,rn,rs,rh,rd⟩,⟨xi,xn,xs,xh,xd⟩,t,q,life⟩,bl⟩:=b
  try dsimp only at *
  refine AP.ofA (Zl Tryz.func27 U Tryz.ntmps27 U U ?_)
  repeat'(first|(apply Zi Za;exact U)|(apply Zg Za;exact U)|(apply Zp Za;exact U)|refine Zm U U U Qt ?_|refine Zj U Qt U U ?_|refine Zd U Qt ?_|refine Zn Za U U U U ?_)
  all_goals exact Qe
 | false=>
 have h20:=of_decide_eq_false t0
 have t1:decide (((Yo b.bl).length:Int)>20)=false:=by rw[hlen];exact t0
 generalize IW b.p=gp at *
 cases gp with
 | true=>
  obtain⟨⟨fl,sum,⟨di,dn,ds,dh,dd⟩,⟨ri,rn,rs,rh,rd⟩,⟨xi,xn,xs,xh,xd⟩,t,q,life⟩,bl⟩:=b
  try dsimp only at *
  refine AP.ofA (Zl Tryz.func27 U Tryz.ntmps27 U U ?_)
  repeat'(first|(apply Zb (hG);kernel_rfl;(iterate 4 exact U))|(apply Zi Za;exact U)|(apply Zg Za;exact U)|(apply Zp Za;exact U)|refine Ze U U U Qt ?_|refine Zh U Qt U U ?_|refine Zd U Qt ?_|refine Zn Za U U U U ?_)
  all_goals exact Qe
 | false=>
 rw[Bool.false_or,Bool.false_or]
 obtain⟨⟨fl,sum,⟨di,dn,ds,dh,dd⟩,⟨ri,rn,rs,rh,rd⟩,⟨xi,xn,xs,xh,xd⟩,t,q,life⟩,bl⟩:=b
 try dsimp only at *
 have hU:=JO bl
 generalize hF:Ra bl=F
 refine AP.ofA (Zl Tryz.func27 U Tryz.ntmps27 U U ?_)
 repeat'(first|(apply Zb (hG);kernel_rfl;(iterate 4 exact U))|(apply Zi Za;exact U)|(apply Zg Za;exact U)|(apply Zp Za;exact U)|refine Ze U U U Qt ?_|refine Zh U Qt U U ?_|refine Zf U Qt ?_|refine Zn Za U U U U ?_)
 show AW _ _ _ _
 refine ZJ (fun f tm bx fr=>∃(i:Nat),f+i=bl.length/\Ra (bl.drop i)=F/\tm=[(1,.ptr 0 0),(3,.int .i64 (i:Int))]/\bx=[[.int .u64 (fl:Int),.int .i64 sum,.bool di,.int .u64 (dn:Int),.int .u64 (ds:Int),.str dh,.str dd,.bool ri,.int .u64 (rn:Int),.int .u64 (rs:Int),.str rh,.str rd,.bool xi,.int .u64 (xn:Int),.int .u64 (xs:Int),.str xh,.str xd,.int .u64 (t:Int),.int .u64 (q:Int),.int .u64 (life:Int),.sl .ext (Yo bl)]]/\fr=[]) (bl.length+1) (Lands.mk' (m:=bl.length) (Nat.lt_succ_self _) ⟨0,by omega,hF,rfl,rfl,rfl⟩ ?_ rfl rfl rfl rfl rfl rfl) ?_
 ·exact .cons rfl (.cons rfl .nil)
 rintro f tm bx fr ⟨i,hf,hq,rfl,rfl,rfl⟩
 rcases Nat.lt_or_ge i bl.length with hlt|hge
 ·have hdl:decide ((i:Int)<((Yo bl).length:Int))=true:=decide_eq_true (by omega)
  obtain⟨c,hy⟩:∃ y,bl[i]?=some y:=⟨_,List.getElem?_eq_getElem hlt⟩
  have hv:=WX hy
  have hdr:bl.drop i=c::bl.drop (i+1):=by
   rw[List.drop_eq_getElem_cons hlt];congr 1
   exact(List.getElem?_eq_some_iff.1 hy).2
  rw[hdr]at hq
  replace hq:(decide ((c.data.length:Int)>400)||Ra (bl.drop (i+1)))=F:=hq
  have hcl:((c.data.map E.byte).length:Int)=(c.data.length:Int):=by rw[List.length_map]
  have ei:IntKind.i64.wrap ((i:Int)+1)=((i+1:Nat):Int):=by rw[IntWalk.i64_in _ (by omega)];omega
  rw[<- hcl]at hq
  cases hb:decide (((c.data.map E.byte).length:Int)>400) with
  | true=>
   rw[hb,Bool.true_or]at hq
   subst hq
   repeat'(first|(apply Zi Za;exact U)|(apply Zg Za;exact U)|(apply Zp Za;exact U)|refine Zd U Qt ?_|refine Yf ?_|refine Zn Za U U U U ?_|(apply Zu Za;(iterate 6 exact U);(first|exact Qt|rotate_left);(first|with_reducible assumption|decide +kernel|exact U);(first|exact Zk rfl|with_reducible assumption|decide +kernel|rotate_left)))
   all_goals exact Qe
  | false=>
   rw[hb,Bool.false_or]at hq
   repeat'(first|rw[ei]|(apply Zi Za;exact U)|(apply Zg Za;exact U)|(apply Zp Za;exact U)|refine Zd U Qt ?_|refine Zf U Qt ?_|refine Zn Za U U U U ?_|(apply Zu Za;(iterate 6 exact U);(first|exact Qt|rotate_left);(first|with_reducible assumption|decide +kernel|exact U);(first|exact Zk rfl|with_reducible assumption|decide +kernel|rotate_left)))
   refine Lands.mk' (m:=f-1) (by omega) ⟨i+1,by omega,hq,rfl,rfl,rfl⟩ ?_ rfl rfl rfl rfl rfl rfl
   exact .cons rfl (.cons rfl .nil)
 ·have hdl:decide ((i:Int)<((Yo bl).length:Int))=false:=decide_eq_false (by omega)
  rw[List.drop_eq_nil_of_le hge]at hq
  replace hq:false=F:=hq
  subst hq
  repeat'(first|(apply Zi Za;exact U)|(apply Zg Za;exact U)|(apply Zp Za;exact U)|refine Zf U Qt ?_|refine Zn Za U U U U ?_)
  all_goals exact Qe
def Ou (b:BunV):List UInt8:=match b.bl[b.bl.length-1]? with
 | some c=>c.data
 | none=>[]
theorem BQ [Known](b:BunV)(hb:BunOk b):AP Tryz.prog 10 [.agg (bnC b)] (byE (Ou b)) []:=by
 have hlen:=WW b.bl
 have hU:=JO b.bl
 unfold Ou
 obtain⟨_,hl,hbl⟩:=hb
 cases hlast:b.bl[b.bl.length-1]? with
 | none=>
  have h0:b.bl.length=0:=by have:=List.getElem?_eq_none_iff.1 hlast;omega
  have t1:(((Yo b.bl).length:Int)==0)=true:=by rw[hlen,h0];rfl
  obtain⟨⟨fl,sum,⟨di,dn,ds,dh,dd⟩,⟨ri,rn,rs,rh,rd⟩,⟨xi,xn,xs,xh,xd⟩,t,q,life⟩,bl⟩:=b
  try dsimp only at *
  refine AP.ofA (Zl Tryz.func10 U Tryz.ntmps10 U U ?_)
  repeat'(first|(apply Zi Za;exact U)|(apply Zg Za;exact U)|(apply Zp Za;exact U)|refine Zd U Qt ?_|refine Zn Za U U U U ?_)
  all_goals exact Qe
 | some c=>
 have hlt:=(List.getElem?_eq_some_iff.1 hlast).1
 have hv:=WX hlast
 rw[show((b.bl.length-1:Nat):Int)=(b.bl.length:Int)-1 from by omega]at hv
 have t1:(((Yo b.bl).length:Int)==0)=false:=by rw[hlen];exact beq_eq_false_iff_ne.2 (by omega)
 have en:IntKind.i64.wrap (((Yo b.bl).length:Int)-1)=(b.bl.length:Int)-1:=by rw[IntWalk.i64_in _ (by omega)];omega
 have i0:(0:Int)<=(b.bl.length:Int)-1:=by omega
 have hC:=Q8 c.data (by have:=(hbl c (List.mem_of_getElem? hlast)).2;omega)
 obtain⟨⟨fl,sum,⟨di,dn,ds,dh,dd⟩,⟨ri,rn,rs,rh,rd⟩,⟨xi,xn,xs,xh,xd⟩,t,q,life⟩,bl⟩:=b
 try dsimp only at *
 refine AP.ofA (Zl Tryz.func10 U Tryz.ntmps10 U U ?_)
 repeat'(first|rw[en]|(apply Zb (hC);kernel_rfl;(iterate 4 exact U))|(apply Zi Za;exact U)|(apply Zg Za;exact U)|(apply Zp Za;exact U)|refine Zf U Qt ?_|refine Zn Za U U U U ?_|(apply Zu Za;(iterate 6 exact U);(first|exact Qt|rotate_left);(first|with_reducible assumption|decide +kernel|exact U);(first|exact Zk rfl|with_reducible assumption|decide +kernel|rotate_left)))
 all_goals exact Qe
theorem BR:BunOk bn0:=⟨by decide,by decide,by decide⟩
abbrev zeC:List D:=[.int .u64 0,.int .i64 0,.bool false,.int .u64 0,.int .u64 0,.str [],.str [],.bool false,.int .u64 0,.int .u64 0,.str [],.str [],.bool false,.int .u64 0,.int .u64 0,.str [],.str [],.int .u64 0,.int .u64 0,.int .u64 0,.sl .ext []]
def V1 (b:List UInt8)(dest src:EidV)(t q life:Nat):BunV:=⟨⟨2,0,dest,Yi,src,t,q,life⟩,[⟨1,1,0,0,b⟩]⟩
def YP (r:RepV)(dest src:EidV)(t q life:Nat):BunV × Int:=match(Wl r).2 != 0 with
 | true=>(bn0,(Wl r).2)
 | false=>match YZ (V1 (Wl r).1 dest src t q life) with
  | false=>(bn0,3)
  | true=>(V1 (Wl r).1 dest src t q life,0)
theorem TB (r:RepV):(Wl r).1.length<=200:=by
 unfold Wl
 cases h:Yj r with
 | false=>simp
 | true=>exact Ua h
theorem Kq (b:List UInt8)(hb:b.length<=3000)(dest src:EidV)(t q life:Nat):BunOk (V1 b dest src t q life):=
 ⟨by show 2<_;decide,by show 1<=_;decide,fun c hc=>by
  rcases List.mem_cons.1 hc with rfl|hc
  ·exact⟨by show 0<_;decide,hb⟩
  ·cases hc⟩
theorem Oc [Known][KnownU8](r:RepV)(dest src:EidV)(t q life:Nat):AP Tryz.prog 31 [.agg (Y6 r),.agg (eC dest),.agg (iC src t q),.int .u64 (life:Int)] (bnR (YP r dest src t q life)) []:=by
 have hW:=Jh r
 have hl:=TB r
 unfold YP
 generalize Wl r=w at *
 obtain⟨wb,we⟩:=w
 dsimp only at *
 have hRt:=Ob (V1 wb dest src t q life) (Kq wb (by omega) dest src t q life)
 have hUb:=Yr (wb)
 cases tw:(we != 0) with
 | true=>
  obtain⟨a,b,c,rs,tm,⟨i,n,s,h,d⟩,rt,rq⟩:=r
  obtain⟨di,dn,ds,dh,dd⟩:=dest
  obtain⟨xi,xn,xs,xh,xd⟩:=src
  dsimp only at *
  refine AP.ofA (Zl Tryz.func31 U Tryz.ntmps31 U U ?_)
  repeat'(first|(apply Zb (hW);kernel_rfl;(iterate 4 exact U))|(apply Zi Za;exact U)|(apply Zg Za;exact U)|(apply Zp Za;exact U)|(apply Zd;exact U;(first|with_reducible assumption|decide +kernel|(solve|simp only[bn]))))
  all_goals exact Qe
 | false=>
  have we0:we=0:=by simpa using tw
  subst we0
  generalize hrt:YZ (V1 wb dest src t q life)=R at *
  obtain⟨a,b,c,rs,tm,⟨i,n,s,h,d⟩,rt,rq⟩:=r
  obtain⟨di,dn,ds,dh,dd⟩:=dest
  obtain⟨xi,xn,xs,xh,xd⟩:=src
  dsimp only at *
  replace hRt:AP Tryz.prog 8 [.agg [.int .u64 2,.int .i64 0,.bool di,.int .u64 (dn:Int),.int .u64 (ds:Int),.str dh,.str dd,.bool false,.int .u64 0,.int .u64 0,.str [],.str [],.bool xi,.int .u64 (xn:Int),.int .u64 (xs:Int),.str xh,.str xd,.int .u64 (t:Int),.int .u64 (q:Int),.int .u64 (life:Int),.sl .ext [.agg [.int .u64 1,.int .u64 1,.int .u64 0,.int .i64 0,.sl (wb.map E.byte)]]]] (.bool R) []:=hRt
  cases R with
  | false=>
   refine AP.ofA (Zl Tryz.func31 U Tryz.ntmps31 U U ?_)
   repeat'(first|(apply Zb (hW);kernel_rfl;(iterate 4 exact U))|(apply Zb (hRt);kernel_rfl;(iterate 4 exact U))|(apply Zi Za;exact U)|(apply Zg Za;exact U)|(apply Zp Za;exact U)|(apply Zd;exact U;(first|with_reducible assumption|decide +kernel|(solve|simp only[bn])))|(apply Zf;exact U;(first|with_reducible assumption|decide +kernel|(solve|simp only[bn])))|refine ZM Za U U U U U U U U U U U U ?_)
   all_goals exact Qe
  | true=>
   refine AP.ofA (Zl Tryz.func31 U Tryz.ntmps31 U U ?_)
   repeat'(first|(apply Zb (hW);kernel_rfl;(iterate 4 exact U))|(apply Zb (hRt);kernel_rfl;(iterate 4 exact U))|(apply Zi Za;exact U)|(apply Zg Za;exact U)|(apply Zp Za;exact U)|(apply Zf;exact U;(first|with_reducible assumption|decide +kernel|(solve|simp only[bn])))|refine ZM Za U U U U U U U U U U U U ?_)
   all_goals exact Qe
def ofR (b:BunV):RepV × Int:=match bits .and .u64 (b.p.fl:Int) 2==0 with
 | true=>(rp0,4)
 | false=>match YZ b with
  | false=>(rp0,3)
  | true=>Vq (Ou b)
theorem Sy {b:BunV}(hb:BunOk b):(Ou b).length<=3000:=by
 unfold Ou
 cases h:b.bl[b.bl.length-1]? with
 | none=>simp
 | some c=>exact(hb.bl c (List.mem_of_getElem? h)).2
theorem TC [Known][KnownU8](b:BunV)(hb:BunOk b):AP Tryz.prog 32 [.agg (bnC b)] (.tup [.agg (Y6 (ofR b).1),.int .i64 (ofR b).2]) []:=by
 have hRt:=Ob b hb
 have hP:=BQ b hb
 have hRd:=Hl (Ou b) (Sy hb)
 unfold ofR
 generalize hrt:YZ b=R at *
 generalize Ou b=pl at *
 generalize Vq pl=rr at *
 obtain⟨⟨ra,rb,rc,rs,rtm,⟨ri,rn,rs2,rh,rd⟩,rt,rq⟩,re⟩:=rr
 have hUb:=JO b.bl
 obtain⟨⟨fl,sum,⟨di,dn,ds,dh,dd⟩,⟨pi,pn,ps,ph,pd⟩,⟨xi,xn,xs,xh,xd⟩,t,q,life⟩,bl⟩:=b
 dsimp only at *
 cases t1:(bits .and .u64 (fl:Int) 2==0)<;>cases R
 all_goals
  refine AP.ofA (Zl Tryz.func32 U Tryz.ntmps32 U U ?_)
  repeat'(first|(apply Zb (hRt);kernel_rfl;(iterate 4 exact U))|(apply Zb (hP);kernel_rfl;(iterate 4 exact U))|(apply Zb (hRd);kernel_rfl;(iterate 4 exact U))|(apply Zi Za;exact U)|(apply Zg Za;exact U)|(apply Zp Za;exact U)|(apply Zd;exact U;(first|with_reducible assumption|decide +kernel|(solve|simp only[bn])))|(apply Zf;exact U;(first|with_reducible assumption|decide +kernel|(solve|simp only[bn]))))
  all_goals exact Qe
theorem XL (b:Bool):((nb b:Int)==1)=b:=by cases b<;>rfl
theorem Qn {r:RepV}(h:Yj r=true):Wl r=(ZI (Ya r),0):=by
 unfold Wl
 rw[h]
theorem XM {r:RepV}(h:Yj r=false):Wl r=([],3):=by
 unfold Wl
 rw[h]
theorem Uy {r:RepV}(h:Yj r=true):Vq (ZI (Ya r))=(r,0):=by
 obtain⟨h1,h2,h3⟩:=Um h
 have hi:=QS h3
 have hrep:WA (.mk 0 (nb r.a) [] []) (.mk 0 (nb r.b) [] []) (.mk 0 (nb r.c) [] []) (.mk 0 r.rs [] []) (.mk 0 r.tm [] []) (Yw r.of r.t r.q)=r:=by
  unfold WA
  rw[hi]
  dsimp only[It.n]
  rw[XL,XL,XL]
 unfold Vq
 rw[JK (UW h) (VS h)]
 dsimp only
 rw[show(((0:Nat):Int) != 0)=false from rfl]
 dsimp only
 unfold Xd
 show(match(YF (Yw r.of r.t r.q)).2.2.2 with
  | false=>(rp0,(3:Int))
  | true=>match(Wl (WA (.mk 0 (nb r.a) [] []) (.mk 0 (nb r.b) [] []) (.mk 0 (nb r.c) [] []) (.mk 0 r.rs [] []) (.mk 0 r.tm [] []) (Yw r.of r.t r.q))).2 != 0 with
   | true=>(rp0,3)
   | false=>match(Wl (WA (.mk 0 (nb r.a) [] []) (.mk 0 (nb r.b) [] []) (.mk 0 (nb r.c) [] []) (.mk 0 r.rs [] []) (.mk 0 r.tm [] []) (Yw r.of r.t r.q))).1==ZI (Ya r) with
    | false=>(rp0,3)
    | true=>(WA (.mk 0 (nb r.a) [] []) (.mk 0 (nb r.b) [] []) (.mk 0 (nb r.c) [] []) (.mk 0 r.rs [] []) (.mk 0 r.tm [] []) (Yw r.of r.t r.q),0))=(r,0)
 rw[hrep,hi,Qn h]
 dsimp only
 rw[show((0:Int) != 0)=false from rfl]
 dsimp only
 rw[beq_self_eq_true]
theorem Ov {b:List UInt8}{s:RepV}(h:Vq b=(s,0)):Wl s=(b,0):=by
 unfold Vq at h
 split at h
 ·cases(Prod.mk.inj h).2
 ·unfold Xd at h
  split at h
  ·split at h
   ·split at h
    ·split at h
     ·cases(Prod.mk.inj h).2
     ·split at h
      ·cases(Prod.mk.inj h).2
      ·split at h
       ·cases(Prod.mk.inj h).2
       ·rename_i d2 _ d3
        have e:=(Prod.mk.inj h).1
        subst e
        exact Prod.ext (by simpa using d3) (by simpa using d2)
    ·cases(Prod.mk.inj h).2
   ·cases(Prod.mk.inj h).2
  ·cases(Prod.mk.inj h).2
theorem Hn [Known](h:Hd):AP Tryz.prog 191 [hd h] (.bool (Z0 h)) []:=by
 obtain⟨m,n,o⟩:=h
 refine Zl Tryz.func191 rfl Tryz.ntmps191 rfl rfl ?_
 repeat'(first|(apply Zi Za;exact U)|(apply Zg Za;exact U)|(apply Ze;(iterate 3 exact U);(first|with_reducible assumption|(solve|simp only[bn])))|(apply Zt;(iterate 3 exact U);(first|with_reducible assumption|(solve|simp only[bn])))|(apply Zm;(iterate 3 exact U);(first|with_reducible assumption|(solve|simp only[bn])))|refine UC U U U ?_|(apply YB;exact U;exact U;all_goals intro hb)|(apply Zj;exact U;(first|with_reducible assumption|(solve|simp only[bn]));exact U;exact U)|(apply Zh;exact U;(first|with_reducible assumption|(solve|simp only[bn]));exact U;exact U)|(apply YR;exact U;all_goals intro hb))
 all_goals(apply Uc (ts:=[]);(apply Zc Za;exact U);exact ZD _;exact U;rotate_left;exact U)
 all_goals congr 1
 all_goals(rw[Bool.eq_iff_iff];simp_all [Z0,Jm];try omega)
set_option maxRecDepth 20000 in
theorem Od [Known](b:List UInt8)(p:Int)(hb:b.length<=4611686018427387904):AP Tryz.prog 175 [byE b,.int .i64 p] (rdD (Qv b p)) []:=by
 have HB:=hid hb
 clear hb
 have HU:=Yr b
 refine Zl Tryz.func175 rfl Tryz.ntmps175 rfl rfl ?_
 repeat'(first|(apply Zi Za;exact U)|(apply Zg Za;exact U)|(apply Zp Za;exact U)|(apply Ze;(iterate 3 exact U);(first|with_reducible assumption|(solve|simp only[bn])))|(apply Zm;(iterate 3 exact U);(first|with_reducible assumption|(solve|simp only[bn])))|(apply YB;exact U;exact U;all_goals intro hb)|(apply Zj;exact U;(first|with_reducible assumption|(solve|simp only[bn]));exact U;exact U)|(apply Zh;exact U;(first|with_reducible assumption|(solve|simp only[bn]));exact U;exact U)|(apply Zd;exact U;(first|with_reducible assumption|(solve|simp only[bn])))|(apply YR;exact U;all_goals intro hb)|refine Zn Za U U U U ?_)
 ·(apply Uc (ts:=[]);(apply Zc Za;exact U);exact ZD _;exact U;rotate_left;exact U)
  have:p<0:=of_decide_eq_true hb
  rw[show Qv b p=_ from if_pos (.inl this)];rfl
 ·(apply Uc (ts:=[]);(apply Zc Za;exact U);exact ZD _;exact U;rotate_left;exact U)
  have:p>((b.map E.byte).length:Int):=of_decide_eq_true hb
  rw[List.length_map]at this
  rw[show Qv b p=_ from if_pos (.inr this)];rfl
 ·(apply Uc (ts:=[]);(apply Zc Za;exact U);exact ZD _;exact U;rotate_left;exact U)
  have:p=((b.map E.byte).length:Int):=by simpa using hb
  rw[List.length_map]at this
  have hd:b.drop p.toNat=[]:=by rw[List.drop_eq_nil_iff];omega
  rw[show Qv b p=YL b p.toNat from if_neg (by omega)]
  unfold YL
  rw[hd];rfl
 rename_i g1 g2
 have h0:0<=p:=by have:=of_decide_eq_false g1;omega
 have h1:p<(b.length:Int):=by
  have a1:=of_decide_eq_false g2
  rw[List.length_map]at a1 hb
  have a2:p ≠ (b.length:Int):=by simpa using hb
  omega
 obtain⟨c,r,hd,hl,hv,hr⟩:=G4 b p h0 h1
 have HH:=hid (show Qv b p=YL b p.toNat from if_neg (by omega))
 have HD:=hid hd
 have HL:=hid hl
 have HR:=hid hr
 have hc:=c.toNat_lt
 have e1:IntKind.i64.wrap ((c.toNat:Nat):Int)=((c.toNat:Nat):Int):=IntWalk.i64_in _ (by omega)
 have e4:IntKind.i64.wrap (((c.toNat:Nat):Int).tdiv 32)=((c.toNat/32:Nat):Int):=by
  rw[Int.tdiv_eq_ediv_of_nonneg (Int.natCast_nonneg _),IntWalk.i64_in _ (by omega)];omega
 have e5:((c.toNat:Nat):Int).tmod 32=((c.toNat % 32:Nat):Int):=by
  rw[Int.tmod_eq_emod_of_nonneg (Int.natCast_nonneg _)];omega
 have e2:IntKind.u64.wrap ((c.toNat % 32:Nat):Int)=((c.toNat % 32:Nat):Int):=by rw[IntKind.wrap_u64];omega
 have e3:IntKind.i64.wrap (p+1)=((p.toNat+1:Nat):Int):=by have:=HB.out;rw[IntWalk.i64_in _ (by omega)];omega
 clear hb g1 g2 hd hl hr hc
 have hv4:¬ c.toNat % 32<24->¬ 27<c.toNat % 32->[E.int .i64 1,E.int .i64 2,E.int .i64 4,E.int .i64 8][(IntKind.i64.wrap (((c.toNat % 32:Nat):Int)-24)).toNat]?=some (E.int .i64 ((2 ^ (c.toNat % 32-24):Nat):Int))/\0<=IntKind.i64.wrap (((c.toNat % 32:Nat):Int)-24):=by
  generalize c.toNat % 32=v
  intro g1 g2
  obtain rfl|rfl|rfl|rfl:v=24\/v=25\/v=26\/v=27:=by omega
  all_goals exact⟨rfl,by decide⟩
 repeat'(first|rw[e1]|rw[e2]|rw[e3]|rw[e4]|rw[e5]|(apply VJ (Hn (((c.toNat/32:Nat):Int),0,true));kernel_rfl;(iterate 4 exact U))|(apply Zi Za;exact U)|(apply Zg Za;exact U)|(apply Zp Za;exact U)|(apply YR;exact U;all_goals intro hb)|refine Qr Za U U U U U U U U U U U U ?_|(apply Zu Za;(iterate 6 exact U);(first|exact Qb|rotate_left);(first|with_reducible assumption|exact U);(first|exact Zk rfl|with_reducible assumption|rotate_left))|(apply Vt;exact U;exact U;(first|exact Qb|rotate_left);exact U)|(apply Vu;exact U;exact U;(first|exact Qb|rotate_left);exact U))
 ·(apply Uc (ts:=[]);(apply Zc Za;exact U);exact ZD _;exact U;rotate_left;exact U)
  rw[HH.out,Xa HD.out (by have:=of_decide_eq_true hb;omega)];rfl
 ·(apply Uc (ts:=[]);(apply Zc Za;exact U);exact ZD _;exact U;rotate_left;exact U)
  have g31 : c.toNat % 32 = 31 := by have : ((c.toNat % 32 : Nat) : Int) = 31 := by simpa using (‹(((c.toNat % 32 : Nat) : Int) == 31) = true›)
                                     omega
  have gm:Jm ((c.toNat/32:Nat):Int)=false:=by simpa[Z0]using hb
  rw[HH.out,XF HD.out (by omega) (fun _=>gm)];rfl
 ·(apply Uc (ts:=[]);(apply Zc Za;exact U);exact ZD _;exact U;rotate_left;exact U)
  have g31 : c.toNat % 32 = 31 := by have : ((c.toNat % 32 : Nat) : Int) = 31 := by simpa using (‹(((c.toNat % 32 : Nat) : Int) == 31) = true›)
                                     omega
  have gm:Jm ((c.toNat/32:Nat):Int)=true:=by simpa[Z0]using hb
  rw[HH.out,KX HD.out g31 gm];rfl
 ·(apply Uc (ts:=[]);(apply Zc Za;exact U);exact ZD _;exact U;rotate_left;exact U)
  have g31 : c.toNat % 32 ≠ 31 := by have : ((c.toNat % 32 : Nat) : Int) ≠ 31 := by simpa using (‹(((c.toNat % 32 : Nat) : Int) == 31) = false›)
                                     omega
  rw[HH.out,XF HD.out (by have:=of_decide_eq_true hb;omega) (fun e=>(g31 e).elim)];rfl
 have g2:=of_decide_eq_false hb
 have g3:=of_decide_eq_false (‹decide (((c.toNat % 32:Nat):Int)<24)=false›)
 have q1:=Tl (c.toNat % 32) (by omega) (by omega)
 have q2:=hv4 (by omega) (by omega)
 have hvi:=q2.1
 have hvp:=q2.2
 have g5:=HL.out
 have g6:=HB.out
 have q3:∀ h:r.length<2 ^ (c.toNat % 32-24),_:=fun h=>HH.out.trans (X8 HD.out (by omega) (by omega) h)
 have q4:∀ h:¬ r.length<2 ^ (c.toNat % 32-24),_:=fun h=>HH.out.trans (KY HD.out (by omega) (by omega) h)
 have q5:=q1.2
 generalize 2 ^ (c.toNat % 32-24)=m at hvi q3 q4 q5 ⊢
 have Q3:=hid q3
 have Q4:=hid q4
 clear q3 q4 q1 q2 hv4
 repeat'(first|(apply Zi Za;exact U)|(apply Zg Za;exact U)|(apply Zp Za;exact U)|(apply YR;exact U;all_goals intro hb)|refine Zn Za U U U U ?_|(apply Zu Za;(iterate 6 exact U);(first|exact Qb|rotate_left);(first|with_reducible assumption|exact U);(first|exact Zk rfl|with_reducible assumption|rotate_left)))
 ·(apply Uc (ts:=[]);(apply Zc Za;exact U);exact ZD _;exact U;rotate_left;exact U)
  have g1:=of_decide_eq_true hb
  rw[List.length_map,IntWalk.i64_in ((b.length:Int)-p) (by omega),IntWalk.i64_in _ (by omega)]at g1
  rw[Q3.out (by omega)];rfl
 have g1:=of_decide_eq_false hb
 rw[List.length_map,IntWalk.i64_in ((b.length:Int)-p) (by omega),IntWalk.i64_in _ (by omega)]at g1
 have G7:=hid (Q4.out (by omega))
 clear hb g2 g3
 refine ZJ (fun k tm bx fr=>∃ i,k+i=m/\tm=[(10,.int .i64 (i:Int)),(9,.int .i64 (m:Int)),(7,.ptr 1 0),(1,.int .i64 p),(0,byE b),(4,.ptr 0 0)]/\bx=[[.int .i64 0,.int .u64 0,.bool false],[.int .i64 ((c.toNat/32:Nat):Int),.int .u64 (WL (r.take i):Nat),.bool false]]/\fr=[]) (m+1) (Lands.mk' (m:=m) (Nat.lt_succ_self _) ⟨0,rfl,rfl,rfl,rfl⟩ ?_ rfl rfl rfl rfl rfl rfl) ?_
 ·repeat'(first|exact Av.Sub.nil|refine Av.Sub.cons rfl ?_)
 rintro k tm bx fr ⟨i,hk,rfl,rfl,rfl⟩
 rcases Nat.lt_or_ge i m with hlt|hge
 ·have hd:decide ((i:Int)<(m:Int))=true:=by simp;omega
  have hir:i<r.length:=by omega
  have hv':(b.map E.byte)[((p.toNat+1+i:Nat):Int).toNat]?=some (E.byte r[i]):=by
   rw[Int.toNat_natCast,HR.out i hir];simp[hir]
  have e4:IntKind.i64.wrap (((p.toNat+1:Nat):Int)+(i:Int))=((p.toNat+1+i:Nat):Int):=by rw[IntWalk.i64_in _ (by omega)];omega
  have e7:IntKind.i64.wrap ((i:Int)+1)=((i+1:Nat):Int):=by rw[IntWalk.i64_in _ (by omega)];omega
  have e6:IntKind.u64.wrap ((r[i].toNat:Nat):Int)=((r[i].toNat:Nat):Int):=by have:=r[i].toNat_lt;rw[IntKind.wrap_u64];omega
  have e5:IntKind.u64.wrap (IntKind.u64.wrap (256*((WL (r.take i):Nat):Int))+((r[i].toNat:Nat):Int))=((WL (r.take (i+1)):Nat):Int):=by
   have h9:=Js r i (by omega)
   have h8:=r[i].toNat_lt
   rw[ON r i hir,IntKind.wrap_u64,IntKind.wrap_u64]
   omega
  repeat'(first|rw[e3]|rw[e4]|rw[e5]|rw[e6]|rw[e7]|(apply Zi Za;exact U)|(apply Zg Za;exact U)|(apply Zd;exact U;(first|with_reducible assumption|(solve|simp only[bn])))|(apply ZT 11 ZB;decide +kernel;kernel_rfl;kernel_rfl;exact U;exact U)|(apply Z4;(iterate 3 exact U))|refine AD.nil _|exact Yx rfl|(apply Zu Za;(iterate 6 exact U);(first|exact Qb|rotate_left);(first|with_reducible assumption|exact U);(first|exact Zk rfl|with_reducible assumption|rotate_left)))
  refine Lands.mk' (m:=k-1) (by omega) ⟨i+1,by omega,rfl,rfl,rfl⟩ ?_ rfl rfl rfl rfl rfl rfl
  repeat'(first|exact Av.Sub.nil|refine Av.Sub.cons rfl ?_)
 ·have hd:decide ((i:Int)<(m:Int))=false:=by simp;omega
  repeat'(first|rw[e3]|(apply Zg Za;exact U)|(apply Zf;exact U;(first|with_reducible assumption|(solve|simp only[bn]))))
  (apply Uc (ts:=[]);(apply Zc Za;exact U);exact ZD _;exact U;rotate_left;exact U)
  have h9:i=m:=by omega
  subst h9
  rw[G7.out,IntWalk.i64_in _ (by omega)]
  rfl
abbrev pcD (b:List UInt8)(r:Res (List UInt8 × List UInt8)):D:=match r with
 | .error e=>.tup [.sl .ext [],.int .i64 0,.int .i64 (e:Int)]
 | .ok (c,r)=>.tup [byE c,.int .i64 ((b.length-r.length:Nat):Int),.int .i64 0]
theorem Ik [Known](h:Hd)(b:List UInt8)(p:Nat)(hb:b.length<=1099511627776)(hp:p<=b.length)(hn:h.2.1<18446744073709551616):AP Tryz.prog 192 [byE b,.int .i64 (p:Int),hd h] (pcD b (Wd h (b.drop p))) []:=by
 obtain⟨k,n,o⟩:=h
 dsimp only at hn
 show AP Tryz.prog _ [byE b,.int .i64 (p:Int),.agg [.int .i64 k,.int .u64 (n:Int),.bool o]] _ _
 have e1:IntKind.i64.wrap (((b.map E.byte).length:Int)-(p:Int))=((b.length-p:Nat):Int):=by rw[List.length_map,IntWalk.i64_in _ (by omega)];omega
 have e2:IntKind.u64.wrap ((b.length-p:Nat):Int)=((b.length-p:Nat):Int):=by rw[IntKind.wrap_u64];omega
 unfold Wd
 dsimp only
 have hl:(b.drop p).length=b.length-p:=List.length_drop ..
 rw[hl]
 by_cases hle:n<=b.length-p
 ·rw[if_pos hle]
  have d1:decide ((n:Int)>((b.length-p:Nat):Int))=false:=decide_eq_false (by omega)
  have e3:IntKind.i64.wrap (n:Int)=(n:Int):=IntWalk.i64_in _ (by omega)
  have e4:IntKind.i64.wrap ((p:Int)+(n:Int))=((p+n:Nat):Int):=by rw[IntWalk.i64_in _ (by omega)];omega
  have hs:(b.take (((p+n:Nat):Int)).toNat).drop ((p:Nat):Int).toNat=(b.drop p).take n:=by
   rw[Int.toNat_natCast,Int.toNat_natCast,List.drop_take];congr 1;omega
  have hij:((p:Nat):Int)<=((p+n:Nat):Int):=by omega
  have hj:(((p+n:Nat):Int)).toNat<=b.length:=by omega
  have hcl:((b.drop p).take n).length<=140737488351232:=by rw[List.length_take,hl];omega
  have hU:=Yr b
  have c2:=X9 _ hcl
  have eR:b.length-((b.drop p).drop n).length=p+n:=by rw[List.length_drop,hl];omega
  by_cases h3:k=3
  ·subst h3
   cases hv:ZH ((b.drop p).take n) with
   | true=>
    rw[hv]at c2
    rw[if_neg (by simp)]
    dsimp only[pcD]
    rw[eR]
    refine AP.ofA (Zl Tryz.func192 U Tryz.ntmps192 U U ?_)
    repeat'(first|rw[d1]|rw[e1]|rw[e2]|rw[e3]|rw[e4]|(apply Zb (c2);kernel_rfl;(iterate 4 exact U))|(apply QZ Za;(iterate 9 exact U);exact Qb;(first|with_reducible assumption|decide|(simp only[List.length_cons,List.length_drop,List.length_take,List.length_append,Int.toNat_natCast]at *;omega));(first|with_reducible assumption|decide|(simp only[List.length_cons,List.length_drop,List.length_take,List.length_append,Int.toNat_natCast]at *;omega));(first|with_reducible assumption|exact U))|(apply Zi Za;exact U)|(apply Zg Za;exact U)|(apply Zp Za;exact U)|refine Z9 ?_|refine Ze U U U Qt ?_|refine Zj U Qt U U ?_|refine Zf U Qt ?_|refine Zn Za U U U U ?_)
    all_goals exact Qe
   | false=>
    rw[hv]at c2
    rw[if_pos ⟨rfl,rfl⟩]
    dsimp only[pcD]
    refine AP.ofA (Zl Tryz.func192 U Tryz.ntmps192 U U ?_)
    repeat'(first|rw[d1]|rw[e1]|rw[e2]|rw[e3]|rw[e4]|(apply Zb (c2);kernel_rfl;(iterate 4 exact U))|(apply QZ Za;(iterate 9 exact U);exact Qb;(first|with_reducible assumption|decide|(simp only[List.length_cons,List.length_drop,List.length_take,List.length_append,Int.toNat_natCast]at *;omega));(first|with_reducible assumption|decide|(simp only[List.length_cons,List.length_drop,List.length_take,List.length_append,Int.toNat_natCast]at *;omega));(first|with_reducible assumption|exact U))|(apply Zi Za;exact U)|(apply Zg Za;exact U)|(apply Zp Za;exact U)|refine Z9 ?_|refine Ze U U U Qt ?_|refine Zj U Qt U U ?_|refine Zd U Qt ?_|refine Zf U Qt ?_|refine Zn Za U U U U ?_)
    all_goals exact Qe
  ·have k3:(k==3)=false:=by simpa using h3
   rw[if_neg (by rintro⟨h,_⟩;exact h3 h)]
   dsimp only[pcD]
   rw[eR]
   refine AP.ofA (Zl Tryz.func192 U Tryz.ntmps192 U U ?_)
   repeat'(first|rw[d1]|rw[e1]|rw[e2]|rw[e3]|rw[e4]|(apply QZ Za;(iterate 9 exact U);exact Qb;(first|with_reducible assumption|decide|(simp only[List.length_cons,List.length_drop,List.length_take,List.length_append,Int.toNat_natCast]at *;omega));(first|with_reducible assumption|decide|(simp only[List.length_cons,List.length_drop,List.length_take,List.length_append,Int.toNat_natCast]at *;omega));(first|with_reducible assumption|exact U))|(apply Zi Za;exact U)|(apply Zg Za;exact U)|(apply Zp Za;exact U)|refine Z9 ?_|refine Zt U U U Qt ?_|refine Zh U Qt U U ?_|refine Zf U Qt ?_|refine Zn Za U U U U ?_)
   all_goals exact Qe
 ·rw[if_neg hle]
  dsimp only[pcD]
  have d1:decide ((n:Int)>((b.length-p:Nat):Int))=true:=decide_eq_true (by omega)
  refine AP.ofA (Zl Tryz.func192 U Tryz.ntmps192 U U ?_)
  repeat'(first|rw[d1]|rw[e1]|rw[e2]|(apply Zi Za;exact U)|(apply Zg Za;exact U)|(apply Zp Za;exact U)|refine Zd U Qt ?_|refine Zn Za U U U U ?_)
  all_goals exact Qe
end Go.Proofs.YtmljabhmajehnaaGreatDoor
end
