/- Package bundle: a bundle's bytes. -/
import Derived.Test.YtmljabhmajehnaaGreatDoorT28
import Derived.Test.YtmljabhmajehnaaGreatDoorT19
import Derived.Test.YtmljabhmajehnaaGreatDoorT12
import Derived.Test.YtmljabhmajehnaaGreatDoorT25
import Derived.Test.YtmljabhmajehnaaGreatDoorT26
set_option linter.unusedVariables false
set_option linter.unusedSimpArgs false
section
open Go.RowKit Go.Pl Go.Av
namespace Go.Proofs.YtmljabhmajehnaaGreatDoor
set_option maxHeartbeats 4000000
abbrev bnC (b:BunV):List D:=[.int .u64 (b.p.fl:Int),.int .i64 b.p.sum,.bool b.p.dest.i,.int .u64 (b.p.dest.n:Int),.int .u64 (b.p.dest.s:Int),.str b.p.dest.h,.str b.p.dest.d,.bool b.p.rep.i,.int .u64 (b.p.rep.n:Int),.int .u64 (b.p.rep.s:Int),.str b.p.rep.h,.str b.p.rep.d,.bool b.p.src.i,.int .u64 (b.p.src.n:Int),.int .u64 (b.p.src.s:Int),.str b.p.src.h,.str b.p.src.d,.int .u64 (b.p.t:Int),.int .u64 (b.p.q:Int),.int .u64 (b.p.life:Int),.sl .ext (ZU b.bl)]
structure BunOk (b:BunV):Prop where
 fl:b.p.fl<18446744073709551616
 len:b.bl.length<=1000000
 bl:∀ c ∈ b.bl,c.fl<18446744073709551616/\c.data.length<=3000
theorem Xx {l:List It}{a:Int}{x:It}(h:W8 l a=(x,0)):(ZH x).length<=(ZI l).length+40:=by
 rcases Vy h with rfl|⟨s,hs,rfl⟩
 ·have:=Yj 4 0 [] l
  simp at this ⊢;omega
 ·have h0:=Yj 4 0 [] (l++[.mk 2 0 (VG s (ZH (Z0 s l))) []])
  have h1:=Yj 2 0 (VG s (ZH (Z0 s l))) []
  have h2:=QX s (ZH (Z0 s l)) hs
  rw[U3]at h0
  simp only[ZI,List.length_append,List.length_nil,Nat.add_zero,Nat.zero_add]at h0 h1
  show(ZH (.mk 4 0 [] (l++[.mk 2 0 (VG s (ZH (Z0 s l))) []]))).length<=_
  omega
theorem Nf {b:BlkV}{x:It}(h:Yc b=(x,0))(hd:b.data.length<=3000):(ZH x).length<=4000:=by
 obtain⟨_,hs⟩:=Vz h
 have h0:=Xx hs
 have n1:=YB b.ty
 have n2:=YB b.num
 have n3:=YB b.fl
 have n4:=YB b.sum.toNat
 have n5:=Yj 2 0 b.data []
 simp only[WJ,ZI,List.length_append,List.length_nil,Nat.add_zero,Nat.zero_add]at h0 n5
 omega
theorem Ng {p:PriV}{x:It}(h:Ym p=(x,0)):(ZH x).length<=4000:=by
 obtain⟨hr,hs⟩:=YL h
 have h0:=Xx hs
 obtain⟨h1,h2,h3,h4,h5,h6⟩:=VA hr
 obtain⟨i1,_,_⟩:=Ws.1 h5
 have n1:=YB 7
 have n2:=YB p.fl
 have n3:=YB p.sum.toNat
 have n4:=VB h3
 have n5:=VB i1
 have n6:=VB h4
 have n7:=Ul p.t p.q
 have n8:=YB p.life
 have e7:Ut p.t p.q=.mk 4 0 [] [.mk 0 p.t [] [],.mk 0 p.q [] []]:=rfl
 rw[e7]at n7
 simp only[WL,ZI,List.length_append,List.length_nil,Nat.add_zero,Nat.zero_add]at h0
 omega
abbrev wB1 (c:BlkV):It:=(Yc c).1
abbrev I5 (b:BunV):D:=match UN b with
 | true=>.tup [byE (ZI (YV b)),.bool true]
 | false=>.tup [.sl .ext [],.bool false]
theorem UO:∀(l:List BlkV),(∀ c ∈ l,(Yc c).2=0/\c.data.length<=3000)->(ZI (l.map wB1)).length<=4000*l.length
 | [],_=>by simp[ZI]
 | c::l,h=>by
  have h1:(ZH (wB1 c)).length<=4000:=Nf (x:=(Yc c).1) (Prod.ext rfl (h c (List.mem_cons_self ..)).1) (h c (List.mem_cons_self ..)).2
  have h2:=UO l fun y hy=>h y (List.mem_cons_of_mem _ hy)
  rw[List.map_cons,ZI,List.length_append,List.length_cons]
  omega
theorem Nh [Known][KnownU8](b:BunV)(hb:BunOk b):AP Tryz.prog 57 [.agg (bnC b)] (I5 b) []:=by
 have hW:=Xp b.p hb.fl
 have hlen:=Wn b.bl
 have hUb:=Qx b.bl
 have hl:=hb.len
 unfold I5 UN
 rcases hwp:Ym b.p with⟨x,e⟩
 rw[hwp]at hW
 have hx:=U4 (p:=b.p) hb.fl
 rw[hwp]at hx
 dsimp only[QY]at hW hx
 by_cases he:e=0
 case neg=>
  have te:((e:Int) != 0)=true:=by simpa using he
  have te2:((e:Int)==0)=false:=by simpa using he
  dsimp only
  rw[te2]
  obtain⟨k,n,bb,l⟩:=x
  obtain⟨⟨fl,sum,⟨di,dn,ds,dh,dd⟩,⟨ri,rn,rs,rh,rd⟩,⟨xi,xn,xs,xh,xd⟩,t,q,life⟩,bl⟩:=b
  dsimp only at *
  refine AP.ofA (Zk Tryz.func57 Z Tryz.ntmps57 Z Z ?_)
  repeat'(first|(apply Zb (hW);kernel_rfl;(iterate 4 exact Z))|(apply Zh Za;exact Z)|(apply Ze Za;exact Z)|(apply Zq Za;exact Z)|refine Zd Z Qt ?_)
  all_goals exact Qe
 subst he
 obtain⟨hrP,hsP⟩:=YL hwp
 have hxr:=VC hsP
 have hxl:=Ng hwp
 obtain⟨c0,t0,hp0⟩:=IN x hx hxr
 have hC:=Ho x hx hxr (by omega)
 dsimp only
 rw[show((0:Int)==0)=true from rfl,Bool.true_and]
 have hit:YV b=x::b.bl.map wB1:=by unfold YV;rw[hwp]
 rw[hit,ZI]
 generalize hall:(b.bl.all fun c=>(Yc c).2==0)=A
 rw[hp0]at hC hxl ⊢
 clear hwp hsP hrP hit
 have hxw:=hx
 obtain⟨k,n,bb,l⟩:=x
 clear hx hxw hxr hp0
 obtain⟨⟨fl,sum,⟨di,dn,ds,dh,dd⟩,⟨ri,rn,rs,rh,rd⟩,⟨xi,xn,xs,xh,xd⟩,t,q,life⟩,bl⟩:=b
 obtain⟨_,_,hbl⟩:=hb
 dsimp only at *
 refine AP.ofA (Zk Tryz.func57 Z Tryz.ntmps57 Z Z ?_)
 repeat'(first|(apply Zb (hW);kernel_rfl;(iterate 4 exact Z))|(apply Yz [] [] (hC);kernel_rfl;(iterate 10 exact Z))|(apply Zh Za;exact Z)|(apply Ze Za;exact Z)|refine Zf Z Qt ?_|refine Zm Za Z Z Z Z ?_)
 show AW _ _ _ _
 refine ZW (fun f tm bx fr=>∃(i c:Nat) (L:List E),f+i=bl.length/\c=L.length/\L=(c0::t0++ZI ((bl.take i).map wB1)).map E.byte/\(∀ c ∈ bl.take i,(Yc c).2=0/\c.data.length<=3000)/\((bl.drop i).all fun c=>(Yc c).2==0)=A/\tm=[(6,.sl (.own 0) L),(28,.sl .ext (ZU bl)),(29,.int .i64 ((ZU bl).length:Int)),(30,.int .i64 (i:Int))]/\bx=[]/\fr=[⟨c,1,5⟩]) (bl.length+1) (Lands.mk' (m:=bl.length) (Nat.lt_succ_self _) ⟨0,(c0::t0).length,(c0::t0).map E.byte,by omega,by rw[List.length_map],by simp[ZI],by simp,hall,rfl,rfl,rfl⟩ ?_ rfl rfl rfl rfl rfl rfl) ?_
 ·exact .cons rfl (.cons rfl (.cons rfl (.cons rfl .nil)))
 rintro f tm bx fr ⟨i,c,L,hf,hc,hL,hpre,hA,rfl,rfl,rfl⟩
 subst hc
 have hUL:Uni 1 L:=by rw[hL];exact YR _
 have hLl:L.length=(c0::t0).length+(ZI ((bl.take i).map wB1)).length:=by rw[hL,List.length_map,List.length_append]
 have hpl:=UO _ hpre
 have hti:(bl.take i).length<=1000000:=by rw[List.length_take];omega
 rcases Nat.lt_or_ge i bl.length with hlt|hge
 ·have hdl:decide ((i:Int)<((ZU bl).length:Int))=true:=decide_eq_true (by omega)
  obtain⟨y,hy⟩:∃ y,bl[i]?=some y:=⟨_,List.getElem?_eq_getElem hlt⟩
  have hv:=W3 hy
  obtain⟨hyf,hyd⟩:=hbl y (List.mem_of_getElem? hy)
  have hB:=Ku y hyf hyd
  have hdr:bl.drop i=y::bl.drop (i+1):=by
   rw[List.drop_eq_getElem_cons hlt];congr 1
   exact(List.getElem?_eq_some_iff.1 hy).2
  rw[hdr,List.all_cons]at hA
  have ht1:bl.take (i+1)=bl.take i++[y]:=by rw[List.take_add_one,hy];rfl
  have ei:IntKind.i64.wrap ((i:Int)+1)=((i+1:Nat):Int):=by rw[IntWalk.i64_in _ (by omega)];omega
  rcases hwy:Yc y with⟨z,e⟩
  have hz:=Xn hyf hyd
  rw[hwy]at hB hA hz
  dsimp only[QY]at hB hA hz
  by_cases he:e=0
  case neg=>
   have te:((e:Int) != 0)=true:=by simpa using he
   have te2:((e:Int)==0)=false:=by simpa using he
   rw[te2,Bool.false_and]at hA
   subst hA
   obtain⟨k2,n2,b2,l2⟩:=z
   repeat'(first|(apply Zb (hB);kernel_rfl;(iterate 4 exact Z))|(apply Zh Za;exact Z)|(apply Ze Za;exact Z)|(apply Zq Za;exact Z)|refine Zd Z Qt ?_|(apply Zu Za;(iterate 6 exact Z);(first|exact Qt|rotate_left);(first|with_reducible assumption|decide +kernel|exact Z);(first|exact Zj rfl|with_reducible assumption|decide +kernel|rotate_left)))
   all_goals exact Qe
  subst he
  obtain⟨_,hsy⟩:=Vz hwy
  have hzr:=VC hsy
  have hzl:=Nf hwy hyd
  have hD:=OV z hz (by omega) hzr
  obtain⟨c1,t1,hp1⟩:=IN z hz hzr
  rw[show((0:Int)==0)=true from rfl,Bool.true_and]at hA
  have hLn:L++(c1::t1).map E.byte=(c0::t0++ZI ((bl.take (i+1)).map wB1)).map E.byte:=by
   have e2:(bl.take (i+1)).map wB1=(bl.take i).map wB1++[z]:=by
    rw[ht1,List.map_append]
    show _++[(Yc y).1]=_
    rw[hwy]
   rw[hL,e2,U3]
   simp[ZI,hp1]
  have hpre2:∀ c ∈ bl.take (i+1),(Yc c).2=0/\c.data.length<=3000:=fun c hc=>by
   rw[ht1]at hc
   rcases List.mem_append.1 hc with hc|hc
   ·exact hpre c hc
   ·simp at hc;subst hc;exact⟨by rw[hwy],hyd⟩
  rw[hp1]at hD hzl
  have hU1:=YR (c1::t1)
  clear hwy hsy hzr hp1
  obtain⟨k2,n2,b2,l2⟩:=z
  repeat'(first|(apply Zb (hB);kernel_rfl;(iterate 4 exact Z))|(apply Zb (hD);kernel_rfl;(iterate 4 exact Z))|rw[ei]|(apply Zh Za;exact Z)|(apply Ze Za;exact Z)|refine Zd Z Qt ?_|refine Zf Z Qt ?_|(apply Z1 Za;(iterate 6 exact Z);(first|with_reducible assumption|decide +kernel|exact Z|rotate_left);exact Z;exact Z;(first|exact Zj rfl|with_reducible assumption|decide +kernel|rotate_left);(first|exact Zj rfl|with_reducible assumption|decide +kernel|rotate_left);(first|exact Qt|rotate_left);(first|exact Qt|rotate_left);(first|exact Qt|rotate_left);exact Z;exact Z)|(apply Zu Za;(iterate 6 exact Z);(first|exact Qt|rotate_left);(first|with_reducible assumption|decide +kernel|exact Z);(first|exact Zj rfl|with_reducible assumption|decide +kernel|rotate_left)))
  ·refine Lands.mk' (m:=f-1) (by omega) ⟨i+1,L.length+((c1::t1).map E.byte).length,L++(c1::t1).map E.byte,by omega,by rw[List.length_append],hLn,hpre2,hA,rfl,rfl,rfl⟩ ?_ rfl rfl rfl rfl rfl rfl
   exact .cons rfl (.cons rfl (.cons rfl (.cons rfl .nil)))
  all_goals(first|rfl|(simp only[List.length_append,List.length_cons,List.length_nil,List.length_map,Zw];done)|(simp only[List.length_append,List.length_cons,List.length_nil,List.length_map,Zw]at *;(try unfold maxLen);(try simp only[Nat.add_mul]);omega))
 ·have hdl:decide ((i:Int)<((ZU bl).length:Int))=false:=decide_eq_false (by omega)
  rw[List.drop_eq_nil_of_le hge]at hA
  rw[List.take_of_length_le hge]at hL
  subst hA
  subst hL
  repeat'(first|(apply Ze Za;exact Z)|refine Zf Z Qt ?_)
  all_goals exact Qe
theorem Mv {b:BunV}(hb:BunOk b)(h:UN b=true):∃ c t,ZI (YV b)=c::t:=by
 unfold UN at h
 rw[Bool.and_eq_true,beq_iff_eq]at h
 obtain⟨_,hs⟩:=YL (p:=b.p) (x:=(Ym b.p).1) (Prod.ext rfl h.1)
 obtain⟨c,t,e⟩:=IN _ (U4 (p:=b.p) hb.fl) (VC hs)
 exact⟨c,t++ZI (b.bl.map fun c=>(Yc c).1),by unfold YV;rw[ZI,e];rfl⟩
theorem HI {b:BunV}(hb:BunOk b)(h:UN b=true):(ZI (YV b)).length<=4000+4000*b.bl.length:=by
 unfold UN at h
 simp only[Bool.and_eq_true,beq_iff_eq,List.all_eq_true]at h
 have h1:=Ng (p:=b.p) (x:=(Ym b.p).1) (Prod.ext rfl h.1)
 have h2:=UO b.bl fun c hc=>⟨h.2 c hc,(hb.bl c hc).2⟩
 unfold YV
 rw[ZI,List.length_append]
 have:(ZI (b.bl.map fun c=>(Yc c).1)).length<=4000*b.bl.length:=h2
 omega
abbrev V7 (b:BunV):D:=match ZP b with
 | true=>.tup [byE (Y6 b),.int .i64 0]
 | false=>.tup [.sl .ext [],.int .i64 3]
theorem Um [Known][KnownU8](b:BunV)(hb:BunOk b):AP Tryz.prog 15 [.agg (bnC b)] (V7 b) []:=by
 have hF:=Nd b.bl hb.len fun c hc=>Nat.le_trans (hb.bl c hc).2 (by omega)
 have hI:=Nh b hb
 unfold V7 ZP
 cases t1:XN b.bl with
 | false=>
  rw[t1]at hF
  obtain⟨⟨fl,sum,⟨di,dn,ds,dh,dd⟩,⟨ri,rn,rs,rh,rd⟩,⟨xi,xn,xs,xh,xd⟩,t,q,life⟩,bl⟩:=b
  dsimp only at *
  refine AP.ofA (Zk Tryz.func15 Z Tryz.ntmps15 Z Z ?_)
  repeat'(first|(apply Zb (hF);kernel_rfl;(iterate 4 exact Z))|(apply Zh Za;exact Z)|(apply Ze Za;exact Z)|(apply Zq Za;exact Z)|refine Zd Z Qt ?_)
  all_goals exact Qe
 | true=>
 rw[t1]at hF
 unfold I5 at hI
 cases t2:UN b with
 | false=>
  rw[t2]at hI
  obtain⟨⟨fl,sum,⟨di,dn,ds,dh,dd⟩,⟨ri,rn,rs,rh,rd⟩,⟨xi,xn,xs,xh,xd⟩,t,q,life⟩,bl⟩:=b
  dsimp only at *
  refine AP.ofA (Zk Tryz.func15 Z Tryz.ntmps15 Z Z ?_)
  repeat'(first|(apply Zb (hF);kernel_rfl;(iterate 4 exact Z))|(apply Zb (hI);kernel_rfl;(iterate 4 exact Z))|(apply Zh Za;exact Z)|(apply Ze Za;exact Z)|(apply Zq Za;exact Z)|refine Zp Z Z Z Qt ?_|refine Zl Z Qt Z Z ?_|refine Zd Z Qt ?_|refine Zf Z Qt ?_)
  all_goals exact Qe
 | true=>
 rw[t2]at hI
 obtain⟨c0,t0,hp⟩:=Mv hb t2
 have hl:=HI hb t2
 have hl2:=hb.len
 unfold Y6
 rw[hp]at hI hl ⊢
 have hU:=YR (c0::t0)
 have hlm:((c0::t0).map E.byte).length=(c0::t0).length:=List.length_map ..
 cases t3:decide (((c0::t0).length:Int)<=598) with
 | false=>
  have t4:decide ((((c0::t0).map E.byte).length:Int)>598)=true:=by rw[hlm];simp at t3 ⊢;omega
  obtain⟨⟨fl,sum,⟨di,dn,ds,dh,dd⟩,⟨ri,rn,rs,rh,rd⟩,⟨xi,xn,xs,xh,xd⟩,t,q,life⟩,bl⟩:=b
  dsimp only at *
  refine AP.ofA (Zk Tryz.func15 Z Tryz.ntmps15 Z Z ?_)
  repeat'(first|(apply Zb (hF);kernel_rfl;(iterate 4 exact Z))|(apply Zb (hI);kernel_rfl;(iterate 4 exact Z))|(apply Zh Za;exact Z)|(apply Ze Za;exact Z)|(apply Zq Za;exact Z)|refine Zg Z Z Z Qt ?_|refine Zi Z Qt Z Z ?_|refine Zd Z Qt ?_|refine Zf Z Qt ?_|refine Zm Za Z Z Z Z ?_)
  all_goals exact Qe
 | true=>
  have t4:decide ((((c0::t0).map E.byte).length:Int)>598)=false:=by rw[hlm];simp at t3 ⊢;omega
  have t5:=of_decide_eq_true t3
  have hE:[E.int .u8 159]++(c0::t0).map E.byte++[E.int .u8 255]=(159::(c0::t0++[255])).map E.byte:=by simp
  have hU1:Uni 1 ([E.int .u8 159]++(c0::t0).map E.byte):=(YR [159]).append hU
  obtain⟨⟨fl,sum,⟨di,dn,ds,dh,dd⟩,⟨ri,rn,rs,rh,rd⟩,⟨xi,xn,xs,xh,xd⟩,t,q,life⟩,bl⟩:=b
  dsimp only at *
  refine AP.ofA (Zk Tryz.func15 Z Tryz.ntmps15 Z Z ?_)
  repeat'(first|(apply Zb (hF);kernel_rfl;(iterate 4 exact Z))|(apply Zb (hI);kernel_rfl;(iterate 4 exact Z))|(apply Zh Za;exact Z)|(apply Ze Za;exact Z)|(apply Zq Za;exact Z)|refine Zg Z Z Z Qt ?_|refine Zi Z Qt Z Z ?_|refine Zf Z Qt ?_|refine Zm Za Z Z Z Z ?_|refine ZT Za Z Z Z Z Z Z Z Z Z Z Z Z ?_|(apply Z1 Za;(iterate 6 exact Z);(first|with_reducible assumption|decide +kernel|exact Z|rotate_left);exact Z;exact Z;(first|exact Zj rfl|with_reducible assumption|decide +kernel|rotate_left);(first|exact Zj rfl|with_reducible assumption|decide +kernel|rotate_left);(first|exact Qt|rotate_left);(first|exact Qt|rotate_left);(first|exact Qt|rotate_left);exact Z;exact Z))
  all_goals first|((apply Zo [];(apply Zc Za;exact Z);(iterate 4 exact Z)))|skip
  all_goals first|rfl|(exact congrArg (fun l=>D.tup [.sl .ext l,.int .i64 0]) hE)|(first|rfl|(simp only[List.length_append,List.length_cons,List.length_nil,List.length_map,Zw];done)|(simp only[List.length_append,List.length_cons,List.length_nil,List.length_map,Zw]at *;(try unfold maxLen);(try simp only[Nat.add_mul]);omega))
theorem VF [Known][KnownU8](b:BunV)(hb:BunOk b):AP Tryz.prog 8 [.agg (bnC b)] (.bool (ZP b)) []:=by
 have hW:=Um b hb
 unfold V7 at hW
 cases h:ZP b with
 | false=>
  rw[h]at hW
  obtain⟨⟨fl,sum,⟨di,dn,ds,dh,dd⟩,⟨ri,rn,rs,rh,rd⟩,⟨xi,xn,xs,xh,xd⟩,t,q,life⟩,bl⟩:=b
  dsimp only at *
  refine AP.ofA (Zk Tryz.func8 Z Tryz.ntmps8 Z Z ?_)
  repeat'(first|(apply Zb (hW);kernel_rfl;(iterate 4 exact Z))|(apply Zh Za;exact Z)|(apply Ze Za;exact Z))
  all_goals exact Qe
 | true=>
  rw[h]at hW
  generalize Y6 b=pb at *
  obtain⟨⟨fl,sum,⟨di,dn,ds,dh,dd⟩,⟨ri,rn,rs,rh,rd⟩,⟨xi,xn,xs,xh,xd⟩,t,q,life⟩,bl⟩:=b
  dsimp only at *
  refine AP.ofA (Zk Tryz.func8 Z Tryz.ntmps8 Z Z ?_)
  repeat'(first|(apply Zb (hW);kernel_rfl;(iterate 4 exact Z))|(apply Zh Za;exact Z)|(apply Ze Za;exact Z))
  all_goals exact Qe
def fiQ (q:BlkV->Bool):List BlkV->Nat->Int
 | [],_ => -1
 | c::l,i=>match q c with
  | true=>(i:Int)
  | false=>fiQ q l (i+1)
theorem Xy (q:BlkV->Bool):∀(l:List BlkV) (i:Nat),match l.find? q with
  | none=>fiQ q l i = -1
  | some c=>∃ j:Nat,fiQ q l i=((i+j:Nat):Int)/\l[j]?=some c
 | [],i=>rfl
 | c::l,i=>by
  rw[List.find?_cons,fiQ]
  cases hq:q c with
  | true=>exact⟨0,rfl,rfl⟩
  | false=>
   have h:=Xy q l (i+1)
   dsimp only at h ⊢
   split at h
   ·rename_i e;rw[e];exact h
   ·rename_i c' e
    rw[e]
    obtain⟨j,h1,h2⟩:=h
    exact⟨j+1,by rw[h1];congr 1;omega,h2⟩
abbrev WO (k:Nat)(c:BlkV):Bool:=((c.ty:Int)==(k:Int))
abbrev U7 (k:Nat)(c:BlkV):Bool:=((c.num:Int)==(k:Int))
theorem Mw [Known](c:BlkV)(k:Nat):AQ Tryz.prog 46 [.agg (bkC c),.ptr 0 0] [[.int .u64 (k:Int)]] (.bool (WO k c)) [[.int .u64 (k:Int)]]:=by
 obtain⟨ty,num,fl,sum,data⟩:=c
 refine AQ.weak (Zk Tryz.func46 Z Tryz.ntmps46 Z Z ?_)
 repeat'(first|(apply Ze Za;exact Z))
 all_goals(apply Zo [0];(apply Zc Za;exact Z);(iterate 4 exact Z))
 all_goals rfl
theorem HJ [Known](l:List BlkV)(k:Nat)(hl:l.length<=1000000):AQ Tryz.prog 47 [.sl .ext (ZU l),.fn 46 [.ptr 0 0]] [[.int .u64 (k:Int)]] (.int .i64 (fiQ (WO k) l 0)) [[.int .u64 (k:Int)]]:=by
 have hlen:=Wn l
 have hU:=Qx l
 generalize hfin:fiQ (WO k) l 0=fin
 refine AQ.weak (Zk Tryz.func47 Z Tryz.ntmps47 Z Z ?_)
 repeat'(first|(apply Zh Za;exact Z)|(apply Ze Za;exact Z)|refine Zm Za Z Z Z Z ?_)
 refine ZW (fun f tm bx fr=>∃(i:Nat),f+i=l.length/\fiQ (WO k) (l.drop i) i=fin/\tm=[(0,.sl .ext (ZU l)),(1,.fn 46 [.ptr 0 0]),(4,.int .i64 0),(7,.int .i64 ((ZU l).length:Int)),(8,.int .i64 (i:Int))]/\bx=[[.int .u64 (k:Int)]]/\fr=[]) (l.length+1) (Lands.mk' (m:=l.length) (Nat.lt_succ_self _) ⟨0,by omega,hfin,rfl,rfl,rfl⟩ ?_ rfl rfl rfl rfl rfl rfl) ?_
 ·exact .cons rfl (.cons rfl (.cons rfl (.cons rfl (.cons rfl .nil))))
 rintro f tm bx fr ⟨i,hf,hq,rfl,rfl,rfl⟩
 rcases Nat.lt_or_ge i l.length with hlt|hge
 ·have hdl:decide ((i:Int)<((ZU l).length:Int))=true:=decide_eq_true (by omega)
  obtain⟨c,hy⟩:∃ y,l[i]?=some y:=⟨_,List.getElem?_eq_getElem hlt⟩
  have hv:=W3 hy
  have hc:=Mw c k
  have hdr:l.drop i=c::l.drop (i+1):=by
   rw[List.drop_eq_getElem_cons hlt];congr 1
   exact(List.getElem?_eq_some_iff.1 hy).2
  rw[hdr,fiQ]at hq
  have ei:IntKind.i64.wrap ((i:Int)+1)=((i+1:Nat):Int):=by rw[IntWalk.i64_in _ (by omega)];omega
  cases hb:WO k c with
  | false=>
   rw[hb]at hq hc
   repeat'(first|rw[ei]|(apply UV [0] (hc);exact Z;kernel_rfl;(iterate 7 exact Z))|(apply Zh Za;exact Z)|(apply Ze Za;exact Z)|(apply Zq Za;exact Z)|refine Zd Z Qt ?_|refine Zf Z Qt ?_|(apply Zu Za;(iterate 6 exact Z);(first|exact Qt|rotate_left);(first|with_reducible assumption|decide +kernel|exact Z);(first|exact Zj rfl|with_reducible assumption|decide +kernel|rotate_left)))
   refine Lands.mk' (m:=f-1) (by omega) ⟨i+1,by omega,hq,rfl,rfl,rfl⟩ ?_ rfl rfl rfl rfl rfl rfl
   exact .cons rfl (.cons rfl (.cons rfl (.cons rfl (.cons rfl .nil))))
  | true=>
   rw[hb]at hq hc
   have hq:(i:Int)=fin:=hq
   subst hq
   repeat'(first|(apply UV [0] (hc);exact Z;kernel_rfl;(iterate 7 exact Z))|(apply Zh Za;exact Z)|(apply Ze Za;exact Z)|(apply Zq Za;exact Z)|refine Zd Z Qt ?_|refine Vo ?_|(apply Zu Za;(iterate 6 exact Z);(first|exact Qt|rotate_left);(first|with_reducible assumption|decide +kernel|exact Z);(first|exact Zj rfl|with_reducible assumption|decide +kernel|rotate_left)))
   all_goals(apply Zo [0];(apply Zc Za;exact Z);(iterate 4 exact Z))
   all_goals rfl
 ·have hdl:decide ((i:Int)<((ZU l).length:Int))=false:=decide_eq_false (by omega)
  rw[List.drop_eq_nil_of_le hge]at hq
  have hq:(-1:Int)=fin:=hq
  subst hq
  repeat'(first|(apply Ze Za;exact Z)|refine Zf Z Qt ?_)
  all_goals(apply Zo [0];(apply Zc Za;exact Z);(iterate 4 exact Z))
  all_goals rfl
abbrev UP (r:Option BlkV):D:=match r with
 | some c=>.tup [.agg (bkC c),.bool true]
 | none=>.tup [.agg [.int .u64 0,.int .u64 0,.int .u64 0,.int .i64 0,.sl .ext []],.bool false]
theorem Q3 [Known](b:BunV)(k:Nat)(hl:b.bl.length<=1000000)(hd:∀ c ∈ b.bl,c.data.length<=100000):AP Tryz.prog 12 [.agg (bnC b),.int .u64 (k:Int)] (UP (b.bl.find? (WO k))) []:=by
 have hI:=HJ b.bl k hl
 have hF:=Xy (WO k) b.bl 0
 have hU:=Qx b.bl
 obtain⟨⟨fl,sum,⟨di,dn,ds,dh,dd⟩,⟨ri,rn,rs,rh,rd⟩,⟨xi,xn,xs,xh,xd⟩,t,q,life⟩,bl⟩:=b
 dsimp only at *
 cases hf:bl.find? (WO k) with
 | none=>
  rw[hf]at hF
  dsimp only at hF
  rw[hF]at hI
  dsimp only[UP]
  refine AP.ofA (Zk Tryz.func12 Z Tryz.ntmps12 Z Z ?_)
  repeat'(first|(apply Zz [1] (hI);kernel_rfl;(iterate 7 exact Z))|(apply Zh Za;exact Z)|(apply Ze Za;exact Z)|(apply Zq Za;exact Z)|refine Zd Z Qt ?_)
  all_goals exact Qe
 | some c=>
  rw[hf]at hF
  dsimp only at hF
  obtain⟨j,h1,h2⟩:=hF
  rw[h1,Nat.zero_add]at hI
  have hv:=W3 h2
  have hC:=WW c.data (by have:=hd c (List.mem_of_getElem? h2);omega)
  have t0:decide (((j:Nat):Int)<0)=false:=decide_eq_false (by omega)
  obtain⟨cty,cnum,cfl,csum,cdata⟩:=c
  dsimp only[UP]
  refine AP.ofA (Zk Tryz.func12 Z Tryz.ntmps12 Z Z ?_)
  repeat'(first|(apply Zz [1] (hI);kernel_rfl;(iterate 7 exact Z))|(apply Zb (hC);kernel_rfl;(iterate 4 exact Z))|(apply Zh Za;exact Z)|(apply Ze Za;exact Z)|refine Zf Z Qt ?_|(apply Zu Za;(iterate 6 exact Z);(first|exact Qt|rotate_left);(first|with_reducible assumption|decide +kernel|exact Z);(first|exact Zj rfl|with_reducible assumption|decide +kernel|rotate_left)))
  all_goals exact Qe
def UQ (c:BlkV):Nat:=match Wq c 7 != 0 with
 | true=>0
 | false=>(JI c.data).1
def XO (b:BunV):Nat:=match b.bl.find? (WO 7) with
 | some c=>UQ c
 | none=>0
theorem Mx [Known][KnownU8](b:BunV)(hb:BunOk b):AP Tryz.prog 93 [.agg (bnC b)] (.int .u64 (XO b:Int)) []:=by
 have hF:=Q3 b 7 hb.len (fun c hc=>Nat.le_trans (hb.bl c hc).2 (by omega))
 have hbl:=hb.bl
 unfold XO
 cases hf:b.bl.find? (WO 7) with
 | none=>
  rw[hf]at hF
  dsimp only[UP]at hF ⊢
  clear hb hbl hf
  obtain⟨⟨fl,sum,⟨di,dn,ds,dh,dd⟩,⟨ri,rn,rs,rh,rd⟩,⟨xi,xn,xs,xh,xd⟩,t,q,life⟩,bl⟩:=b
  try dsimp only at *
  refine AP.ofA (Zk Tryz.func93 Z Tryz.ntmps93 Z Z ?_)
  repeat'(first|(apply Zb (hF);kernel_rfl;(iterate 4 exact Z))|(apply Zh Za;exact Z)|(apply Ze Za;exact Z)|(apply Zq Za;exact Z)|refine Zd Z Qt ?_)
  all_goals exact Qe
 | some c=>
  rw[hf]at hF
  have hA:AP Tryz.prog 103 [.agg (bkC c)] (.tup [.int .u64 (UQ c:Int),.int .i64 (Wq c 7)]) []:=by
   unfold UQ
   exact O6 c (Nat.le_trans (hbl c (List.mem_of_find?_eq_some hf)).2 (by omega))
  dsimp only[UP]at hF ⊢
  clear hb hbl hf
  generalize UQ c=ag at *
  generalize Wq c 7=e at *
  obtain⟨cty,cnum,cfl,csum,cdata⟩:=c
  obtain⟨⟨fl,sum,⟨di,dn,ds,dh,dd⟩,⟨ri,rn,rs,rh,rd⟩,⟨xi,xn,xs,xh,xd⟩,t,q,life⟩,bl⟩:=b
  try dsimp only at *
  refine AP.ofA (Zk Tryz.func93 Z Tryz.ntmps93 Z Z ?_)
  repeat'(first|(apply Zb (hF);kernel_rfl;(iterate 4 exact Z))|(apply Zb (hA);kernel_rfl;(iterate 4 exact Z))|(apply Zh Za;exact Z)|(apply Ze Za;exact Z)|refine Zf Z Qt ?_)
  all_goals exact Qe
def KB (t life:Nat)(old here now:Int):Int:=match decide ((t:Int)>0) with
 | true=>match decide (now<(t:Int)) with
  | true=>IntKind.u64.wrap ((life:Int)+IntKind.u64.wrap ((t:Int)-now))
  | false=>match decide (IntKind.u64.wrap (now-(t:Int)) ≥ (life:Int)) with
   | true=>0
   | false=>IntKind.u64.wrap ((life:Int)-IntKind.u64.wrap (now-(t:Int)))
 | false=>match decide (IntKind.u64.wrap (old+here) ≥ (life:Int)) with
  | true=>0
  | false=>IntKind.u64.wrap ((life:Int)-IntKind.u64.wrap (old+here))
theorem Ni [Known](p:PriV)(old here now:Int):AP Tryz.prog 92 [.agg (prC p),.int .u64 old,.int .u64 here,.int .u64 now] (.int .u64 (KB p.t p.life old here now)) []:=by
 obtain⟨fl,sum,⟨di,dn,ds,dh,dd⟩,⟨ri,rn,rs,rh,rd⟩,⟨xi,xn,xs,xh,xd⟩,t,q,life⟩:=p
 unfold KB
 dsimp only
 cases t0:decide ((t:Int)>0) with
 | true=>
  cases t1:decide (now<(t:Int)) with
  | true=>
   refine AP.ofA (Zk Tryz.func92 Z Tryz.ntmps92 Z Z ?_)
   repeat'(first|(apply Ze Za;exact Z)|(apply Zq Za;exact Z)|refine Zd Z Qt ?_)
   all_goals exact Qe
  | false=>
   cases t2:decide (IntKind.u64.wrap (now-(t:Int)) ≥ (life:Int))
   all_goals
    refine AP.ofA (Zk Tryz.func92 Z Tryz.ntmps92 Z Z ?_)
    repeat'(first|(apply Ze Za;exact Z)|(apply Zq Za;exact Z)|refine Zd Z Qt ?_|refine Zf Z Qt ?_)
    all_goals exact Qe
 | false=>
  cases t2:decide (IntKind.u64.wrap (old+here) ≥ (life:Int))
  all_goals
   refine AP.ofA (Zk Tryz.func92 Z Tryz.ntmps92 Z Z ?_)
   repeat'(first|(apply Ze Za;exact Z)|(apply Zq Za;exact Z)|refine Zd Z Qt ?_|refine Zf Z Qt ?_)
   all_goals exact Qe
def VH (b:BunV)(since now:Int):Int:=match ZP b with
 | false=>3
 | true=>match decide (since>now)||decide (now>1099511627776) with
  | true=>1
  | false=>0
theorem GQ [Known][KnownU8](b:BunV)(hb:BunOk b)(since now:Int):AP Tryz.prog 50 [.agg (bnC b),.int .u64 since,.int .u64 now] (.int .i64 (VH b since now)) []:=by
 have hR:=VF b hb
 unfold VH
 clear hb
 generalize ZP b=r at *
 obtain⟨⟨fl,sum,⟨di,dn,ds,dh,dd⟩,⟨ri,rn,rs,rh,rd⟩,⟨xi,xn,xs,xh,xd⟩,t,q,life⟩,bl⟩:=b
 cases r<;>cases t1:decide (since>now)<;>cases t2:decide (now>1099511627776)
 all_goals
  refine AP.ofA (Zk Tryz.func50 Z Tryz.ntmps50 Z Z ?_)
  repeat'(first|(apply Zb (hR);kernel_rfl;(iterate 4 exact Z))|(apply Zh Za;exact Z)|(apply Ze Za;exact Z)|(apply Zq Za;exact Z)|refine Zg Z Z Z Qt ?_|refine Zp Z Z Z Qt ?_|refine Zl Z Qt Z Z ?_|refine Zi Z Qt Z Z ?_|refine Zd Z Qt ?_|refine Zf Z Qt ?_)
  all_goals exact Qe
def VO (b:BunV)(since now:Int):Int × Int:=match VH b since now != 0 with
 | true=>(0,VH b since now)
 | false=>(KB b.p.t b.p.life (XO b:Int) (IntKind.u64.wrap (now-since)) now,0)
theorem Nj [Known][KnownU8](b:BunV)(hb:BunOk b)(since now:Int):AP Tryz.prog 45 [.agg (bnC b),.int .u64 since,.int .u64 now] (.tup [.int .u64 (VO b since now).1,.int .i64 (VO b since now).2]) []:=by
 have hK:=GQ b hb since now
 have hA:=Mx b hb
 have hL:=Ni b.p (XO b:Int) (IntKind.u64.wrap (now-since)) now
 unfold VO
 clear hb
 generalize VH b since now=e at *
 generalize KB b.p.t b.p.life (XO b:Int) (IntKind.u64.wrap (now-since)) now=r at *
 generalize XO b=ag at *
 obtain⟨⟨fl,sum,⟨di,dn,ds,dh,dd⟩,⟨ri,rn,rs,rh,rd⟩,⟨xi,xn,xs,xh,xd⟩,t,q,life⟩,bl⟩:=b
 try dsimp only at *
 cases t1:(e != 0) with
 | true=>
  refine AP.ofA (Zk Tryz.func45 Z Tryz.ntmps45 Z Z ?_)
  repeat'(first|(apply Zb (hK);kernel_rfl;(iterate 4 exact Z))|(apply Zh Za;exact Z)|(apply Ze Za;exact Z)|(apply Zq Za;exact Z)|refine Zd Z Qt ?_)
  all_goals exact Qe
 | false=>
  refine AP.ofA (Zk Tryz.func45 Z Tryz.ntmps45 Z Z ?_)
  repeat'(first|(apply Zb (hK);kernel_rfl;(iterate 4 exact Z))|(apply Zb (hA);kernel_rfl;(iterate 4 exact Z))|(apply Zb (hL);kernel_rfl;(iterate 4 exact Z))|(apply Zh Za;exact Z)|(apply Ze Za;exact Z)|refine Zf Z Qt ?_|(apply Zn 8 ZF;decide +kernel;kernel_rfl;kernel_rfl;kernel_rfl;exact Z;exact Z)|(apply Zs;(iterate 4 exact Z))|exact AE.nil _ _ _ _|(apply Zx;exact Z)|(apply ZA;exact Z;exact Z;decide +kernel;exact Z)|(apply ZB;exact Z)|exact AO.nil _ _ _|(apply Zr;(decide +kernel))|exact AOs.nil|exact ZM rfl rfl)
  all_goals exact Qe
def V8 (b:BunV)(since now:Int):Bool:=(VO b since now).2==0&&(VO b since now).1==0
theorem Id [Known][KnownU8](b:BunV)(hb:BunOk b)(since now:Int):AP Tryz.prog 11 [.agg (bnC b),.int .u64 since,.int .u64 now] (.tup [.bool (V8 b since now),.int .i64 (VO b since now).2]) []:=by
 have hL:=Nj b hb since now
 unfold V8
 clear hb
 generalize (VO b since now).1=n at *
 generalize (VO b since now).2=e at *
 obtain⟨⟨fl,sum,⟨di,dn,ds,dh,dd⟩,⟨ri,rn,rs,rh,rd⟩,⟨xi,xn,xs,xh,xd⟩,t,q,life⟩,bl⟩:=b
 cases t1:(e==0)
 all_goals
  refine AP.ofA (Zk Tryz.func11 Z Tryz.ntmps11 Z Z ?_)
  repeat'(first|(apply Zb (hL);kernel_rfl;(iterate 4 exact Z))|(apply Zh Za;exact Z)|(apply Ze Za;exact Z)|refine Zg Z Z Z Qt ?_|refine Zv Z Z Z Qt ?_|refine Zl Z Qt Z Z ?_|refine Zi Z Qt Z Z ?_)
  all_goals exact Qe
theorem My [Known](c:BlkV)(k:Nat):AQ Tryz.prog 101 [.agg (bkC c),.ptr 0 0] [[.int .u64 (k:Int)]] (.bool (U7 k c)) [[.int .u64 (k:Int)]]:=by
 obtain⟨ty,num,fl,sum,data⟩:=c
 refine AQ.weak (Zk Tryz.func101 Z Tryz.ntmps101 Z Z ?_)
 repeat'(first|(apply Ze Za;exact Z))
 all_goals(apply Zo [0];(apply Zc Za;exact Z);(iterate 4 exact Z))
 all_goals rfl
theorem HK [Known](l:List BlkV)(k:Nat)(hl:l.length<=1000000):AQ Tryz.prog 47 [.sl .ext (ZU l),.fn 101 [.ptr 0 0]] [[.int .u64 (k:Int)]] (.int .i64 (fiQ (U7 k) l 0)) [[.int .u64 (k:Int)]]:=by
 have hlen:=Wn l
 have hU:=Qx l
 generalize hfin:fiQ (U7 k) l 0=fin
 refine AQ.weak (Zk Tryz.func47 Z Tryz.ntmps47 Z Z ?_)
 repeat'(first|(apply Zh Za;exact Z)|(apply Ze Za;exact Z)|refine Zm Za Z Z Z Z ?_)
 refine ZW (fun f tm bx fr=>∃(i:Nat),f+i=l.length/\fiQ (U7 k) (l.drop i) i=fin/\tm=[(0,.sl .ext (ZU l)),(1,.fn 101 [.ptr 0 0]),(4,.int .i64 0),(7,.int .i64 ((ZU l).length:Int)),(8,.int .i64 (i:Int))]/\bx=[[.int .u64 (k:Int)]]/\fr=[]) (l.length+1) (Lands.mk' (m:=l.length) (Nat.lt_succ_self _) ⟨0,by omega,hfin,rfl,rfl,rfl⟩ ?_ rfl rfl rfl rfl rfl rfl) ?_
 ·exact .cons rfl (.cons rfl (.cons rfl (.cons rfl (.cons rfl .nil))))
 rintro f tm bx fr ⟨i,hf,hq,rfl,rfl,rfl⟩
 rcases Nat.lt_or_ge i l.length with hlt|hge
 ·have hdl:decide ((i:Int)<((ZU l).length:Int))=true:=decide_eq_true (by omega)
  obtain⟨c,hy⟩:∃ y,l[i]?=some y:=⟨_,List.getElem?_eq_getElem hlt⟩
  have hv:=W3 hy
  have hc:=My c k
  have hdr:l.drop i=c::l.drop (i+1):=by
   rw[List.drop_eq_getElem_cons hlt];congr 1
   exact(List.getElem?_eq_some_iff.1 hy).2
  rw[hdr,fiQ]at hq
  have ei:IntKind.i64.wrap ((i:Int)+1)=((i+1:Nat):Int):=by rw[IntWalk.i64_in _ (by omega)];omega
  cases hb:U7 k c with
  | false=>
   rw[hb]at hq hc
   repeat'(first|rw[ei]|(apply UV [0] (hc);exact Z;kernel_rfl;(iterate 7 exact Z))|(apply Zh Za;exact Z)|(apply Ze Za;exact Z)|(apply Zq Za;exact Z)|refine Zd Z Qt ?_|refine Zf Z Qt ?_|(apply Zu Za;(iterate 6 exact Z);(first|exact Qt|rotate_left);(first|with_reducible assumption|decide +kernel|exact Z);(first|exact Zj rfl|with_reducible assumption|decide +kernel|rotate_left)))
   refine Lands.mk' (m:=f-1) (by omega) ⟨i+1,by omega,hq,rfl,rfl,rfl⟩ ?_ rfl rfl rfl rfl rfl rfl
   exact .cons rfl (.cons rfl (.cons rfl (.cons rfl (.cons rfl .nil))))
  | true=>
   rw[hb]at hq hc
   have hq:(i:Int)=fin:=hq
   subst hq
   repeat'(first|(apply UV [0] (hc);exact Z;kernel_rfl;(iterate 7 exact Z))|(apply Zh Za;exact Z)|(apply Ze Za;exact Z)|(apply Zq Za;exact Z)|refine Zd Z Qt ?_|refine Vo ?_|(apply Zu Za;(iterate 6 exact Z);(first|exact Qt|rotate_left);(first|with_reducible assumption|decide +kernel|exact Z);(first|exact Zj rfl|with_reducible assumption|decide +kernel|rotate_left)))
   all_goals(apply Zo [0];(apply Zc Za;exact Z);(iterate 4 exact Z))
   all_goals rfl
 ·have hdl:decide ((i:Int)<((ZU l).length:Int))=false:=decide_eq_false (by omega)
  rw[List.drop_eq_nil_of_le hge]at hq
  have hq:(-1:Int)=fin:=hq
  subst hq
  repeat'(first|(apply Ze Za;exact Z)|refine Zf Z Qt ?_)
  all_goals(apply Zo [0];(apply Zc Za;exact Z);(iterate 4 exact Z))
  all_goals rfl
theorem Nk [Known](l:List BlkV)(k:Nat)(hl:l.length<=1000000):AQ Tryz.prog 102 [.sl .ext (ZU l),.fn 101 [.ptr 0 0]] [[.int .u64 (k:Int)]] (.bool (decide (fiQ (U7 k) l 0 ≥ 0))) [[.int .u64 (k:Int)]]:=by
 have hI:=HK l k hl
 generalize fiQ (U7 k) l 0=r at *
 refine AQ.weak (Zk Tryz.func102 Z Tryz.ntmps102 Z Z ?_)
 repeat'(first|(apply Zz [0] (hI);kernel_rfl;(iterate 7 exact Z))|(apply Zh Za;exact Z)|(apply Ze Za;exact Z))
 all_goals(apply Zo [0];(apply Zc Za;exact Z);(iterate 4 exact Z))
 all_goals rfl
theorem Lv (k:Nat)(l:List BlkV):decide (fiQ (U7 k) l 0 ≥ 0)=l.any (U7 k):=by
 have h:=Xy (U7 k) l 0
 cases hf:l.find? (U7 k) with
 | none=>
  rw[hf]at h
  dsimp only at h
  rw[h]
  have:=List.find?_eq_none.1 hf
  rw[List.any_eq_false.2 this]
  rfl
 | some c=>
  rw[hf]at h
  obtain⟨j,h1,_⟩:=h
  rw[h1,List.any_eq_true.2 ⟨c,List.mem_of_find?_eq_some hf,List.find?_some hf⟩]
  exact decide_eq_true (by omega)
theorem KC [Known][KnownU8](ZN:Nat)(sum:Int)(x:EidV):AP Tryz.prog 53 [.int .u64 (ZN:Int),.int .i64 sum,.agg (eC x)] (K2 (ofV 6 ZN sum (if ZJ x then Z8 x else .mk 0 0 [] []) (if ZJ x then 0 else 3))) []:=by
 have hW:=U1 x
 have hwf:wfI (if ZJ x then Z8 x else .mk 0 0 [] []):=by
  cases h:ZJ x with
  | true=>exact Vx h
  | false=>exact GL
 have hlen:(ZH (if ZJ x then Z8 x else .mk 0 0 [] [])).length<=140737488351232:=by
  cases h:ZJ x with
  | false=>
   show(ZH (.mk 0 0 [] [])).length<=140737488351232
   decide +kernel
  | true=>
   show(ZH (Z8 x)).length<=140737488351232
   unfold Z8
   repeat' split
   ·exact Nat.le_trans (Ul 1 0) (by decide)
   ·have h0:=Yj 4 0 [] [.mk 0 2 [] [],Ut x.n x.s]
    have h1:=YB 2
    have h2:=Ul x.n x.s
    simp only[ZI,List.length_append,List.length_nil,Nat.add_zero,Nat.zero_add]at h0
    exact Nat.le_trans h0 (by omega)
   ·have h0:=Yj 4 0 [] [.mk 0 1 [] [],.mk 3 0 (Wb x) []]
    have h1:=YB 1
    have h2:=Yj 3 0 (Wb x) []
    rename_i hz hi
    have h3:(Wb x).length<=100:=by
     have ht:=WZ h (by simpa using hz) (by simpa using hi)
     simp only[Wb,List.length_append,List.length_cons,List.length_nil]
     omega
    simp only[ZI,List.length_append,List.length_nil,Nat.add_zero,Nat.zero_add]at h0 h2
    exact Nat.le_trans h0 (by omega)
 have hO:=T2 6 ZN sum (if ZJ x then Z8 x else .mk 0 0 [] []) (if ZJ x then 0 else 3) hwf hlen
 generalize (if ZJ x then Z8 x else .mk 0 0 [] [])=I at *
 generalize (if ZJ x then(0:Int) else 3)=E0 at *
 clear hwf hlen
 generalize ofV 6 ZN sum I E0=r at *
 obtain⟨xi,xn,xs,xh,xd⟩:=x
 obtain⟨k,n,b,l⟩:=I
 obtain⟨⟨a,b2,c,d,f⟩,e⟩:=r
 refine AP.ofA (Zk Tryz.func53 Z Tryz.ntmps53 Z Z ?_)
 repeat'(first|(apply Zb (hW);kernel_rfl;(iterate 4 exact Z))|(apply Zb (hO);kernel_rfl;(iterate 4 exact Z))|(apply Zh Za;exact Z)|(apply Ze Za;exact Z))
 all_goals exact Qe
theorem HM [Known][KnownU8](b:BlkV)(hd:b.data.length<=140737488351232):AP Tryz.prog 17 [.agg (bkC b)] (.tup [.agg (eC (match Wq b 6 != 0 with|true=>YU|false=>(V4 b.data).1)),.int .i64 (Wq b 6)]) []:=by
 have hA:=IY b 6 hd
 have hG:=JB b.data hd
 generalize Wq b 6=q at *
 generalize (V4 b.data).1=a at *
 generalize (V4 b.data).2=o at *
 obtain⟨ty,num,fl,sum,data⟩:=b
 obtain⟨zi,zn,zs,zh,zd⟩:=a
 cases t1:(q != 0) with
 | true=>
  refine AP.ofA (Zk Tryz.func17 Z Tryz.ntmps17 Z Z ?_)
  repeat'(first|(apply Zb (hA);kernel_rfl;(iterate 4 exact Z))|(apply Zh Za;exact Z)|(apply Ze Za;exact Z)|(apply Zq Za;exact Z)|refine Zd Z Qt ?_)
  all_goals exact Qe
 | false=>
  have eq0:q=0:=by simpa[bne]using t1
  subst eq0
  refine AP.ofA (Zk Tryz.func17 Z Tryz.ntmps17 Z Z ?_)
  repeat'(first|(apply Zb (hA);kernel_rfl;(iterate 4 exact Z))|(apply Zb (hG);kernel_rfl;(iterate 4 exact Z))|(apply Zh Za;exact Z)|(apply Ze Za;exact Z)|refine Zf Z Qt ?_)
  all_goals exact Qe
end Go.Proofs.YtmljabhmajehnaaGreatDoor
end
