/- Package bundle: written. -/
import Derived.Test.YtmljabhmajehnaaGreatDoorO28
import Derived.Test.YtmljabhmajehnaaGreatDoorO13
import Derived.Test.YtmljabhmajehnaaGreatDoorO39
import Derived.Test.YtmljabhmajehnaaGreatDoorO32
import Derived.Test.YtmljabhmajehnaaGreatDoorO37
import Derived.Test.YtmljabhmajehnaaGreatDoorO27
set_option linter.unusedVariables false
set_option linter.unusedSimpArgs false
section
open Go.RowKit Go.Pl Go.Av
namespace Go.Proofs.YtmljabhmajehnaaGreatDoor
set_option maxHeartbeats 4000000
theorem SZ {b:BunV}(hb:BunOk b)(h:QP b=true):∃ c t,ZV (Um b)=c::t:=by
 unfold QP at h
 rw[Bool.and_eq_true,beq_iff_eq]at h
 obtain⟨_,hs⟩:=WE (p:=b.p) (x:=(Wz b.p).1) (Prod.ext rfl h.1)
 obtain⟨c,t,e⟩:=KL _ (Xy (p:=b.p) hb.fl) (Un hs)
 exact⟨c,t++ZV (b.bl.map fun c=>(YM c).1),by unfold Um;rw[ZV,e];rfl⟩
theorem MJ {b:BunV}(hb:BunOk b)(h:QP b=true):(ZV (Um b)).length<=4000+4000*b.bl.length:=by
 unfold QP at h
 simp only[Bool.and_eq_true,beq_iff_eq,List.all_eq_true]at h
 have h1:=Ts (p:=b.p) (x:=(Wz b.p).1) (Prod.ext rfl h.1)
 have h2:=QQ b.bl fun c hc=>⟨h.2 c hc,(hb.bl c hc).2⟩
 unfold Um
 rw[ZV,List.length_append]
 have:(ZV (b.bl.map fun c=>(YM c).1)).length<=4000*b.bl.length:=h2
 omega
abbrev K8 (b:BunV):D:=match Yb b with
 | true=>.tup [byE (L9 b),.int .i64 0]
 | false=>.tup [.sl .ext [],.int .i64 3]
theorem TC [Known][KnownU8](b:BunV)(hb:BunOk b):AP Tryz.prog 15 [.agg (bnC b)] (K8 b) []:=by
 have hF:=B0 b.bl hb.len fun c hc=>Nat.le_trans (hb.bl c hc).2 (by omega)
 have hI:=Rc b hb
 unfold K8 Yb
 cases t1:Tq b.bl with
 | false=>
  rw[t1]at hF
  obtain⟨⟨fl,sum,⟨di,dn,ds,dh,dd⟩,⟨ri,rn,rs,rh,rd⟩,⟨xi,xn,xs,xh,xd⟩,t,q,life⟩,bl⟩:=b
  dsimp only at *
  refine AP.ofA (Zl Tryz.func15 U Tryz.ntmps15 U U ?_)
  repeat'(first|(apply Zb (hF);kernel_rfl;(iterate 4 exact U))|(apply Zh Za;exact U)|(apply Zg Za;exact U)|(apply Zo Za;exact U)|refine Zd U Qt ?_)
  all_goals exact Qe
 | true=>
 rw[t1]at hF
 unfold Tt at hI
 cases t2:QP b with
 | false=>
  rw[t2]at hI
  obtain⟨⟨fl,sum,⟨di,dn,ds,dh,dd⟩,⟨ri,rn,rs,rh,rd⟩,⟨xi,xn,xs,xh,xd⟩,t,q,life⟩,bl⟩:=b
  dsimp only at *
  refine AP.ofA (Zl Tryz.func15 U Tryz.ntmps15 U U ?_)
  repeat'(first|(apply Zb (hF);kernel_rfl;(iterate 4 exact U))|(apply Zb (hI);kernel_rfl;(iterate 4 exact U))|(apply Zh Za;exact U)|(apply Zg Za;exact U)|(apply Zo Za;exact U)|refine Zn U U U Qt ?_|refine Zk U Qt U U ?_|refine Zd U Qt ?_|refine Zf U Qt ?_)
  all_goals exact Qe
 | true=>
 rw[t2]at hI
 obtain⟨c0,t0,hp⟩:=SZ hb t2
 have hl:=MJ hb t2
 have hl2:=hb.len
 unfold L9
 rw[hp]at hI hl ⊢
 have hU:=Ym (c0::t0)
 have hlm:((c0::t0).map E.byte).length=(c0::t0).length:=List.length_map ..
 cases t3:decide (((c0::t0).length:Int)<=598) with
 | false=>
  have t4:decide ((((c0::t0).map E.byte).length:Int)>598)=true:=by rw[hlm];simp at t3 ⊢;omega
  obtain⟨⟨fl,sum,⟨di,dn,ds,dh,dd⟩,⟨ri,rn,rs,rh,rd⟩,⟨xi,xn,xs,xh,xd⟩,t,q,life⟩,bl⟩:=b
  dsimp only at *
  refine AP.ofA (Zl Tryz.func15 U Tryz.ntmps15 U U ?_)
  repeat'(first|(apply Zb (hF);kernel_rfl;(iterate 4 exact U))|(apply Zb (hI);kernel_rfl;(iterate 4 exact U))|(apply Zh Za;exact U)|(apply Zg Za;exact U)|(apply Zo Za;exact U)|refine Ze U U U Qt ?_|refine Zi U Qt U U ?_|refine Zd U Qt ?_|refine Zf U Qt ?_|refine Zm Za U U U U ?_)
  all_goals exact Qe
 | true=>
  have t4:decide ((((c0::t0).map E.byte).length:Int)>598)=false:=by rw[hlm];simp at t3 ⊢;omega
  have t5:=of_decide_eq_true t3
  have hE:[E.int .u8 159]++(c0::t0).map E.byte++[E.int .u8 255]=(159::(c0::t0++[255])).map E.byte:=by simp
  have hU1:Uni 1 ([E.int .u8 159]++(c0::t0).map E.byte):=(Ym [159]).append hU
  obtain⟨⟨fl,sum,⟨di,dn,ds,dh,dd⟩,⟨ri,rn,rs,rh,rd⟩,⟨xi,xn,xs,xh,xd⟩,t,q,life⟩,bl⟩:=b
  dsimp only at *
  refine AP.ofA (Zl Tryz.func15 U Tryz.ntmps15 U U ?_)
  repeat'(first|(apply Zb (hF);kernel_rfl;(iterate 4 exact U))|(apply Zb (hI);kernel_rfl;(iterate 4 exact U))|(apply Zh Za;exact U)|(apply Zg Za;exact U)|(apply Zo Za;exact U)|refine Ze U U U Qt ?_|refine Zi U Qt U U ?_|refine Zf U Qt ?_|refine Zm Za U U U U ?_|refine ZO Za U U U U U U U U U U U U ?_|(apply ZR Za;(iterate 6 exact U);(first|with_reducible assumption|decide +kernel|exact U|rotate_left);exact U;exact U;(first|exact Zj rfl|with_reducible assumption|decide +kernel|rotate_left);(first|exact Zj rfl|with_reducible assumption|decide +kernel|rotate_left);(first|exact Qt|rotate_left);(first|exact Qt|rotate_left);(first|exact Qt|rotate_left);exact U;exact U))
  all_goals first|((apply Zp [];(apply Zc Za;exact U);(iterate 4 exact U)))|skip
  all_goals first|rfl|(exact congrArg (fun l=>D.tup [.sl .ext l,.int .i64 0]) hE)|(first|rfl|(simp only[List.length_append,List.length_cons,List.length_nil,List.length_map,Zv];done)|(simp only[List.length_append,List.length_cons,List.length_nil,List.length_map,Zv]at *;(try unfold maxLen);(try simp only[Nat.add_mul]);omega))
theorem JL [Known][KnownU8](b:BunV)(hb:BunOk b):AP Tryz.prog 8 [.agg (bnC b)] (.bool (Yb b)) []:=by
 have hW:=TC b hb
 unfold K8 at hW
 cases h:Yb b with
 | false=>
  rw[h]at hW
  obtain⟨⟨fl,sum,⟨di,dn,ds,dh,dd⟩,⟨ri,rn,rs,rh,rd⟩,⟨xi,xn,xs,xh,xd⟩,t,q,life⟩,bl⟩:=b
  dsimp only at *
  refine AP.ofA (Zl Tryz.func8 U Tryz.ntmps8 U U ?_)
  repeat'(first|(apply Zb (hW);kernel_rfl;(iterate 4 exact U))|(apply Zh Za;exact U)|(apply Zg Za;exact U))
  all_goals exact Qe
 | true=>
  rw[h]at hW
  generalize L9 b=pb at *
  obtain⟨⟨fl,sum,⟨di,dn,ds,dh,dd⟩,⟨ri,rn,rs,rh,rd⟩,⟨xi,xn,xs,xh,xd⟩,t,q,life⟩,bl⟩:=b
  dsimp only at *
  refine AP.ofA (Zl Tryz.func8 U Tryz.ntmps8 U U ?_)
  repeat'(first|(apply Zb (hW);kernel_rfl;(iterate 4 exact U))|(apply Zh Za;exact U)|(apply Zg Za;exact U))
  all_goals exact Qe
def fiQ (q:BlkV->Bool):List BlkV->Nat->Int
 | [],_ => -1
 | c::l,i=>match q c with
  | true=>(i:Int)
  | false=>fiQ q l (i+1)
theorem U2 (q:BlkV->Bool):∀(l:List BlkV) (i:Nat),match l.find? q with
  | none=>fiQ q l i = -1
  | some c=>∃ j:Nat,fiQ q l i=((i+j:Nat):Int)/\l[j]?=some c
 | [],i=>rfl
 | c::l,i=>by
  rw[List.find?_cons,fiQ]
  cases hq:q c with
  | true=>exact⟨0,rfl,rfl⟩
  | false=>
   have h:=U2 q l (i+1)
   dsimp only at h ⊢
   split at h
   ·rename_i e;rw[e];exact h
   ·rename_i c' e
    rw[e]
    obtain⟨j,h1,h2⟩:=h
    exact⟨j+1,by rw[h1];congr 1;omega,h2⟩
abbrev Wt (k:Nat)(c:BlkV):Bool:=((c.ty:Int)==(k:Int))
abbrev V4 (k:Nat)(c:BlkV):Bool:=((c.num:Int)==(k:Int))
theorem S0 [Known](c:BlkV)(k:Nat):AQ Tryz.prog 46 [.agg (bkC c),.ptr 0 0] [[.int .u64 (k:Int)]] (.bool (Wt k c)) [[.int .u64 (k:Int)]]:=by
 obtain⟨ty,num,fl,sum,data⟩:=c
 refine AQ.weak (Zl Tryz.func46 U Tryz.ntmps46 U U ?_)
 repeat'(first|(apply Zg Za;exact U))
 all_goals(apply Zp [0];(apply Zc Za;exact U);(iterate 4 exact U))
 all_goals rfl
theorem MK [Known](l:List BlkV)(k:Nat)(hl:l.length<=1000000):AQ Tryz.prog 47 [.sl .ext (ZP l),.fn 46 [.ptr 0 0]] [[.int .u64 (k:Int)]] (.int .i64 (fiQ (Wt k) l 0)) [[.int .u64 (k:Int)]]:=by
 have hlen:=Yx l
 have hU:=Vl l
 generalize hfin:fiQ (Wt k) l 0=fin
 refine AQ.weak (Zl Tryz.func47 U Tryz.ntmps47 U U ?_)
 repeat'(first|(apply Zh Za;exact U)|(apply Zg Za;exact U)|refine Zm Za U U U U ?_)
 refine ZJ (fun f tm bx fr=>∃(i:Nat),f+i=l.length/\fiQ (Wt k) (l.drop i) i=fin/\tm=[(0,.sl .ext (ZP l)),(1,.fn 46 [.ptr 0 0]),(4,.int .i64 0),(7,.int .i64 ((ZP l).length:Int)),(8,.int .i64 (i:Int))]/\bx=[[.int .u64 (k:Int)]]/\fr=[]) (l.length+1) (Lands.mk' (m:=l.length) (Nat.lt_succ_self _) ⟨0,by omega,hfin,rfl,rfl,rfl⟩ ?_ rfl rfl rfl rfl rfl rfl) ?_
 ·exact .cons rfl (.cons rfl (.cons rfl (.cons rfl (.cons rfl .nil))))
 rintro f tm bx fr ⟨i,hf,hq,rfl,rfl,rfl⟩
 rcases Nat.lt_or_ge i l.length with hlt|hge
 ·have hdl:decide ((i:Int)<((ZP l).length:Int))=true:=decide_eq_true (by omega)
  obtain⟨c,hy⟩:∃ y,l[i]?=some y:=⟨_,List.getElem?_eq_getElem hlt⟩
  have hv:=Yy hy
  have hc:=S0 c k
  have hdr:l.drop i=c::l.drop (i+1):=by
   rw[List.drop_eq_getElem_cons hlt];congr 1
   exact(List.getElem?_eq_some_iff.1 hy).2
  rw[hdr,fiQ]at hq
  have ei:IntKind.i64.wrap ((i:Int)+1)=((i+1:Nat):Int):=by rw[IntWalk.i64_in _ (by omega)];omega
  cases hb:Wt k c with
  | false=>
   rw[hb]at hq hc
   repeat'(first|rw[ei]|(apply Q0 [0] (hc);exact U;kernel_rfl;(iterate 7 exact U))|(apply Zh Za;exact U)|(apply Zg Za;exact U)|(apply Zo Za;exact U)|refine Zd U Qt ?_|refine Zf U Qt ?_|(apply Zu Za;(iterate 6 exact U);(first|exact Qt|rotate_left);(first|with_reducible assumption|decide +kernel|exact U);(first|exact Zj rfl|with_reducible assumption|decide +kernel|rotate_left)))
   refine Lands.mk' (m:=f-1) (by omega) ⟨i+1,by omega,hq,rfl,rfl,rfl⟩ ?_ rfl rfl rfl rfl rfl rfl
   exact .cons rfl (.cons rfl (.cons rfl (.cons rfl (.cons rfl .nil))))
  | true=>
   rw[hb]at hq hc
   have hq:(i:Int)=fin:=hq
   subst hq
   repeat'(first|(apply Q0 [0] (hc);exact U;kernel_rfl;(iterate 7 exact U))|(apply Zh Za;exact U)|(apply Zg Za;exact U)|(apply Zo Za;exact U)|refine Zd U Qt ?_|refine Z0 ?_|(apply Zu Za;(iterate 6 exact U);(first|exact Qt|rotate_left);(first|with_reducible assumption|decide +kernel|exact U);(first|exact Zj rfl|with_reducible assumption|decide +kernel|rotate_left)))
   all_goals(apply Zp [0];(apply Zc Za;exact U);(iterate 4 exact U))
   all_goals rfl
 ·have hdl:decide ((i:Int)<((ZP l).length:Int))=false:=decide_eq_false (by omega)
  rw[List.drop_eq_nil_of_le hge]at hq
  have hq:(-1:Int)=fin:=hq
  subst hq
  repeat'(first|(apply Zg Za;exact U)|refine Zf U Qt ?_)
  all_goals(apply Zp [0];(apply Zc Za;exact U);(iterate 4 exact U))
  all_goals rfl
abbrev QV (r:Option BlkV):D:=match r with
 | some c=>.tup [.agg (bkC c),.bool true]
 | none=>.tup [.agg [.int .u64 0,.int .u64 0,.int .u64 0,.int .i64 0,.sl .ext []],.bool false]
theorem IZ [Known](b:BunV)(k:Nat)(hl:b.bl.length<=1000000)(hd:∀ c ∈ b.bl,c.data.length<=100000):AP Tryz.prog 12 [.agg (bnC b),.int .u64 (k:Int)] (QV (b.bl.find? (Wt k))) []:=by
 have hI:=MK b.bl k hl
 have hF:=U2 (Wt k) b.bl 0
 have hU:=Vl b.bl
 obtain⟨⟨fl,sum,⟨di,dn,ds,dh,dd⟩,⟨ri,rn,rs,rh,rd⟩,⟨xi,xn,xs,xh,xd⟩,t,q,life⟩,bl⟩:=b
 dsimp only at *
 cases hf:bl.find? (Wt k) with
 | none=>
  rw[hf]at hF
  dsimp only at hF
  rw[hF]at hI
  dsimp only[QV]
  refine AP.ofA (Zl Tryz.func12 U Tryz.ntmps12 U U ?_)
  repeat'(first|(apply ZC [1] (hI);kernel_rfl;(iterate 7 exact U))|(apply Zh Za;exact U)|(apply Zg Za;exact U)|(apply Zo Za;exact U)|refine Zd U Qt ?_)
  all_goals exact Qe
 | some c=>
  rw[hf]at hF
  dsimp only at hF
  obtain⟨j,h1,h2⟩:=hF
  rw[h1,Nat.zero_add]at hI
  have hv:=Yy h2
  have hC:=UL c.data (by have:=hd c (List.mem_of_getElem? h2);omega)
  have t0:decide (((j:Nat):Int)<0)=false:=decide_eq_false (by omega)
  obtain⟨cty,cnum,cfl,csum,cdata⟩:=c
  dsimp only[QV]
  refine AP.ofA (Zl Tryz.func12 U Tryz.ntmps12 U U ?_)
  repeat'(first|(apply ZC [1] (hI);kernel_rfl;(iterate 7 exact U))|(apply Zb (hC);kernel_rfl;(iterate 4 exact U))|(apply Zh Za;exact U)|(apply Zg Za;exact U)|refine Zf U Qt ?_|(apply Zu Za;(iterate 6 exact U);(first|exact Qt|rotate_left);(first|with_reducible assumption|decide +kernel|exact U);(first|exact Zj rfl|with_reducible assumption|decide +kernel|rotate_left)))
  all_goals exact Qe
abbrev bnS (p:PriV)(d:D):List D:=[.int .u64 (p.fl:Int),.int .i64 p.sum,.bool p.dest.i,.int .u64 (p.dest.n:Int),.int .u64 (p.dest.s:Int),.str p.dest.h,.str p.dest.d,.bool p.rep.i,.int .u64 (p.rep.n:Int),.int .u64 (p.rep.s:Int),.str p.rep.h,.str p.rep.d,.bool p.src.i,.int .u64 (p.src.n:Int),.int .u64 (p.src.s:Int),.str p.src.h,.str p.src.d,.int .u64 (p.t:Int),.int .u64 (p.q:Int),.int .u64 (p.life:Int),d]
abbrev zBs:List D:=[.int .u64 0,.int .i64 0,.bool false,.int .u64 0,.int .u64 0,.str [],.str [],.bool false,.int .u64 0,.int .u64 0,.str [],.str [],.bool false,.int .u64 0,.int .u64 0,.str [],.str [],.int .u64 0,.int .u64 0,.int .u64 0,.sl .nil []]
theorem Rz [Known](b:BunV)(hl:b.bl.length<=1000000):AP Tryz.prog 34 [.agg (bnC b)] (.agg (bnC b)) []:=by
 have hP:=Dd b.p
 have hlen:=Yx b.bl
 have hUb:=Vl b.bl
 obtain⟨⟨fl,sum,⟨di,dn,ds,dh,dd⟩,⟨ri,rn,rs,rh,rd⟩,⟨xi,xn,xs,xh,xd⟩,t,q,life⟩,l⟩:=b
 dsimp only at *
 refine AP.ofA (Zl Tryz.func34 U Tryz.ntmps34 U U ?_)
 repeat'(first|(apply Zb (hP);kernel_rfl;(iterate 4 exact U))|(apply Zh Za;exact U)|(apply Zg Za;exact U))
 refine ZJ (fun f tm bx fr=>∃(i c:Nat) (L:List E),f+i=l.length/\c=L.length/\L=ZP (l.take i)/\tm=[(1,.ptr 0 0),(3,.ptr 2 0),(2,.ptr 1 0),(4,.int .i64 (i:Int))] /\
  ((i=0/\bx=[bnS ⟨fl,sum,⟨di,dn,ds,dh,dd⟩,⟨ri,rn,rs,rh,rd⟩,⟨xi,xn,xs,xh,xd⟩,t,q,life⟩ (.sl .ext (ZP l)),zBs,bnS ⟨fl,sum,⟨di,dn,ds,dh,dd⟩,⟨ri,rn,rs,rh,rd⟩,⟨xi,xn,xs,xh,xd⟩,t,q,life⟩ (.sl .nil [])]/\fr=[]) \/
  (bx=[bnS ⟨fl,sum,⟨di,dn,ds,dh,dd⟩,⟨ri,rn,rs,rh,rd⟩,⟨xi,xn,xs,xh,xd⟩,t,q,life⟩ (.sl .ext (ZP l)),zBs,bnS ⟨fl,sum,⟨di,dn,ds,dh,dd⟩,⟨ri,rn,rs,rh,rd⟩,⟨xi,xn,xs,xh,xd⟩,t,q,life⟩ (.sl (.own 0) L)]/\fr=[⟨c,5,88⟩]))) (l.length+1) (Lands.mk' (m:=l.length) (Nat.lt_succ_self _) ⟨0,0,[],rfl,rfl,rfl,rfl,.inl ⟨rfl,rfl,rfl⟩⟩ ?_ rfl rfl rfl rfl rfl rfl) ?_
 ·exact .cons rfl (.cons rfl (.cons rfl (.cons rfl .nil)))
 rintro f tm bx fr ⟨i,c,L,hf,hc,hL,rfl,hst⟩
 rcases Nat.lt_or_ge i l.length with hlt|hge
 ·have hdl:decide ((i:Int)<((ZP l).length:Int))=true:=decide_eq_true (by omega)
  obtain⟨y,hy⟩:∃ y,l[i]?=some y:=⟨_,List.getElem?_eq_getElem hlt⟩
  have hv:=Yy hy
  have hc7:=Da y
  have ei:IntKind.i64.wrap ((i:Int)+1)=((i+1:Nat):Int):=by rw[IntWalk.i64_in _ (by omega)];omega
  have hs:L++[bkE y]=ZP (l.take (i+1)):=by
   rw[hL,List.take_add_one,hy];exact(List.map_append (f:=bkE) (l₁:=l.take i) (l₂:=[y])).symm
  have hU5:Uni 5 L:=hL ▸ Vl (l.take i)
  have hUc:=Vl [y]
  have hbl:=Yx (l.take i)
  rw[<- hL,List.length_take]at hbl
  subst hc
  rcases hst with⟨rfl,rfl,rfl⟩ | ⟨rfl,rfl⟩
  ·repeat'(first|(apply Zb (hc7);kernel_rfl;(iterate 4 exact U))|rw[ei]|refine ZT Za U U U U U U (Zj rfl) (List.cons_ne_nil _ _) U Qd Qd U U U ?_|(apply Zh Za;exact U)|(apply Zg Za;exact U)|(apply Zo Za;exact U)|(apply Zd;exact U;(first|with_reducible assumption|decide +kernel|(solve|simp only[bn])))|refine Zm Za U U U U ?_|refine ZO Za U U U U U U U U U U U U ?_|(apply Zq 9 ZF;decide +kernel;kernel_rfl;kernel_rfl;kernel_rfl;exact U;exact U)|(apply Zt;(iterate 4 exact U))|exact AE.nil _ _ _ _|(apply Zw;exact U)|(apply Zz;exact U;exact U;decide +kernel;exact U)|(apply ZA;exact U)|exact AO.nil _ _ _|(apply Zs;(decide +kernel))|exact AOs.nil|exact ZI rfl rfl|exact W6 rfl rfl rfl rfl rfl|(apply Zu Za;(iterate 6 exact U);(first|exact Qt|rotate_left);(first|with_reducible assumption|decide +kernel|exact U);(first|exact Zj rfl|with_reducible assumption|decide +kernel|rotate_left)))
   refine Lands.mk' (m:=f-1) (by omega) ⟨1,1,[bkE y],by omega,rfl,by rw[<- hs,hL];rfl,rfl,.inr ⟨rfl,rfl⟩⟩ ?_ rfl rfl rfl rfl rfl rfl
   exact .cons rfl (.cons rfl (.cons rfl (.cons rfl .nil)))
  ·repeat'(first|(apply Zb (hc7);kernel_rfl;(iterate 4 exact U))|rw[ei]|(apply Zh Za;exact U)|(apply Zg Za;exact U)|(apply Zo Za;exact U)|(apply Zd;exact U;(first|with_reducible assumption|decide +kernel|(solve|simp only[bn])))|refine Zm Za U U U U ?_|refine ZO Za U U U U U U U U U U U U ?_|(apply Zq 9 ZF;decide +kernel;kernel_rfl;kernel_rfl;kernel_rfl;exact U;exact U)|(apply Zt;(iterate 4 exact U))|exact AE.nil _ _ _ _|(apply Zw;exact U)|(apply Zz;exact U;exact U;decide +kernel;exact U)|(apply ZA;exact U)|exact AO.nil _ _ _|(apply Zs;(decide +kernel))|exact AOs.nil|exact ZI rfl rfl|exact W6 rfl rfl rfl rfl rfl|(apply ZR Za;(iterate 6 exact U);(first|with_reducible assumption|decide +kernel|exact U|rotate_left);exact U;exact U;(first|exact Zj rfl|with_reducible assumption|decide +kernel|rotate_left);(first|exact Zj rfl|with_reducible assumption|decide +kernel|rotate_left);(first|exact Qt|rotate_left);(first|exact Qt|rotate_left);(first|exact Qt|rotate_left);exact U;exact U)|(apply Zu Za;(iterate 6 exact U);(first|exact Qt|rotate_left);(first|with_reducible assumption|decide +kernel|exact U);(first|exact Zj rfl|with_reducible assumption|decide +kernel|rotate_left)))
   ·refine Lands.mk' (m:=f-1) (by omega) ⟨i+1,L.length+1,_,by omega,by rw[List.length_append];rfl,hs,rfl,.inr ⟨rfl,rfl⟩⟩ ?_ rfl rfl rfl rfl rfl rfl
    exact .cons rfl (.cons rfl (.cons rfl (.cons rfl .nil)))
   all_goals(first|rfl|(simp only[List.length_append,List.length_cons,List.length_nil,List.length_map,Zv];done)|(simp only[List.length_append,List.length_cons,List.length_nil,List.length_map,Zv]at *;(try unfold maxLen);(try simp only[Nat.add_mul]);omega))
 ·have hdl:decide ((i:Int)<((ZP l).length:Int))=false:=decide_eq_false (by omega)
  rw[List.take_of_length_le hge]at hL
  subst hL
  rcases hst with⟨rfl,rfl,rfl⟩ | ⟨rfl,rfl⟩
  ·have:l=[]:=List.eq_nil_of_length_eq_zero (by omega)
   subst this
   repeat'(first|(apply Zh Za;exact U)|(apply Zg Za;exact U)|(apply Zo Za;exact U)|(apply Zf;exact U;(first|with_reducible assumption|decide +kernel|(solve|simp only[bn])))|refine Zm Za U U U U ?_)
   all_goals exact Qe
  ·repeat'(first|(apply Zh Za;exact U)|(apply Zg Za;exact U)|(apply Zo Za;exact U)|(apply Zf;exact U;(first|with_reducible assumption|decide +kernel|(solve|simp only[bn])))|refine Zm Za U U U U ?_)
   all_goals exact Qe
theorem RA (l:List BlkV)(k n:Nat)(c:BlkV):W3 (l++[c]) k n=W3 l k n+(if HE k n c then 1 else 0):=by
 unfold W3
 rw[List.countP_append]
 simp[List.countP_cons]
theorem Ji [Known](b:BunV)(kind ZQ:Nat)(hl:b.bl.length<=1000000):AP Tryz.prog 81 [.agg (bnC b),.int .u64 (kind:Int),.int .u64 (ZQ:Int)] (.int .i64 (W3 b.bl kind ZQ:Int)) []:=by
 have hlen:=Yx b.bl
 have hUb:=Vl b.bl
 obtain⟨⟨fl,sum,⟨di,dn,ds,dh,dd⟩,⟨ri,rn,rs,rh,rd⟩,⟨xi,xn,xs,xh,xd⟩,t,q,life⟩,l⟩:=b
 dsimp only at *
 refine AP.ofA (Zl Tryz.func81 U Tryz.ntmps81 U U ?_)
 repeat'(first|(apply Zg Za;exact U))
 refine ZJ (fun f tm bx fr=>∃(i:Nat),f+i=l.length/\tm=[(1,.int .u64 (kind:Int)),(2,.int .u64 (ZQ:Int)),(3,.ptr 0 0),(7,.int .i64 (W3 (l.take i) kind ZQ:Int)),(8,.int .i64 (i:Int))]/\bx=[bnS ⟨fl,sum,⟨di,dn,ds,dh,dd⟩,⟨ri,rn,rs,rh,rd⟩,⟨xi,xn,xs,xh,xd⟩,t,q,life⟩ (.sl .ext (ZP l))]/\fr=[]) (l.length+1) (Lands.mk' (m:=l.length) (Nat.lt_succ_self _) ⟨0,rfl,rfl,rfl,rfl⟩ ?_ rfl rfl rfl rfl rfl rfl) ?_
 ·exact .cons rfl (.cons rfl (.cons rfl (.cons rfl (.cons rfl .nil))))
 rintro f tm bx fr ⟨i,hf,rfl,rfl,rfl⟩
 rcases Nat.lt_or_ge i l.length with hlt|hge
 ·have hdl:decide ((i:Int)<((ZP l).length:Int))=true:=decide_eq_true (by omega)
  obtain⟨y,hy⟩:∃ y,l[i]?=some y:=⟨_,List.getElem?_eq_getElem hlt⟩
  have hv:=Yy hy
  have ei:IntKind.i64.wrap ((i:Int)+1)=((i+1:Nat):Int):=by rw[IntWalk.i64_in _ (by omega)];omega
  have hcl:W3 (l.take i) kind ZQ<=(l.take i).length:=List.countP_le_length
  rw[List.length_take]at hcl
  have hn:W3 (l.take (i+1)) kind ZQ=W3 (l.take i) kind ZQ+(if HE kind ZQ y then 1 else 0):=by
   rw[List.take_add_one,hy];exact RA _ _ _ _
  unfold HE at hn
  generalize W3 (l.take i) kind ZQ=m at *
  have em:IntKind.i64.wrap ((m:Int)+1)=((m+1:Nat):Int):=by rw[IntWalk.i64_in _ (by omega)];omega
  cases t1:decide ((kind:Int)>0)<;>cases t2:((y.ty:Int)==(kind:Int))<;>cases t3:((kind:Int)==0)<;>cases t4:((y.num:Int)==(ZQ:Int))<;>rw[t1,t2,t3,t4]at hn
  all_goals repeat'(first|rw[ei]|rw[em]|(apply Zh Za;exact U)|(apply Zg Za;exact U)|(apply Zo Za;exact U)|(apply Ze;(iterate 3 exact U);(first|with_reducible assumption|decide +kernel|(solve|simp only[bn])))|(apply Zr;(iterate 3 exact U);(first|with_reducible assumption|decide +kernel|(solve|simp only[bn])))|(apply Zn;(iterate 3 exact U);(first|with_reducible assumption|decide +kernel|(solve|simp only[bn])))|refine UE U U U ?_|(apply Zk;exact U;(first|with_reducible assumption|decide +kernel|(solve|simp only[bn]));exact U;exact U)|(apply Zi;exact U;(first|with_reducible assumption|decide +kernel|(solve|simp only[bn]));exact U;exact U)|(apply Zd;exact U;(first|with_reducible assumption|decide +kernel|(solve|simp only[bn])))|(apply Zf;exact U;(first|with_reducible assumption|decide +kernel|(solve|simp only[bn])))|refine Zm Za U U U U ?_|(apply Zu Za;(iterate 6 exact U);(first|exact Qt|rotate_left);(first|with_reducible assumption|decide +kernel|exact U);(first|exact Zj rfl|with_reducible assumption|decide +kernel|rotate_left)))
  all_goals refine Lands.mk' (m:=f-1) (by omega) ⟨i+1,by omega,by rw[hn],rfl,rfl⟩ ?_ rfl rfl rfl rfl rfl rfl
  all_goals exact .cons rfl (.cons rfl (.cons rfl (.cons rfl (.cons rfl .nil))))
 ·have hdl:decide ((i:Int)<((ZP l).length:Int))=false:=decide_eq_false (by omega)
  rw[List.take_of_length_le hge]
  repeat'(first|(apply Zh Za;exact U)|(apply Zg Za;exact U)|(apply Zo Za;exact U)|(apply Zf;exact U;(first|with_reducible assumption|decide +kernel|(solve|simp only[bn])))|refine Zm Za U U U U ?_)
  all_goals exact Qe
theorem XL [Known](b:BunV)(kind:Nat)(hl:b.bl.length<=1000000):AP Tryz.prog 37 [.agg (bnC b),.int .u64 (kind:Int)] (.int .i64 (fiQ (Wt kind) b.bl 0)) []:=by
 have hlen:=Yx b.bl
 have hUb:=Vl b.bl
 obtain⟨⟨fl,sum,⟨di,dn,ds,dh,dd⟩,⟨ri,rn,rs,rh,rd⟩,⟨xi,xn,xs,xh,xd⟩,t,q,life⟩,l⟩:=b
 dsimp only at *
 generalize hfin:fiQ (Wt kind) l 0=fin
 refine AP.ofA (Zl Tryz.func37 U Tryz.ntmps37 U U ?_)
 repeat'(first|(apply Zg Za;exact U))
 refine ZJ (fun f tm bx fr=>∃(i:Nat),f+i=l.length/\fiQ (Wt kind) (l.drop i) i=fin/\tm=[(1,.int .u64 (kind:Int)),(2,.ptr 0 0),(5,.int .i64 (i:Int))]/\bx=[bnS ⟨fl,sum,⟨di,dn,ds,dh,dd⟩,⟨ri,rn,rs,rh,rd⟩,⟨xi,xn,xs,xh,xd⟩,t,q,life⟩ (.sl .ext (ZP l))]/\fr=[]) (l.length+1) (Lands.mk' (m:=l.length) (Nat.lt_succ_self _) ⟨0,by omega,hfin,rfl,rfl,rfl⟩ ?_ rfl rfl rfl rfl rfl rfl) ?_
 ·exact .cons rfl (.cons rfl (.cons rfl .nil))
 rintro f tm bx fr ⟨i,hf,hq,rfl,rfl,rfl⟩
 rcases Nat.lt_or_ge i l.length with hlt|hge
 ·have hdl:decide ((i:Int)<((ZP l).length:Int))=true:=decide_eq_true (by omega)
  obtain⟨y,hy⟩:∃ y,l[i]?=some y:=⟨_,List.getElem?_eq_getElem hlt⟩
  have hv:=Yy hy
  have hdr:l.drop i=y::l.drop (i+1):=by
   rw[List.drop_eq_getElem_cons hlt];congr 1
   exact(List.getElem?_eq_some_iff.1 hy).2
  rw[hdr,fiQ]at hq
  have ei:IntKind.i64.wrap ((i:Int)+1)=((i+1:Nat):Int):=by rw[IntWalk.i64_in _ (by omega)];omega
  unfold Wt at hq
  cases t1:((y.ty:Int)==(kind:Int)) with
  | false=>
   rw[t1]at hq
   repeat'(first|rw[ei]|(apply Zh Za;exact U)|(apply Zg Za;exact U)|(apply Zo Za;exact U)|(apply Zd;exact U;(first|with_reducible assumption|decide +kernel|(solve|simp only[bn])))|(apply Zf;exact U;(first|with_reducible assumption|decide +kernel|(solve|simp only[bn])))|refine Zm Za U U U U ?_|(apply Zu Za;(iterate 6 exact U);(first|exact Qt|rotate_left);(first|with_reducible assumption|decide +kernel|exact U);(first|exact Zj rfl|with_reducible assumption|decide +kernel|rotate_left)))
   refine Lands.mk' (m:=f-1) (by omega) ⟨i+1,by omega,hq,rfl,rfl,rfl⟩ ?_ rfl rfl rfl rfl rfl rfl
   exact .cons rfl (.cons rfl (.cons rfl .nil))
  | true=>
   rw[t1]at hq
   have hq:(i:Int)=fin:=hq
   subst hq
   repeat'(first|(apply Zh Za;exact U)|(apply Zg Za;exact U)|(apply Zo Za;exact U)|(apply Zd;exact U;(first|with_reducible assumption|decide +kernel|(solve|simp only[bn])))|refine Z0 ?_|refine Zm Za U U U U ?_|(apply Zu Za;(iterate 6 exact U);(first|exact Qt|rotate_left);(first|with_reducible assumption|decide +kernel|exact U);(first|exact Zj rfl|with_reducible assumption|decide +kernel|rotate_left)))
   all_goals exact Qe
 ·have hdl:decide ((i:Int)<((ZP l).length:Int))=false:=decide_eq_false (by omega)
  rw[List.drop_eq_nil_of_le hge]at hq
  have hq:(-1:Int)=fin:=hq
  subst hq
  repeat'(first|(apply Zh Za;exact U)|(apply Zg Za;exact U)|(apply Zo Za;exact U)|(apply Zf;exact U;(first|with_reducible assumption|decide +kernel|(solve|simp only[bn])))|refine Zm Za U U U U ?_)
  all_goals exact Qe
theorem FS [Known](fl sm t q life:Nat)(sum:Int)(di:Bool)(dn ds:Nat)(dh dd:List UInt8)(ri:Bool)(rn rs:Nat)(rh rd:List UInt8)(xi:Bool)(xn xs:Nat)(xh xd:List UInt8)(ak:Int)(an:Nat)(ab:List UInt8)(al:List It)(bk:Int)(bn:Nat)(bb:List UInt8)(bl:List It)(ck:Int)(cn:Nat)(cb:List UInt8)(cl:List It)(sk:Int)(sn:Nat)(sb:List UInt8)(sl:List It)(ok:Bool)(e2:IntKind.u64.wrap sum=(sm:Int))
  (hL:AP Tryz.prog 122 [.sl .ext [nmE t,nmE q]] (.agg [.int .i64 4,.int .u64 0,.sl .ext [],.sl .ext [nmE t,nmE q]]) [])
  (hD:AP Tryz.prog 90 [.agg [.bool di,.int .u64 (dn:Int),.int .u64 (ds:Int),.str dh,.str dd]] (.agg (itC ak an ab al)) [])
  (hX:AP Tryz.prog 90 [.agg [.bool xi,.int .u64 (xn:Int),.int .u64 (xs:Int),.str xh,.str xd]] (.agg (itC ck cn cb cl)) [])
  (hR:AP Tryz.prog 90 [.agg [.bool ri,.int .u64 (rn:Int),.int .u64 (rs:Int),.str rh,.str rd]] (.agg (itC bk bn bb bl)) [])
  (hS:AP Tryz.prog 123 [.sl .ext [nmE 7,nmE fl,nmE sm,.agg [.int .i64 ak,.int .u64 (an:Int),.sl (ab.map E.byte),.sl (Zx al)],.agg [.int .i64 ck,.int .u64 (cn:Int),.sl (cb.map E.byte),.sl (Zx cl)],.agg [.int .i64 bk,.int .u64 (bn:Int),.sl (bb.map E.byte),.sl (Zx bl)],.agg [.int .i64 4,.int .u64 0,.sl [],.sl [nmE t,nmE q]],nmE life],.int .i64 sum] (.tup [.agg (itC sk sn sb sl),.bool ok]) []) :
  AP Tryz.prog 79 [.agg [.int .u64 (fl:Int),.int .i64 sum,.bool di,.int .u64 (dn:Int),.int .u64 (ds:Int),.str dh,.str dd,.bool ri,.int .u64 (rn:Int),.int .u64 (rs:Int),.str rh,.str rd,.bool xi,.int .u64 (xn:Int),.int .u64 (xs:Int),.str xh,.str xd,.int .u64 (t:Int),.int .u64 (q:Int),.int .u64 (life:Int)]] (.agg (itC sk sn sb sl)) []:=by
 refine AP.ofA (Zl Tryz.func79 U Tryz.ntmps79 U U ?_)
 repeat'(first|(apply Zb (hL);kernel_rfl;(iterate 4 exact U))|rw[e2]|(apply Zb (hD);kernel_rfl;(iterate 4 exact U))|(apply Zb (hX);kernel_rfl;(iterate 4 exact U))|(apply Zb (hR);kernel_rfl;(iterate 4 exact U))|(apply Zb (hS);kernel_rfl;(iterate 4 exact U))|(apply Zh Za;exact U)|(apply Zg Za;exact U)|refine ZO Za U U U U U U U U U U U U ?_|(apply Zq 22 ZF;decide +kernel;kernel_rfl;kernel_rfl;kernel_rfl;exact U;exact U)|(apply Zt;(iterate 4 exact U))|exact AE.nil _ _ _ _|(apply Zw;exact U)|(apply Zz;exact U;exact U;decide +kernel;exact U)|(apply ZA;exact U)|exact AO.nil _ _ _|(apply Zs;(decide +kernel))|exact AOs.nil|exact ZI rfl rfl)
 all_goals exact Qe
theorem TD [Known][KnownU8](p:PriV)(h:Yr p=true)(hfl:p.fl<18446744073709551616):AP Tryz.prog 79 [.agg (prC p)] (itD (Va p)) []:=by
 obtain⟨h1,h2,h3,h4,h5,h6⟩:=Vy h
 obtain⟨i1,_,_⟩:=WS.1 h5
 have hS:=KY (YG p) p.sum.toNat (by omega) (L8 h hfl) (by rw[Ic];omega) (by have:=(X1 h).1;omega) (B3 h p.sum.toNat (by omega))
 have e1:((p.sum.toNat:Nat):Int)=p.sum:=by omega
 have e2:IntKind.u64.wrap p.sum=((p.sum.toNat:Nat):Int):=by rw[IntKind.wrap_u64];omega
 rw[e1]at hS
 have hD:=Wh p.dest h3
 have hR:=Wh p.rep h4
 have hX:=Wh p.src i1
 have hL:=XC [nmE p.t,nmE p.q]
 unfold Va
 generalize Y7 (YG p) p.sum.toNat=S at *
 unfold YG at hS
 obtain⟨fl,sum,d,r,x,t,q,life⟩:=p
 dsimp only at *
 generalize ZW d=I1 at *
 generalize ZW r=I2 at *
 generalize ZW x=I3 at *
 obtain⟨di,dn,ds,dh,dd⟩:=d
 obtain⟨ri,rn,rs,rh,rd⟩:=r
 obtain⟨xi,xn,xs,xh,xd⟩:=x
 obtain⟨ak,an,ab,al⟩:=I1
 obtain⟨bk,bn,bb,bl⟩:=I2
 obtain⟨ck,cn,cb,cl⟩:=I3
 obtain⟨⟨k,n,b,l⟩,ok⟩:=S
 exact FS fl sum.toNat t q life sum di dn ds dh dd ri rn rs rh rd xi xn xs xh xd ak an ab al bk bn bb bl ck cn cb cl k n b l ok e2 hL hD hX hR hS
def Z9 (r b:Nat):Nat:=if r ≥ b then r-b else r
def X8 (fl:Nat):Nat:=Z9 (Z9 (Z9 (Z9 (Z9 (Z9 fl 262144) 131072) 16384) 32) 4) 2
theorem ML:∀ a,a<128->∀ c,c<128->((Z9 (Z9 (Z9 (a*128+c) 32) 4) 2==0)=(((a*128+c) &&& 18446744073709141977)==0)):=by decide +kernel
theorem RC (x:Nat)(h:x<16384):((Z9 (Z9 (Z9 x 32) 4) 2==0)=((x &&& 18446744073709141977)==0)):=by
 have e:x=x/128*128+x % 128:=by omega
 have:=ML (x/128) (by omega) (x % 128) (by omega)
 rw[<- e]at this
 exact this
theorem RD:∀ x,x<32->((Z9 (Z9 (Z9 x 16) 8) 1==0)=((x &&& (18446744073709141977/16384))==0)):=by decide +kernel
theorem MM (M h l b:Nat)(hl:l<M):Z9 (h*M+l) (b*M)=Z9 h b*M+l:=by
 unfold Z9
 by_cases hb:h ≥ b
 ·have h1:b*M<=h*M:=Nat.mul_le_mul_right M hb
  have h2:h*M+l ≥ b*M:=by omega
  rw[if_pos hb,if_pos h2,Nat.sub_mul]
  omega
 ·have h1:(h+1)*M<=b*M:=Nat.mul_le_mul_right M (by omega)
  rw[Nat.add_mul,Nat.one_mul]at h1
  have h2:¬ h*M+l ≥ b*M:=by omega
  rw[if_neg hb,if_neg h2]
theorem K9 (h l b:Nat)(hl:l<16384):Z9 (h*16384+l) (b*16384)=Z9 h b*16384+l:=MM 16384 h l b hl
theorem U3 (z b:Nat):z-b<=Z9 z b:=by
 unfold Z9
 split<;>omega
theorem NG {y:Nat}(h:16384<=y):(Z9 (Z9 (Z9 y 32) 4) 2==0)=false:=by
 have h1:=U3 y 32
 generalize Z9 y 32=a at *
 have h2:=U3 a 4
 generalize Z9 a 4=c at *
 have h3:=U3 c 2
 generalize Z9 c 2=d at *
 rw[beq_eq_false_iff_ne]
 omega
theorem RF {y:Nat}(h:32<=y):1<=Z9 (Z9 (Z9 y 16) 8) 1:=by
 have h1:=U3 y 16
 generalize Z9 y 16=a at *
 have h2:=U3 a 8
 generalize Z9 a 8=c at *
 have h3:=U3 c 1
 generalize Z9 c 1=d at *
 omega
theorem TF (fl:Nat)(h:fl<18446744073709551616):(bits .andNot .u64 (fl:Int) 409638==0)=(X8 fl==0):=by
 rw[show(409638:Int)=((409638:Nat):Int) from rfl,u64_andNot_nat fl 409638 h (by omega)]
 rw[show(18446744073709551615-409638:Nat)=18446744073709141977 from rfl]
 have hs:fl=fl/16384*16384+fl % 16384:=by omega
 have hlo:=RC (fl % 16384) (Nat.mod_lt _ (by omega))
 have e:∀ x:Nat,((((fl &&& 18446744073709141977:Nat)):Int)==0)=((fl &&& 18446744073709141977)==0):=fun _=>by
  rw[Bool.eq_iff_iff,beq_iff_eq,beq_iff_eq];omega
 rw[e 0]
 have hd:(fl &&& 18446744073709141977)/16384=(fl/16384) &&& (18446744073709141977/16384):=by
  rw[show(16384:Nat)=2 ^ 14 from rfl,<- Nat.shiftRight_eq_div_pow,<- Nat.shiftRight_eq_div_pow,<- Nat.shiftRight_eq_div_pow,Nat.shiftRight_and_distrib]
 have hm:(fl &&& 18446744073709141977) % 16384=(fl % 16384 &&& 18446744073709141977) % 16384:=by
  rw[show(16384:Nat)=2 ^ 14 from rfl,<- Nat.and_two_pow_sub_one_eq_mod,<- Nat.and_two_pow_sub_one_eq_mod,<- Nat.and_two_pow_sub_one_eq_mod]
  apply Nat.eq_of_testBit_eq
  intro i
  simp only[Nat.testBit_and]
  cases fl.testBit i<;>cases(18446744073709141977:Nat).testBit i<;>cases((2 ^ 14-1:Nat)).testBit i<;>rfl
 have hl2:(fl % 16384 &&& 18446744073709141977)<16384:=Nat.lt_of_le_of_lt Nat.and_le_left (Nat.mod_lt _ (by omega))
 rw[Nat.mod_eq_of_lt hl2]at hm
 have hr:X8 fl=Z9 (Z9 (Z9 (Z9 (Z9 (Z9 (fl/16384) 16) 8) 1*16384+fl % 16384) 32) 4) 2:=by
  unfold X8
  have hlt:=Nat.mod_lt fl (show 16384>0 by omega)
  conv=>lhs;rw[hs]
  rw[show(262144:Nat)=16*16384 from rfl,K9 _ _ _ hlt,show(131072:Nat)=8*16384 from rfl,K9 _ _ _ hlt]
  have:=K9 (Z9 (Z9 (fl/16384) 16) 8) (fl % 16384) 1 hlt
  rw[Nat.one_mul]at this
  rw[this]
 rw[hr]
 by_cases h32:fl/16384<32
 ·have hhi:=RD _ h32
  cases hh:(Z9 (Z9 (Z9 (fl/16384) 16) 8) 1==0) with
  | true=>
   rw[hh]at hhi
   have h0:Z9 (Z9 (Z9 (fl/16384) 16) 8) 1=0:=by simpa using hh
   have h1:(fl/16384) &&& (18446744073709141977/16384)=0:=by simpa using hhi.symm
   rw[h0,Nat.zero_mul,Nat.zero_add,hlo]
   rw[h1]at hd
   rw[Bool.eq_iff_iff,beq_iff_eq,beq_iff_eq]
   omega
  | false=>
   rw[hh]at hhi
   have h0:Z9 (Z9 (Z9 (fl/16384) 16) 8) 1 ≠ 0:=by simpa using hh
   have h1:(fl/16384) &&& (18446744073709141977/16384) ≠ 0:=by simpa using hhi.symm
   have e1:((fl &&& 18446744073709141977)==0)=false:=by
    rw[beq_eq_false_iff_ne]
    intro h2
    rw[h2]at hd
    exact h1 (by omega)
   rw[e1]
   symm
   exact NG (by omega)
 ·have h1:(fl/16384) &&& (18446744073709141977/16384) ≠ 0:=fun h2=>by
   have h3:((fl/16384) &&& (18446744073709141977/16384))/32=fl/16384/32:=by
    rw[show(32:Nat)=2 ^ 5 from rfl,<- Nat.shiftRight_eq_div_pow,<- Nat.shiftRight_eq_div_pow,Nat.shiftRight_and_distrib,Nat.shiftRight_eq_div_pow,Nat.shiftRight_eq_div_pow]
    rw[show(18446744073709141977/16384/2 ^ 5:Nat)=2 ^ 45-1 from by decide,Nat.and_two_pow_sub_one_eq_mod,Nat.mod_eq_of_lt (by omega)]
   rw[h2]at h3
   omega
  have e1:((fl &&& 18446744073709141977)==0)=false:=by
   rw[beq_eq_false_iff_ne]
   intro h2
   rw[h2]at hd
   exact h1 (by omega)
  rw[e1]
  symm
  have h4:=RF (y:=fl/16384) (by omega)
  exact NG (by omega)
end Go.Proofs.YtmljabhmajehnaaGreatDoor
end
