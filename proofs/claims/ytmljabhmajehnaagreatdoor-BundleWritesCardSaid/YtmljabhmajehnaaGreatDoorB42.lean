/- Package bundle: written. -/
import Derived.Test.YtmljabhmajehnaaGreatDoorB30
import Derived.Test.YtmljabhmajehnaaGreatDoorB13
import Derived.Test.YtmljabhmajehnaaGreatDoorB41
set_option linter.unusedVariables false
set_option linter.unusedSimpArgs false
section
open Go.RowKit Go.Pl Go.Av
namespace Go.Proofs.YtmljabhmajehnaaGreatDoor
set_option maxHeartbeats 4000000
theorem SI {b:BunV}(hb:BunOk b)(h:Qp b=true):∃ c t,ZJ (Wo b)=c::t:=by
 unfold Qp at h
 rw[Bool.and_eq_true,beq_iff_eq]at h
 obtain⟨_,hs⟩:=Wd (p:=b.p) (x:=(YB b.p).1) (Prod.ext rfl h.1)
 obtain⟨c,t,e⟩:=Ky _ (UM (p:=b.p) hb.fl) (W7 hs)
 exact⟨c,t++ZJ (b.bl.map fun c=>(Yc c).1),by unfold Wo;rw[ZJ,e];rfl⟩
theorem Mu {b:BunV}(hb:BunOk b)(h:Qp b=true):(ZJ (Wo b)).length<=4000+4000*b.bl.length:=by
 unfold Qp at h
 simp only[Bool.and_eq_true,beq_iff_eq,List.all_eq_true]at h
 have h1:=Tj (p:=b.p) (x:=(YB b.p).1) (Prod.ext rfl h.1)
 have h2:=QO b.bl fun c hc=>⟨h.2 c hc,(hb.bl c hc).2⟩
 unfold Wo
 rw[ZJ,List.length_append]
 have:(ZJ (b.bl.map fun c=>(Yc c).1)).length<=4000*b.bl.length:=h2
 omega
abbrev Uj (b:BunV):D:=match Yl b with
 | true=>.tup [byE (Vt b),.int .i64 0]
 | false=>.tup [.sl .ext [],.int .i64 3]
theorem Uk [Known][KnownU8](b:BunV)(hb:BunOk b):AP Tryz.prog 15 [.agg (bnC b)] (Uj b) []:=by
 have hF:=BH b.bl hb.len fun c hc=>Nat.le_trans (hb.bl c hc).2 (by omega)
 have hI:=LV b hb
 unfold Uj Yl
 cases t1:Og b.bl with
 | false=>
  rw[t1]at hF
  obtain⟨⟨fl,sum,⟨di,dn,ds,dh,dd⟩,⟨ri,rn,rs,rh,rd⟩,⟨xi,xn,xs,xh,xd⟩,t,q,life⟩,bl⟩:=b
  dsimp only at *
  refine AP.ofA (Zl Tryz.func15 U Tryz.ntmps15 U U ?_)
  repeat'(first|(apply Zb (hF);kernel_rfl;(iterate 4 exact U))|(apply Zh Za;exact U)|(apply Zg Za;exact U)|(apply Zo Za;exact U)|refine Zd U Qt ?_)
  all_goals exact Qe
 | true=>
 rw[t1]at hF
 unfold Tk at hI
 cases t2:Qp b with
 | false=>
  rw[t2]at hI
  obtain⟨⟨fl,sum,⟨di,dn,ds,dh,dd⟩,⟨ri,rn,rs,rh,rd⟩,⟨xi,xn,xs,xh,xd⟩,t,q,life⟩,bl⟩:=b
  dsimp only at *
  refine AP.ofA (Zl Tryz.func15 U Tryz.ntmps15 U U ?_)
  repeat'(first|(apply Zb (hF);kernel_rfl;(iterate 4 exact U))|(apply Zb (hI);kernel_rfl;(iterate 4 exact U))|(apply Zh Za;exact U)|(apply Zg Za;exact U)|(apply Zo Za;exact U)|refine Zn U U U Qt ?_|refine Zj U Qt U U ?_|refine Zd U Qt ?_|refine Zf U Qt ?_)
  all_goals exact Qe
 | true=>
 rw[t2]at hI
 obtain⟨c0,t0,hp⟩:=SI hb t2
 have hl:=Mu hb t2
 have hl2:=hb.len
 unfold Vt
 rw[hp]at hI hl ⊢
 have hU:=Ym (c0::t0)
 have hlm:((c0::t0).map E.byte).length=(c0::t0).length:=List.length_map ..
 cases t3:decide (((c0::t0).length:Int)<=598) with
 | false=>
  have t4:decide ((((c0::t0).map E.byte).length:Int)>598)=true:=by rw[hlm];simp at t3 ⊢;omega
  obtain⟨⟨fl,sum,⟨di,dn,ds,dh,dd⟩,⟨ri,rn,rs,rh,rd⟩,⟨xi,xn,xs,xh,xd⟩,t,q,life⟩,bl⟩:=b
  dsimp only at *
  refine AP.ofA (Zl Tryz.func15 U Tryz.ntmps15 U U ?_)
  repeat'(first|(apply Zb (hF);kernel_rfl;(iterate 4 exact U))|(apply Zb (hI);kernel_rfl;(iterate 4 exact U))|(apply Zh Za;exact U)|(apply Zg Za;exact U)|(apply Zo Za;exact U)|refine Ze U U U Qt ?_|refine Zi U Qt U U ?_|refine Zd U Qt ?_|refine Zf U Qt ?_|refine Zm Za U U U U ?_)
  all_goals exact Qe
 | true=>
  have t4:decide ((((c0::t0).map E.byte).length:Int)>598)=false:=by rw[hlm];simp at t3 ⊢;omega
  have t5:=of_decide_eq_true t3
  have hE:[E.int .u8 159]++(c0::t0).map E.byte++[E.int .u8 255]=(159::(c0::t0++[255])).map E.byte:=by simp
  have hU1:Uni 1 ([E.int .u8 159]++(c0::t0).map E.byte):=(Ym [159]).append hU
  obtain⟨⟨fl,sum,⟨di,dn,ds,dh,dd⟩,⟨ri,rn,rs,rh,rd⟩,⟨xi,xn,xs,xh,xd⟩,t,q,life⟩,bl⟩:=b
  dsimp only at *
  refine AP.ofA (Zl Tryz.func15 U Tryz.ntmps15 U U ?_)
  repeat'(first|(apply Zb (hF);kernel_rfl;(iterate 4 exact U))|(apply Zb (hI);kernel_rfl;(iterate 4 exact U))|(apply Zh Za;exact U)|(apply Zg Za;exact U)|(apply Zo Za;exact U)|refine Ze U U U Qt ?_|refine Zi U Qt U U ?_|refine Zf U Qt ?_|refine Zm Za U U U U ?_|refine ZO Za U U U U U U U U U U U U ?_|(apply ZS Za;(iterate 6 exact U);(first|with_reducible assumption|decide +kernel|exact U|rotate_left);exact U;exact U;(first|exact Zk rfl|with_reducible assumption|decide +kernel|rotate_left);(first|exact Zk rfl|with_reducible assumption|decide +kernel|rotate_left);(first|exact Qt|rotate_left);(first|exact Qt|rotate_left);(first|exact Qt|rotate_left);exact U;exact U))
  all_goals first|((apply Zp [];(apply Zc Za;exact U);(iterate 4 exact U)))|skip
  all_goals first|rfl|(exact congrArg (fun l=>D.tup [.sl .ext l,.int .i64 0]) hE)|(first|rfl|(simp only[List.length_append,List.length_cons,List.length_nil,List.length_map,Zw];done)|(simp only[List.length_append,List.length_cons,List.length_nil,List.length_map,Zw]at *;(try unfold maxLen);(try simp only[Nat.add_mul]);omega))
theorem K3 [Known][KnownU8](b:BunV)(hb:BunOk b):AP Tryz.prog 8 [.agg (bnC b)] (.bool (Yl b)) []:=by
 have hW:=Uk b hb
 unfold Uj at hW
 cases h:Yl b with
 | false=>
  rw[h]at hW
  obtain⟨⟨fl,sum,⟨di,dn,ds,dh,dd⟩,⟨ri,rn,rs,rh,rd⟩,⟨xi,xn,xs,xh,xd⟩,t,q,life⟩,bl⟩:=b
  dsimp only at *
  refine AP.ofA (Zl Tryz.func8 U Tryz.ntmps8 U U ?_)
  repeat'(first|(apply Zb (hW);kernel_rfl;(iterate 4 exact U))|(apply Zh Za;exact U)|(apply Zg Za;exact U))
  all_goals exact Qe
 | true=>
  rw[h]at hW
  generalize Vt b=pb at *
  obtain⟨⟨fl,sum,⟨di,dn,ds,dh,dd⟩,⟨ri,rn,rs,rh,rd⟩,⟨xi,xn,xs,xh,xd⟩,t,q,life⟩,bl⟩:=b
  dsimp only at *
  refine AP.ofA (Zl Tryz.func8 U Tryz.ntmps8 U U ?_)
  repeat'(first|(apply Zb (hW);kernel_rfl;(iterate 4 exact U))|(apply Zh Za;exact U)|(apply Zg Za;exact U))
  all_goals exact Qe
def fiQ (q:BlkV->Bool):List BlkV->Nat->Int
 | [],_ => -1
 | c::l,i=>match q c with
  | true=>(i:Int)
  | false=>fiQ q l (i+1)
theorem K4 (q:BlkV->Bool):∀(l:List BlkV) (i:Nat),match l.find? q with
  | none=>fiQ q l i = -1
  | some c=>∃ j:Nat,fiQ q l i=((i+j:Nat):Int)/\l[j]?=some c
 | [],i=>rfl
 | c::l,i=>by
  rw[List.find?_cons,fiQ]
  cases hq:q c with
  | true=>exact⟨0,rfl,rfl⟩
  | false=>
   have h:=K4 q l (i+1)
   dsimp only at h ⊢
   split at h
   ·rename_i e;rw[e];exact h
   ·rename_i c' e
    rw[e]
    obtain⟨j,h1,h2⟩:=h
    exact⟨j+1,by rw[h1];congr 1;omega,h2⟩
abbrev Qu (k:Nat)(c:BlkV):Bool:=((c.ty:Int)==(k:Int))
theorem SJ [Known](c:BlkV)(k:Nat):AQ Tryz.prog 46 [.agg (bkC c),.ptr 0 0] [[.int .u64 (k:Int)]] (.bool (Qu k c)) [[.int .u64 (k:Int)]]:=by
 obtain⟨ty,num,fl,sum,data⟩:=c
 refine AQ.weak (Zl Tryz.func46 U Tryz.ntmps46 U U ?_)
 repeat'(first|(apply Zg Za;exact U))
 all_goals(apply Zp [0];(apply Zc Za;exact U);(iterate 4 exact U))
 all_goals rfl
theorem Mv [Known](l:List BlkV)(k:Nat)(hl:l.length<=1000000):AQ Tryz.prog 47 [.sl .ext (ZX l),.fn 46 [.ptr 0 0]] [[.int .u64 (k:Int)]] (.int .i64 (fiQ (Qu k) l 0)) [[.int .u64 (k:Int)]]:=by
 have hlen:=Wh l
 have hU:=UN l
 generalize hfin:fiQ (Qu k) l 0=fin
 refine AQ.weak (Zl Tryz.func47 U Tryz.ntmps47 U U ?_)
 repeat'(first|(apply Zh Za;exact U)|(apply Zg Za;exact U)|refine Zm Za U U U U ?_)
 refine ZI (fun f tm bx fr=>∃(i:Nat),f+i=l.length/\fiQ (Qu k) (l.drop i) i=fin/\tm=[(0,.sl .ext (ZX l)),(1,.fn 46 [.ptr 0 0]),(4,.int .i64 0),(7,.int .i64 ((ZX l).length:Int)),(8,.int .i64 (i:Int))]/\bx=[[.int .u64 (k:Int)]]/\fr=[]) (l.length+1) (Lands.mk' (m:=l.length) (Nat.lt_succ_self _) ⟨0,by omega,hfin,rfl,rfl,rfl⟩ ?_ rfl rfl rfl rfl rfl rfl) ?_
 ·exact .cons rfl (.cons rfl (.cons rfl (.cons rfl (.cons rfl .nil))))
 rintro f tm bx fr ⟨i,hf,hq,rfl,rfl,rfl⟩
 rcases Nat.lt_or_ge i l.length with hlt|hge
 ·have hdl:decide ((i:Int)<((ZX l).length:Int))=true:=decide_eq_true (by omega)
  obtain⟨c,hy⟩:∃ y,l[i]?=some y:=⟨_,List.getElem?_eq_getElem hlt⟩
  have hv:=YV hy
  have hc:=SJ c k
  have hdr:l.drop i=c::l.drop (i+1):=by
   rw[List.drop_eq_getElem_cons hlt];congr 1
   exact(List.getElem?_eq_some_iff.1 hy).2
  rw[hdr,fiQ]at hq
  have ei:IntKind.i64.wrap ((i:Int)+1)=((i+1:Nat):Int):=by rw[IntWalk.i64_in _ (by omega)];omega
  cases hb:Qu k c with
  | false=>
   rw[hb]at hq hc
   repeat'(first|rw[ei]|(apply OB [0] (hc);exact U;kernel_rfl;(iterate 7 exact U))|(apply Zh Za;exact U)|(apply Zg Za;exact U)|(apply Zo Za;exact U)|refine Zd U Qt ?_|refine Zf U Qt ?_|(apply Zr Za;(iterate 6 exact U);(first|exact Qt|rotate_left);(first|with_reducible assumption|decide +kernel|exact U);(first|exact Zk rfl|with_reducible assumption|decide +kernel|rotate_left)))
   refine Lands.mk' (m:=f-1) (by omega) ⟨i+1,by omega,hq,rfl,rfl,rfl⟩ ?_ rfl rfl rfl rfl rfl rfl
   exact .cons rfl (.cons rfl (.cons rfl (.cons rfl (.cons rfl .nil))))
  | true=>
   rw[hb]at hq hc
   have hq:(i:Int)=fin:=hq
   subst hq
   repeat'(first|(apply OB [0] (hc);exact U;kernel_rfl;(iterate 7 exact U))|(apply Zh Za;exact U)|(apply Zg Za;exact U)|(apply Zo Za;exact U)|refine Zd U Qt ?_|refine Ya ?_|(apply Zr Za;(iterate 6 exact U);(first|exact Qt|rotate_left);(first|with_reducible assumption|decide +kernel|exact U);(first|exact Zk rfl|with_reducible assumption|decide +kernel|rotate_left)))
   all_goals(apply Zp [0];(apply Zc Za;exact U);(iterate 4 exact U))
   all_goals rfl
 ·have hdl:decide ((i:Int)<((ZX l).length:Int))=false:=decide_eq_false (by omega)
  rw[List.drop_eq_nil_of_le hge]at hq
  have hq:(-1:Int)=fin:=hq
  subst hq
  repeat'(first|(apply Zg Za;exact U)|refine Zf U Qt ?_)
  all_goals(apply Zp [0];(apply Zc Za;exact U);(iterate 4 exact U))
  all_goals rfl
abbrev Rk (r:Option BlkV):D:=match r with
 | some c=>.tup [.agg (bkC c),.bool true]
 | none=>.tup [.agg [.int .u64 0,.int .u64 0,.int .u64 0,.int .i64 0,.sl .ext []],.bool false]
theorem SK [Known](b:BunV)(k:Nat)(hl:b.bl.length<=1000000)(hd:∀ c ∈ b.bl,c.data.length<=100000):AP Tryz.prog 12 [.agg (bnC b),.int .u64 (k:Int)] (Rk (b.bl.find? (Qu k))) []:=by
 have hI:=Mv b.bl k hl
 have hF:=K4 (Qu k) b.bl 0
 have hU:=UN b.bl
 obtain⟨⟨fl,sum,⟨di,dn,ds,dh,dd⟩,⟨ri,rn,rs,rh,rd⟩,⟨xi,xn,xs,xh,xd⟩,t,q,life⟩,bl⟩:=b
 dsimp only at *
 cases hf:bl.find? (Qu k) with
 | none=>
  rw[hf]at hF
  dsimp only at hF
  rw[hF]at hI
  dsimp only[Rk]
  refine AP.ofA (Zl Tryz.func12 U Tryz.ntmps12 U U ?_)
  repeat'(first|(apply ZC [1] (hI);kernel_rfl;(iterate 7 exact U))|(apply Zh Za;exact U)|(apply Zg Za;exact U)|(apply Zo Za;exact U)|refine Zd U Qt ?_)
  all_goals exact Qe
 | some c=>
  rw[hf]at hF
  dsimp only at hF
  obtain⟨j,h1,h2⟩:=hF
  rw[h1,Nat.zero_add]at hI
  have hv:=YV h2
  have hC:=VZ c.data (by have:=hd c (List.mem_of_getElem? h2);omega)
  have t0:decide (((j:Nat):Int)<0)=false:=decide_eq_false (by omega)
  obtain⟨cty,cnum,cfl,csum,cdata⟩:=c
  dsimp only[Rk]
  refine AP.ofA (Zl Tryz.func12 U Tryz.ntmps12 U U ?_)
  repeat'(first|(apply ZC [1] (hI);kernel_rfl;(iterate 7 exact U))|(apply Zb (hC);kernel_rfl;(iterate 4 exact U))|(apply Zh Za;exact U)|(apply Zg Za;exact U)|refine Zf U Qt ?_|(apply Zr Za;(iterate 6 exact U);(first|exact Qt|rotate_left);(first|with_reducible assumption|decide +kernel|exact U);(first|exact Zk rfl|with_reducible assumption|decide +kernel|rotate_left)))
  all_goals exact Qe
abbrev bnS (p:PriV)(d:D):List D:=[.int .u64 (p.fl:Int),.int .i64 p.sum,.bool p.dest.i,.int .u64 (p.dest.n:Int),.int .u64 (p.dest.s:Int),.str p.dest.h,.str p.dest.d,.bool p.rep.i,.int .u64 (p.rep.n:Int),.int .u64 (p.rep.s:Int),.str p.rep.h,.str p.rep.d,.bool p.src.i,.int .u64 (p.src.n:Int),.int .u64 (p.src.s:Int),.str p.src.h,.str p.src.d,.int .u64 (p.t:Int),.int .u64 (p.q:Int),.int .u64 (p.life:Int),d]
abbrev zBs:List D:=[.int .u64 0,.int .i64 0,.bool false,.int .u64 0,.int .u64 0,.str [],.str [],.bool false,.int .u64 0,.int .u64 0,.str [],.str [],.bool false,.int .u64 0,.int .u64 0,.str [],.str [],.int .u64 0,.int .u64 0,.int .u64 0,.sl .nil []]
theorem Rl [Known](b:BunV)(hl:b.bl.length<=1000000):AP Tryz.prog 34 [.agg (bnC b)] (.agg (bnC b)) []:=by
 have hP:=BT b.p
 have hlen:=Wh b.bl
 have hUb:=UN b.bl
 obtain⟨⟨fl,sum,⟨di,dn,ds,dh,dd⟩,⟨ri,rn,rs,rh,rd⟩,⟨xi,xn,xs,xh,xd⟩,t,q,life⟩,l⟩:=b
 dsimp only at *
 refine AP.ofA (Zl Tryz.func34 U Tryz.ntmps34 U U ?_)
 repeat'(first|(apply Zb (hP);kernel_rfl;(iterate 4 exact U))|(apply Zh Za;exact U)|(apply Zg Za;exact U))
 refine ZI (fun f tm bx fr=>∃(i c:Nat) (L:List E),f+i=l.length/\c=L.length/\L=ZX (l.take i)/\tm=[(1,.ptr 0 0),(3,.ptr 2 0),(2,.ptr 1 0),(4,.int .i64 (i:Int))] /\
  ((i=0/\bx=[bnS ⟨fl,sum,⟨di,dn,ds,dh,dd⟩,⟨ri,rn,rs,rh,rd⟩,⟨xi,xn,xs,xh,xd⟩,t,q,life⟩ (.sl .ext (ZX l)),zBs,bnS ⟨fl,sum,⟨di,dn,ds,dh,dd⟩,⟨ri,rn,rs,rh,rd⟩,⟨xi,xn,xs,xh,xd⟩,t,q,life⟩ (.sl .nil [])]/\fr=[]) \/
  (bx=[bnS ⟨fl,sum,⟨di,dn,ds,dh,dd⟩,⟨ri,rn,rs,rh,rd⟩,⟨xi,xn,xs,xh,xd⟩,t,q,life⟩ (.sl .ext (ZX l)),zBs,bnS ⟨fl,sum,⟨di,dn,ds,dh,dd⟩,⟨ri,rn,rs,rh,rd⟩,⟨xi,xn,xs,xh,xd⟩,t,q,life⟩ (.sl (.own 0) L)]/\fr=[⟨c,5,88⟩]))) (l.length+1) (Lands.mk' (m:=l.length) (Nat.lt_succ_self _) ⟨0,0,[],rfl,rfl,rfl,rfl,.inl ⟨rfl,rfl,rfl⟩⟩ ?_ rfl rfl rfl rfl rfl rfl) ?_
 ·exact .cons rfl (.cons rfl (.cons rfl (.cons rfl .nil)))
 rintro f tm bx fr ⟨i,c,L,hf,hc,hL,rfl,hst⟩
 rcases Nat.lt_or_ge i l.length with hlt|hge
 ·have hdl:decide ((i:Int)<((ZX l).length:Int))=true:=decide_eq_true (by omega)
  obtain⟨y,hy⟩:∃ y,l[i]?=some y:=⟨_,List.getElem?_eq_getElem hlt⟩
  have hv:=YV hy
  have hc7:=Ri y
  have ei:IntKind.i64.wrap ((i:Int)+1)=((i+1:Nat):Int):=by rw[IntWalk.i64_in _ (by omega)];omega
  have hs:L++[bkE y]=ZX (l.take (i+1)):=by
   rw[hL,List.take_add_one,hy];exact(List.map_append (f:=bkE) (l₁:=l.take i) (l₂:=[y])).symm
  have hU5:Uni 5 L:=hL ▸ UN (l.take i)
  have hUc:=UN [y]
  have hbl:=Wh (l.take i)
  rw[<- hL,List.length_take]at hbl
  subst hc
  rcases hst with⟨rfl,rfl,rfl⟩ | ⟨rfl,rfl⟩
  ·repeat'(first|(apply Zb (hc7);kernel_rfl;(iterate 4 exact U))|rw[ei]|refine Z3 Za U U U U U U (Zk rfl) (List.cons_ne_nil _ _) U Qd Qd U U U ?_|(apply Zh Za;exact U)|(apply Zg Za;exact U)|(apply Zo Za;exact U)|(apply Zd;exact U;(first|with_reducible assumption|decide +kernel|(solve|simp only[bn])))|refine Zm Za U U U U ?_|refine ZO Za U U U U U U U U U U U U ?_|(apply Zq 9 ZE;decide +kernel;kernel_rfl;kernel_rfl;kernel_rfl;exact U;exact U)|(apply Zt;(iterate 4 exact U))|exact AE.nil _ _ _ _|(apply Zx;exact U)|(apply Zz;exact U;exact U;decide +kernel;exact U)|(apply ZA;exact U)|exact AO.nil _ _ _|(apply Zs;(decide +kernel))|exact AOs.nil|exact ZF rfl rfl|exact WK rfl rfl rfl rfl rfl|(apply Zr Za;(iterate 6 exact U);(first|exact Qt|rotate_left);(first|with_reducible assumption|decide +kernel|exact U);(first|exact Zk rfl|with_reducible assumption|decide +kernel|rotate_left)))
   refine Lands.mk' (m:=f-1) (by omega) ⟨1,1,[bkE y],by omega,rfl,by rw[<- hs,hL];rfl,rfl,.inr ⟨rfl,rfl⟩⟩ ?_ rfl rfl rfl rfl rfl rfl
   exact .cons rfl (.cons rfl (.cons rfl (.cons rfl .nil)))
  ·repeat'(first|(apply Zb (hc7);kernel_rfl;(iterate 4 exact U))|rw[ei]|(apply Zh Za;exact U)|(apply Zg Za;exact U)|(apply Zo Za;exact U)|(apply Zd;exact U;(first|with_reducible assumption|decide +kernel|(solve|simp only[bn])))|refine Zm Za U U U U ?_|refine ZO Za U U U U U U U U U U U U ?_|(apply Zq 9 ZE;decide +kernel;kernel_rfl;kernel_rfl;kernel_rfl;exact U;exact U)|(apply Zt;(iterate 4 exact U))|exact AE.nil _ _ _ _|(apply Zx;exact U)|(apply Zz;exact U;exact U;decide +kernel;exact U)|(apply ZA;exact U)|exact AO.nil _ _ _|(apply Zs;(decide +kernel))|exact AOs.nil|exact ZF rfl rfl|exact WK rfl rfl rfl rfl rfl|(apply ZS Za;(iterate 6 exact U);(first|with_reducible assumption|decide +kernel|exact U|rotate_left);exact U;exact U;(first|exact Zk rfl|with_reducible assumption|decide +kernel|rotate_left);(first|exact Zk rfl|with_reducible assumption|decide +kernel|rotate_left);(first|exact Qt|rotate_left);(first|exact Qt|rotate_left);(first|exact Qt|rotate_left);exact U;exact U)|(apply Zr Za;(iterate 6 exact U);(first|exact Qt|rotate_left);(first|with_reducible assumption|decide +kernel|exact U);(first|exact Zk rfl|with_reducible assumption|decide +kernel|rotate_left)))
   ·refine Lands.mk' (m:=f-1) (by omega) ⟨i+1,L.length+1,_,by omega,by rw[List.length_append];rfl,hs,rfl,.inr ⟨rfl,rfl⟩⟩ ?_ rfl rfl rfl rfl rfl rfl
    exact .cons rfl (.cons rfl (.cons rfl (.cons rfl .nil)))
   all_goals(first|rfl|(simp only[List.length_append,List.length_cons,List.length_nil,List.length_map,Zw];done)|(simp only[List.length_append,List.length_cons,List.length_nil,List.length_map,Zw]at *;(try unfold maxLen);(try simp only[Nat.add_mul]);omega))
 ·have hdl:decide ((i:Int)<((ZX l).length:Int))=false:=decide_eq_false (by omega)
  rw[List.take_of_length_le hge]at hL
  subst hL
  rcases hst with⟨rfl,rfl,rfl⟩ | ⟨rfl,rfl⟩
  ·have:l=[]:=List.eq_nil_of_length_eq_zero (by omega)
   subst this
   repeat'(first|(apply Zh Za;exact U)|(apply Zg Za;exact U)|(apply Zo Za;exact U)|(apply Zf;exact U;(first|with_reducible assumption|decide +kernel|(solve|simp only[bn])))|refine Zm Za U U U U ?_)
   all_goals exact Qe
  ·repeat'(first|(apply Zh Za;exact U)|(apply Zg Za;exact U)|(apply Zo Za;exact U)|(apply Zf;exact U;(first|with_reducible assumption|decide +kernel|(solve|simp only[bn])))|refine Zm Za U U U U ?_)
   all_goals exact Qe
theorem Rm (l:List BlkV)(k n:Nat)(c:BlkV):WZ (l++[c]) k n=WZ l k n+(if Hz k n c then 1 else 0):=by
 unfold WZ
 rw[List.countP_append]
 simp[List.countP_cons]
theorem Jc [Known](b:BunV)(kind YU:Nat)(hl:b.bl.length<=1000000):AP Tryz.prog 81 [.agg (bnC b),.int .u64 (kind:Int),.int .u64 (YU:Int)] (.int .i64 (WZ b.bl kind YU:Int)) []:=by
 have hlen:=Wh b.bl
 have hUb:=UN b.bl
 obtain⟨⟨fl,sum,⟨di,dn,ds,dh,dd⟩,⟨ri,rn,rs,rh,rd⟩,⟨xi,xn,xs,xh,xd⟩,t,q,life⟩,l⟩:=b
 dsimp only at *
 refine AP.ofA (Zl Tryz.func81 U Tryz.ntmps81 U U ?_)
 repeat'(first|(apply Zg Za;exact U))
 refine ZI (fun f tm bx fr=>∃(i:Nat),f+i=l.length/\tm=[(1,.int .u64 (kind:Int)),(2,.int .u64 (YU:Int)),(3,.ptr 0 0),(7,.int .i64 (WZ (l.take i) kind YU:Int)),(8,.int .i64 (i:Int))]/\bx=[bnS ⟨fl,sum,⟨di,dn,ds,dh,dd⟩,⟨ri,rn,rs,rh,rd⟩,⟨xi,xn,xs,xh,xd⟩,t,q,life⟩ (.sl .ext (ZX l))]/\fr=[]) (l.length+1) (Lands.mk' (m:=l.length) (Nat.lt_succ_self _) ⟨0,rfl,rfl,rfl,rfl⟩ ?_ rfl rfl rfl rfl rfl rfl) ?_
 ·exact .cons rfl (.cons rfl (.cons rfl (.cons rfl (.cons rfl .nil))))
 rintro f tm bx fr ⟨i,hf,rfl,rfl,rfl⟩
 rcases Nat.lt_or_ge i l.length with hlt|hge
 ·have hdl:decide ((i:Int)<((ZX l).length:Int))=true:=decide_eq_true (by omega)
  obtain⟨y,hy⟩:∃ y,l[i]?=some y:=⟨_,List.getElem?_eq_getElem hlt⟩
  have hv:=YV hy
  have ei:IntKind.i64.wrap ((i:Int)+1)=((i+1:Nat):Int):=by rw[IntWalk.i64_in _ (by omega)];omega
  have hcl:WZ (l.take i) kind YU<=(l.take i).length:=List.countP_le_length
  rw[List.length_take]at hcl
  have hn:WZ (l.take (i+1)) kind YU=WZ (l.take i) kind YU+(if Hz kind YU y then 1 else 0):=by
   rw[List.take_add_one,hy];exact Rm _ _ _ _
  unfold Hz at hn
  generalize WZ (l.take i) kind YU=m at *
  have em:IntKind.i64.wrap ((m:Int)+1)=((m+1:Nat):Int):=by rw[IntWalk.i64_in _ (by omega)];omega
  cases t1:decide ((kind:Int)>0)<;>cases t2:((y.ty:Int)==(kind:Int))<;>cases t3:((kind:Int)==0)<;>cases t4:((y.num:Int)==(YU:Int))<;>rw[t1,t2,t3,t4]at hn
  all_goals repeat'(first|rw[ei]|rw[em]|(apply Zh Za;exact U)|(apply Zg Za;exact U)|(apply Zo Za;exact U)|(apply Ze;(iterate 3 exact U);(first|with_reducible assumption|decide +kernel|(solve|simp only[bn])))|(apply Zu;(iterate 3 exact U);(first|with_reducible assumption|decide +kernel|(solve|simp only[bn])))|(apply Zn;(iterate 3 exact U);(first|with_reducible assumption|decide +kernel|(solve|simp only[bn])))|refine UB U U U ?_|(apply Zj;exact U;(first|with_reducible assumption|decide +kernel|(solve|simp only[bn]));exact U;exact U)|(apply Zi;exact U;(first|with_reducible assumption|decide +kernel|(solve|simp only[bn]));exact U;exact U)|(apply Zd;exact U;(first|with_reducible assumption|decide +kernel|(solve|simp only[bn])))|(apply Zf;exact U;(first|with_reducible assumption|decide +kernel|(solve|simp only[bn])))|refine Zm Za U U U U ?_|(apply Zr Za;(iterate 6 exact U);(first|exact Qt|rotate_left);(first|with_reducible assumption|decide +kernel|exact U);(first|exact Zk rfl|with_reducible assumption|decide +kernel|rotate_left)))
  all_goals refine Lands.mk' (m:=f-1) (by omega) ⟨i+1,by omega,by rw[hn],rfl,rfl⟩ ?_ rfl rfl rfl rfl rfl rfl
  all_goals exact .cons rfl (.cons rfl (.cons rfl (.cons rfl (.cons rfl .nil))))
 ·have hdl:decide ((i:Int)<((ZX l).length:Int))=false:=decide_eq_false (by omega)
  rw[List.take_of_length_le hge]
  repeat'(first|(apply Zh Za;exact U)|(apply Zg Za;exact U)|(apply Zo Za;exact U)|(apply Zf;exact U;(first|with_reducible assumption|decide +kernel|(solve|simp only[bn])))|refine Zm Za U U U U ?_)
  all_goals exact Qe
theorem Mw [Known](b:BunV)(kind:Nat)(hl:b.bl.length<=1000000):AP Tryz.prog 37 [.agg (bnC b),.int .u64 (kind:Int)] (.int .i64 (fiQ (Qu kind) b.bl 0)) []:=by
 have hlen:=Wh b.bl
 have hUb:=UN b.bl
 obtain⟨⟨fl,sum,⟨di,dn,ds,dh,dd⟩,⟨ri,rn,rs,rh,rd⟩,⟨xi,xn,xs,xh,xd⟩,t,q,life⟩,l⟩:=b
 dsimp only at *
 generalize hfin:fiQ (Qu kind) l 0=fin
 refine AP.ofA (Zl Tryz.func37 U Tryz.ntmps37 U U ?_)
 repeat'(first|(apply Zg Za;exact U))
 refine ZI (fun f tm bx fr=>∃(i:Nat),f+i=l.length/\fiQ (Qu kind) (l.drop i) i=fin/\tm=[(1,.int .u64 (kind:Int)),(2,.ptr 0 0),(5,.int .i64 (i:Int))]/\bx=[bnS ⟨fl,sum,⟨di,dn,ds,dh,dd⟩,⟨ri,rn,rs,rh,rd⟩,⟨xi,xn,xs,xh,xd⟩,t,q,life⟩ (.sl .ext (ZX l))]/\fr=[]) (l.length+1) (Lands.mk' (m:=l.length) (Nat.lt_succ_self _) ⟨0,by omega,hfin,rfl,rfl,rfl⟩ ?_ rfl rfl rfl rfl rfl rfl) ?_
 ·exact .cons rfl (.cons rfl (.cons rfl .nil))
 rintro f tm bx fr ⟨i,hf,hq,rfl,rfl,rfl⟩
 rcases Nat.lt_or_ge i l.length with hlt|hge
 ·have hdl:decide ((i:Int)<((ZX l).length:Int))=true:=decide_eq_true (by omega)
  obtain⟨y,hy⟩:∃ y,l[i]?=some y:=⟨_,List.getElem?_eq_getElem hlt⟩
  have hv:=YV hy
  have hdr:l.drop i=y::l.drop (i+1):=by
   rw[List.drop_eq_getElem_cons hlt];congr 1
   exact(List.getElem?_eq_some_iff.1 hy).2
  rw[hdr,fiQ]at hq
  have ei:IntKind.i64.wrap ((i:Int)+1)=((i+1:Nat):Int):=by rw[IntWalk.i64_in _ (by omega)];omega
  unfold Qu at hq
  cases t1:((y.ty:Int)==(kind:Int)) with
  | false=>
   rw[t1]at hq
   repeat'(first|rw[ei]|(apply Zh Za;exact U)|(apply Zg Za;exact U)|(apply Zo Za;exact U)|(apply Zd;exact U;(first|with_reducible assumption|decide +kernel|(solve|simp only[bn])))|(apply Zf;exact U;(first|with_reducible assumption|decide +kernel|(solve|simp only[bn])))|refine Zm Za U U U U ?_|(apply Zr Za;(iterate 6 exact U);(first|exact Qt|rotate_left);(first|with_reducible assumption|decide +kernel|exact U);(first|exact Zk rfl|with_reducible assumption|decide +kernel|rotate_left)))
   refine Lands.mk' (m:=f-1) (by omega) ⟨i+1,by omega,hq,rfl,rfl,rfl⟩ ?_ rfl rfl rfl rfl rfl rfl
   exact .cons rfl (.cons rfl (.cons rfl .nil))
  | true=>
   rw[t1]at hq
   have hq:(i:Int)=fin:=hq
   subst hq
   repeat'(first|(apply Zh Za;exact U)|(apply Zg Za;exact U)|(apply Zo Za;exact U)|(apply Zd;exact U;(first|with_reducible assumption|decide +kernel|(solve|simp only[bn])))|refine Ya ?_|refine Zm Za U U U U ?_|(apply Zr Za;(iterate 6 exact U);(first|exact Qt|rotate_left);(first|with_reducible assumption|decide +kernel|exact U);(first|exact Zk rfl|with_reducible assumption|decide +kernel|rotate_left)))
   all_goals exact Qe
 ·have hdl:decide ((i:Int)<((ZX l).length:Int))=false:=decide_eq_false (by omega)
  rw[List.drop_eq_nil_of_le hge]at hq
  have hq:(-1:Int)=fin:=hq
  subst hq
  repeat'(first|(apply Zh Za;exact U)|(apply Zg Za;exact U)|(apply Zo Za;exact U)|(apply Zf;exact U;(first|with_reducible assumption|decide +kernel|(solve|simp only[bn])))|refine Zm Za U U U U ?_)
  all_goals exact Qe
def Us:List BlkV->List BlkV->Bool
 | [],[]=>true
 | a::l,b::m=>QM a b&&Us l m
 | _,_=>false
theorem Ik:∀ {l m:List BlkV},Us l m=true->l.length=m.length
 | [],[],_=>rfl
 | a::l,b::m,h=>by
  rw[Us,Bool.and_eq_true]at h
  rw[List.length_cons,List.length_cons,Ik h.2]
 | [],_::_,h=>by cases h
 | _::_,[],h=>by cases h
theorem HA {l m:List BlkV}(h:l.length ≠ m.length):Us l m=false:=by
 cases hs:Us l m with
 | false=>rfl
 | true=>exact absurd (Ik hs) h
theorem K5 {l m:List BlkV}{i:Nat}{a b:BlkV}(ha:l[i]?=some a)(hb:m[i]?=some b):Us (l.drop i) (m.drop i)=(QM a b&&Us (l.drop (i+1)) (m.drop (i+1))):=by
 obtain⟨h1,h2⟩:=List.getElem?_eq_some_iff.1 ha
 obtain⟨h3,h4⟩:=List.getElem?_eq_some_iff.1 hb
 rw[List.drop_eq_getElem_cons h1,List.drop_eq_getElem_cons h3,h2,h4,Us]
theorem Tu [Known](l m:List BlkV)(hl:l.length<=1000000)(hm:m.length<=1000000):AP Tryz.prog 84 [.sl .ext (ZX l),.sl .ext (ZX m),.fn 85 []] (.bool (Us l m)) []:=by
 have e1:=Wh l
 have e2:=Wh m
 have hU:=UN l
 have hUm:=UN m
 generalize hR:Us l m=R
 by_cases hlm:l.length=m.length
 case neg=>
  rw[HA hlm]at hR
  subst hR
  have t1:(((ZX l).length:Int) != ((ZX m).length:Int))=true:=by rw[bne_iff_ne];omega
  refine AP.ofA (Zl Tryz.func84 U Tryz.ntmps84 U U ?_)
  repeat'(first|(apply Zh Za;exact U)|(apply Zg Za;exact U)|(apply Zo Za;exact U)|(apply Zd;exact U;(first|with_reducible assumption|decide +kernel|(solve|simp only[bn])))|refine Zm Za U U U U ?_)
  all_goals exact Qe
 have t1:(((ZX l).length:Int) != ((ZX m).length:Int))=false:=by rw[bne_eq_false_iff_eq];omega
 refine AP.ofA (Zl Tryz.func84 U Tryz.ntmps84 U U ?_)
 repeat'(first|(apply Zh Za;exact U)|(apply Zg Za;exact U)|(apply Zo Za;exact U)|(apply Zf;exact U;(first|with_reducible assumption|decide +kernel|(solve|simp only[bn])))|refine Zm Za U U U U ?_)
 refine ZI (fun f tm bx fr=>∃ i:Nat,f+i=l.length/\Us (l.drop i) (m.drop i)=R/\tm=[(0,.sl .ext (ZX l)),(1,.sl .ext (ZX m)),(2,.fn 85 []),(6,.bool false),(15,.sl .ext (ZX l)),(16,.int .i64 ((ZX l).length:Int)),(17,.int .i64 (i:Int))]/\bx=[]/\fr=[]) (l.length+1) (Lands.mk' (m:=l.length) (Nat.lt_succ_self _) ⟨0,rfl,hR,rfl,rfl,rfl⟩ ?_ rfl rfl rfl rfl rfl rfl) ?_
 ·exact .cons rfl (.cons rfl (.cons rfl (.cons rfl (.cons rfl (.cons rfl (.cons rfl .nil))))))
 rintro f tm bx fr ⟨i,hf,hq,rfl,rfl,rfl⟩
 rcases Nat.lt_or_ge i l.length with hlt|hge
 ·have hdl:decide ((i:Int)<((ZX l).length:Int))=true:=decide_eq_true (by omega)
  obtain⟨y,hy⟩:∃ y,l[i]?=some y:=⟨_,List.getElem?_eq_getElem hlt⟩
  obtain⟨z,hz⟩:∃ y,m[i]?=some y:=⟨_,List.getElem?_eq_getElem (by omega)⟩
  have hv:=YV hy
  have hv2:=YV hz
  have hc:=N3 y z
  rw[K5 hy hz]at hq
  have ei:IntKind.i64.wrap ((i:Int)+1)=((i+1:Nat):Int):=by rw[IntWalk.i64_in _ (by omega)];omega
  cases hs:QM y z with
  | false=>
   rw[hs]at hc hq
   have hq:false=R:=hq
   subst hq
   repeat'(first|(apply Va (hc);exact U;kernel_rfl;(iterate 3 exact U))|(apply Zh Za;exact U)|(apply Zg Za;exact U)|(apply Zo Za;exact U)|(apply Zd;exact U;(first|with_reducible assumption|decide +kernel|(solve|simp only[bn])))|(apply Zr Za;(iterate 6 exact U);(first|exact Qt|rotate_left);(first|with_reducible assumption|decide +kernel|exact U);(first|exact Zk rfl|with_reducible assumption|decide +kernel|rotate_left)))
   all_goals exact Qe
  | true=>
   rw[hs,Bool.true_and]at hq
   rw[hs]at hc
   repeat'(first|rw[ei]|(apply Va (hc);exact U;kernel_rfl;(iterate 3 exact U))|(apply Zh Za;exact U)|(apply Zg Za;exact U)|(apply Zo Za;exact U)|(apply Zd;exact U;(first|with_reducible assumption|decide +kernel|(solve|simp only[bn])))|(apply Zf;exact U;(first|with_reducible assumption|decide +kernel|(solve|simp only[bn])))|(apply Zr Za;(iterate 6 exact U);(first|exact Qt|rotate_left);(first|with_reducible assumption|decide +kernel|exact U);(first|exact Zk rfl|with_reducible assumption|decide +kernel|rotate_left)))
   refine Lands.mk' (m:=f-1) (by omega) ⟨i+1,by omega,hq,rfl,rfl,rfl⟩ ?_ rfl rfl rfl rfl rfl rfl
   exact .cons rfl (.cons rfl (.cons rfl (.cons rfl (.cons rfl (.cons rfl (.cons rfl .nil))))))
 ·have hdl:decide ((i:Int)<((ZX l).length:Int))=false:=decide_eq_false (by omega)
  rw[List.drop_eq_nil_of_le hge,List.drop_eq_nil_of_le (by omega)]at hq
  have hq:true=R:=hq
  subst hq
  repeat'(first|(apply Zg Za;exact U)|(apply Zf;exact U;(first|with_reducible assumption|decide +kernel|(solve|simp only[bn]))))
  all_goals exact Qe
abbrev Tv (a b:PriV):Bool:=((a.fl:Int)==(b.fl:Int))&&((a.sum==b.sum)&&((a.dest.i==b.dest.i)&&(((a.dest.n:Int)==(b.dest.n:Int))&&(((a.dest.s:Int)==(b.dest.s:Int))&&((a.dest.h==b.dest.h)&&((a.dest.d==b.dest.d)&&((a.rep.i==b.rep.i)&&(((a.rep.n:Int)==(b.rep.n:Int))&&(((a.rep.s:Int)==(b.rep.s:Int))&&((a.rep.h==b.rep.h)&&((a.rep.d==b.rep.d)&&((a.src.i==b.src.i)&&(((a.src.n:Int)==(b.src.n:Int))&&(((a.src.s:Int)==(b.src.s:Int))&&((a.src.h==b.src.h)&&((a.src.d==b.src.d)&&(((a.t:Int)==(b.t:Int))&&(((a.q:Int)==(b.q:Int))&&(((a.life:Int)==(b.life:Int))&&true)))))))))))))))))))
def XF (b c:BunV):Bool:=Tv b.p c.p&&Us b.bl c.bl
theorem Tw [Known](b c:BunV)(hb:b.bl.length<=1000000)(hc:c.bl.length<=1000000):AP Tryz.prog 40 [.agg (bnC b),.agg (bnC c)] (.bool (XF b c)) []:=by
 have hE:=Tu b.bl c.bl hb hc
 unfold XF
 obtain⟨⟨fl,sum,⟨di,dn,ds,dh,dd⟩,⟨ri,rn,rs,rh,rd⟩,⟨xi,xn,xs,xh,xd⟩,t,q,life⟩,bl⟩:=b
 obtain⟨⟨fl2,sum2,⟨di2,dn2,ds2,dh2,dd2⟩,⟨ri2,rn2,rs2,rh2,rd2⟩,⟨xi2,xn2,xs2,xh2,xd2⟩,t2,q2,life2⟩,bl2⟩:=c
 dsimp only at *
 generalize Us bl bl2=r at *
 cases hP:Tv ⟨fl,sum,⟨di,dn,ds,dh,dd⟩,⟨ri,rn,rs,rh,rd⟩,⟨xi,xn,xs,xh,xd⟩,t,q,life⟩ ⟨fl2,sum2,⟨di2,dn2,ds2,dh2,dd2⟩,⟨ri2,rn2,rs2,rh2,rd2⟩,⟨xi2,xn2,xs2,xh2,xd2⟩,t2,q2,life2⟩
 all_goals
  refine AP.ofA (Zl Tryz.func40 U Tryz.ntmps40 U U ?_)
  repeat'(first|(apply Zb (hE);kernel_rfl;(iterate 4 exact U))|(apply Zh Za;exact U)|(apply Zg Za;exact U)|(apply Ze;(iterate 3 exact U);(first|with_reducible assumption|decide +kernel|(solve|simp only[bn])))|(apply Zu;(iterate 3 exact U);(first|with_reducible assumption|decide +kernel|(solve|simp only[bn])))|(apply Zj;exact U;(first|with_reducible assumption|decide +kernel|(solve|simp only[bn]));exact U;exact U)|(apply Zi;exact U;(first|with_reducible assumption|decide +kernel|(solve|simp only[bn]));exact U;exact U)|refine V8 Za U U U U Qk Qk U U U ?_)
  all_goals exact Qe
theorem Mx [Known](b c:BunV)(hb:b.bl.length<=1000000)(hc:c.bl.length<=1000000):AP Tryz.prog 33 [.agg (bnC b),.agg (bnC c)] (.bool (XF b c)) []:=by
 have e1:=Wh b.bl
 have e2:=Wh c.bl
 have hU:=UN b.bl
 have hUm:=UN c.bl
 generalize hR:XF b c=R
 unfold XF at hR
 obtain⟨⟨fl,sum,⟨di,dn,ds,dh,dd⟩,⟨ri,rn,rs,rh,rd⟩,⟨xi,xn,xs,xh,xd⟩,t,q,life⟩,bl⟩:=b
 obtain⟨⟨fl2,sum2,⟨di2,dn2,ds2,dh2,dd2⟩,⟨ri2,rn2,rs2,rh2,rd2⟩,⟨xi2,xn2,xs2,xh2,xd2⟩,t2,q2,life2⟩,bl2⟩:=c
 dsimp only at *
 cases hP:Tv ⟨fl,sum,⟨di,dn,ds,dh,dd⟩,⟨ri,rn,rs,rh,rd⟩,⟨xi,xn,xs,xh,xd⟩,t,q,life⟩ ⟨fl2,sum2,⟨di2,dn2,ds2,dh2,dd2⟩,⟨ri2,rn2,rs2,rh2,rd2⟩,⟨xi2,xn2,xs2,xh2,xd2⟩,t2,q2,life2⟩ with
 | false=>
  rw[hP,Bool.false_and]at hR
  subst hR
  have hP2:(!Tv ⟨fl,sum,⟨di,dn,ds,dh,dd⟩,⟨ri,rn,rs,rh,rd⟩,⟨xi,xn,xs,xh,xd⟩,t,q,life⟩ ⟨fl2,sum2,⟨di2,dn2,ds2,dh2,dd2⟩,⟨ri2,rn2,rs2,rh2,rd2⟩,⟨xi2,xn2,xs2,xh2,xd2⟩,t2,q2,life2⟩)=true:=by rw[hP];rfl
  dsimp only[Tv]at hP2
  refine AP.ofA (Zl Tryz.func33 U Tryz.ntmps33 U U ?_)
  repeat'(first|(apply Zh Za;exact U)|(apply Zg Za;exact U)|(apply Zo Za;exact U)|(apply Zn;(iterate 3 exact U);(first|with_reducible assumption|decide +kernel|(solve|simp only[bn])))|(apply Zj;exact U;(first|with_reducible assumption|decide +kernel|(solve|simp only[bn]));exact U;exact U)|(apply Zd;exact U;(first|with_reducible assumption|decide +kernel|(solve|simp only[bn])))|refine V8 Za U U U U Qk Qk U U U ?_)
  all_goals exact Qe
 | true=>
 rw[hP,Bool.true_and]at hR
 have hP2:(!Tv ⟨fl,sum,⟨di,dn,ds,dh,dd⟩,⟨ri,rn,rs,rh,rd⟩,⟨xi,xn,xs,xh,xd⟩,t,q,life⟩ ⟨fl2,sum2,⟨di2,dn2,ds2,dh2,dd2⟩,⟨ri2,rn2,rs2,rh2,rd2⟩,⟨xi2,xn2,xs2,xh2,xd2⟩,t2,q2,life2⟩)=false:=by rw[hP];rfl
 dsimp only[Tv]at hP2
 clear hP
 by_cases hlm:bl.length=bl2.length
 case neg=>
  rw[HA hlm]at hR
  subst hR
  have t1:(((ZX bl).length:Int) != ((ZX bl2).length:Int))=true:=by rw[bne_iff_ne];omega
  refine AP.ofA (Zl Tryz.func33 U Tryz.ntmps33 U U ?_)
  repeat'(first|(apply Zh Za;exact U)|(apply Zg Za;exact U)|(apply Zo Za;exact U)|(apply Ze;(iterate 3 exact U);(first|with_reducible assumption|decide +kernel|(solve|simp only[bn])))|(apply Zi;exact U;(first|with_reducible assumption|decide +kernel|(solve|simp only[bn]));exact U;exact U)|(apply Zd;exact U;(first|with_reducible assumption|decide +kernel|(solve|simp only[bn])))|refine Zm Za U U U U ?_|refine V8 Za U U U U Qk Qk U U U ?_)
  all_goals exact Qe
 have t1:(((ZX bl).length:Int) != ((ZX bl2).length:Int))=false:=by rw[bne_eq_false_iff_eq];omega
 refine AP.ofA (Zl Tryz.func33 U Tryz.ntmps33 U U ?_)
 repeat'(first|(apply Zh Za;exact U)|(apply Zg Za;exact U)|(apply Zo Za;exact U)|(apply Ze;(iterate 3 exact U);(first|with_reducible assumption|decide +kernel|(solve|simp only[bn])))|(apply Zi;exact U;(first|with_reducible assumption|decide +kernel|(solve|simp only[bn]));exact U;exact U)|(apply Zf;exact U;(first|with_reducible assumption|decide +kernel|(solve|simp only[bn])))|refine Zm Za U U U U ?_|refine V8 Za U U U U Qk Qk U U U ?_)
 refine ZI (fun f tm bx fr=>∃ i:Nat,f+i=bl.length/\Us (bl.drop i) (bl2.drop i)=R/\tm=[(2,.ptr 0 0),(3,.ptr 1 0),(5,.int .i64 (i:Int))]/\bx=[bnS ⟨fl,sum,⟨di,dn,ds,dh,dd⟩,⟨ri,rn,rs,rh,rd⟩,⟨xi,xn,xs,xh,xd⟩,t,q,life⟩ (.sl .ext (ZX bl)),bnS ⟨fl2,sum2,⟨di2,dn2,ds2,dh2,dd2⟩,⟨ri2,rn2,rs2,rh2,rd2⟩,⟨xi2,xn2,xs2,xh2,xd2⟩,t2,q2,life2⟩ (.sl .ext (ZX bl2))]/\fr=[]) (bl.length+1) (Lands.mk' (m:=bl.length) (Nat.lt_succ_self _) ⟨0,rfl,hR,rfl,rfl,rfl⟩ ?_ rfl rfl rfl rfl rfl rfl) ?_
 ·exact .cons rfl (.cons rfl (.cons rfl .nil))
 rintro f tm bx fr ⟨i,hf,hq,rfl,rfl,rfl⟩
 rcases Nat.lt_or_ge i bl.length with hlt|hge
 ·have hdl:decide ((i:Int)<((ZX bl).length:Int))=true:=decide_eq_true (by omega)
  obtain⟨y,hy⟩:∃ y,bl[i]?=some y:=⟨_,List.getElem?_eq_getElem hlt⟩
  obtain⟨z,hz⟩:∃ y,bl2[i]?=some y:=⟨_,List.getElem?_eq_getElem (by omega)⟩
  have hv:=YV hy
  have hv2:=YV hz
  have hc:=Mt y z
  rw[K5 hy hz]at hq
  have ei:IntKind.i64.wrap ((i:Int)+1)=((i+1:Nat):Int):=by rw[IntWalk.i64_in _ (by omega)];omega
  cases hs:QM y z with
  | false=>
   rw[hs]at hc hq
   have hq:false=R:=hq
   subst hq
   repeat'(first|(apply Zb (hc);kernel_rfl;(iterate 4 exact U))|(apply Zh Za;exact U)|(apply Zg Za;exact U)|(apply Zo Za;exact U)|(apply Zd;exact U;(first|with_reducible assumption|decide +kernel|(solve|simp only[bn])))|refine Ya ?_|refine Zm Za U U U U ?_|(apply Zq 10 ZE;decide +kernel;kernel_rfl;kernel_rfl;kernel_rfl;exact U;exact U)|(apply Zt;(iterate 4 exact U))|exact AE.nil _ _ _ _|(apply Zx;exact U)|(apply Zz;exact U;exact U;decide +kernel;exact U)|(apply ZA;exact U)|exact AO.nil _ _ _|(apply Zs;(decide +kernel))|exact AOs.nil|exact ZF rfl rfl|(apply Zr Za;(iterate 6 exact U);(first|exact Qt|rotate_left);(first|with_reducible assumption|decide +kernel|exact U);(first|exact Zk rfl|with_reducible assumption|decide +kernel|rotate_left)))
   all_goals exact Qe
  | true=>
   rw[hs,Bool.true_and]at hq
   rw[hs]at hc
   repeat'(first|rw[ei]|(apply Zb (hc);kernel_rfl;(iterate 4 exact U))|(apply Zh Za;exact U)|(apply Zg Za;exact U)|(apply Zo Za;exact U)|(apply Zd;exact U;(first|with_reducible assumption|decide +kernel|(solve|simp only[bn])))|(apply Zf;exact U;(first|with_reducible assumption|decide +kernel|(solve|simp only[bn])))|refine Zm Za U U U U ?_|(apply Zq 10 ZE;decide +kernel;kernel_rfl;kernel_rfl;kernel_rfl;exact U;exact U)|(apply Zt;(iterate 4 exact U))|exact AE.nil _ _ _ _|(apply Zx;exact U)|(apply Zz;exact U;exact U;decide +kernel;exact U)|(apply ZA;exact U)|exact AO.nil _ _ _|(apply Zs;(decide +kernel))|exact AOs.nil|exact ZF rfl rfl|(apply Zr Za;(iterate 6 exact U);(first|exact Qt|rotate_left);(first|with_reducible assumption|decide +kernel|exact U);(first|exact Zk rfl|with_reducible assumption|decide +kernel|rotate_left)))
   refine Lands.mk' (m:=f-1) (by omega) ⟨i+1,by omega,hq,rfl,rfl,rfl⟩ ?_ rfl rfl rfl rfl rfl rfl
   exact .cons rfl (.cons rfl (.cons rfl .nil))
 ·have hdl:decide ((i:Int)<((ZX bl).length:Int))=false:=decide_eq_false (by omega)
  rw[List.drop_eq_nil_of_le hge,List.drop_eq_nil_of_le (by omega)]at hq
  have hq:true=R:=hq
  subst hq
  repeat'(first|(apply Zh Za;exact U)|(apply Zg Za;exact U)|(apply Zo Za;exact U)|(apply Zf;exact U;(first|with_reducible assumption|decide +kernel|(solve|simp only[bn])))|refine Zm Za U U U U ?_)
  all_goals exact Qe
end Go.Proofs.YtmljabhmajehnaaGreatDoor
end
