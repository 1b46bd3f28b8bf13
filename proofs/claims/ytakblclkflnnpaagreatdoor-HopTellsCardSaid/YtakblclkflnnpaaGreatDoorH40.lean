/- Package bundle: written. -/
import Derived.Test.YtakblclkflnnpaaGreatDoorH28
import Derived.Test.YtakblclkflnnpaaGreatDoorH13
import Derived.Test.YtakblclkflnnpaaGreatDoorH39
import Derived.Test.YtakblclkflnnpaaGreatDoorH32
import Derived.Test.YtakblclkflnnpaaGreatDoorH37
import Derived.Test.YtakblclkflnnpaaGreatDoorH27
set_option linter.unusedVariables false
set_option linter.unusedSimpArgs false
section
open Go.RowKit Go.Pl Go.Av
namespace Go.Proofs.YtakblclkflnnpaaGreatDoor
set_option maxHeartbeats 4000000
theorem Zq8 {b:BunV}(hb:BunOk b)(h:Zgv b=true):∃ c t,ZaX (Zd5 b)=c::t:=by
 unfold Zgv at h
 rw[Bool.and_eq_true,beq_iff_eq]at h
 obtain⟨_,hs⟩:=Zb4 (p:=b.p) (x:=(Zcy b.p).1) (Prod.ext rfl h.1)
 obtain⟨c,t,e⟩:=ZiE _ (Zgu (p:=b.p) hb.fl) (Zdx hs)
 exact⟨c,t++ZaX (b.bl.map fun c=>(ZbL c).1),by unfold Zd5;rw[ZaX,e];rfl⟩
theorem Zn1 {b:BunV}(hb:BunOk b)(h:Zgv b=true):(ZaX (Zd5 b)).length<=4000+4000*b.bl.length:=by
 unfold Zgv at h
 simp only[Bool.and_eq_true,beq_iff_eq,List.all_eq_true]at h
 have h1:=Znv (p:=b.p) (x:=(Zcy b.p).1) (Prod.ext rfl h.1)
 have h2:=Zex b.bl fun c hc=>⟨h.2 c hc,(hb.bl c hc).2⟩
 unfold Zd5
 rw[ZaX,List.length_append]
 have:(ZaX (b.bl.map fun c=>(ZbL c).1)).length<=4000*b.bl.length:=h2
 omega
abbrev ZhX (b:BunV):D:=match Zbw b with
 | true=>.tup [byE (ZqV b),.int .i64 0]
 | false=>.tup [.sl .ext [],.int .i64 3]
theorem ZlO [Known][KnownU8](b:BunV)(hb:BunOk b):AP Tryz.prog 66 [.agg (bnC b)] (ZhX b) []:=by
 have hF:=Zr2 b.bl hb.len fun c hc=>Nat.le_trans (hb.bl c hc).2 (by omega)
 have hI:=Zpb b hb
 unfold ZhX Zbw
 cases t1:ZqU b.bl with
 | false=>
  rw[t1]at hF
  obtain⟨⟨fl,sum,⟨di,dn,ds,dh,dd⟩,⟨ri,rn,rs,rh,rd⟩,⟨xi,xn,xs,xh,xd⟩,t,q,life⟩,bl⟩:=b
  dsimp only at *
  refine AP.ofA (Zam Tryz.func66 U Tryz.ntmps66 U U ?_)
  repeat'(first|(apply Zaa (hF);kernel_rfl;(iterate 4 exact U))|(apply Zai Zab;exact U)|(apply Zag Zab;exact U)|(apply Zau Zab;exact U)|refine Zad U Qt ?_)
  all_goals exact Qe
 | true=>
 rw[t1]at hF
 unfold Znw at hI
 cases t2:Zgv b with
 | false=>
  rw[t2]at hI
  obtain⟨⟨fl,sum,⟨di,dn,ds,dh,dd⟩,⟨ri,rn,rs,rh,rd⟩,⟨xi,xn,xs,xh,xd⟩,t,q,life⟩,bl⟩:=b
  dsimp only at *
  refine AP.ofA (Zam Tryz.func66 U Tryz.ntmps66 U U ?_)
  repeat'(first|(apply Zaa (hF);kernel_rfl;(iterate 4 exact U))|(apply Zaa (hI);kernel_rfl;(iterate 4 exact U))|(apply Zai Zab;exact U)|(apply Zag Zab;exact U)|(apply Zau Zab;exact U)|refine Zal U U U Qt ?_|refine Zak U Qt U U ?_|refine Zad U Qt ?_|refine Zaf U Qt ?_)
  all_goals exact Qe
 | true=>
 rw[t2]at hI
 obtain⟨c0,t0,hp⟩:=Zq8 hb t2
 have hl:=Zn1 hb t2
 have hl2:=hb.len
 unfold ZqV
 rw[hp]at hI hl ⊢
 have hU:=Zbh (c0::t0)
 have hlm:((c0::t0).map E.byte).length=(c0::t0).length:=List.length_map ..
 cases t3:decide (((c0::t0).length:Int)<=598) with
 | false=>
  have t4:decide ((((c0::t0).map E.byte).length:Int)>598)=true:=by rw[hlm];simp at t3 ⊢;omega
  obtain⟨⟨fl,sum,⟨di,dn,ds,dh,dd⟩,⟨ri,rn,rs,rh,rd⟩,⟨xi,xn,xs,xh,xd⟩,t,q,life⟩,bl⟩:=b
  dsimp only at *
  refine AP.ofA (Zam Tryz.func66 U Tryz.ntmps66 U U ?_)
  repeat'(first|(apply Zaa (hF);kernel_rfl;(iterate 4 exact U))|(apply Zaa (hI);kernel_rfl;(iterate 4 exact U))|(apply Zai Zab;exact U)|(apply Zag Zab;exact U)|(apply Zau Zab;exact U)|refine Zae U U U Qt ?_|refine Zah U Qt U U ?_|refine Zad U Qt ?_|refine Zaf U Qt ?_|refine Zan Zab U U U U ?_)
  all_goals exact Qe
 | true=>
  have t4:decide ((((c0::t0).map E.byte).length:Int)>598)=false:=by rw[hlm];simp at t3 ⊢;omega
  have t5:=of_decide_eq_true t3
  have hE:[E.int .u8 159]++(c0::t0).map E.byte++[E.int .u8 255]=(159::(c0::t0++[255])).map E.byte:=by simp
  have hU1:Uni 1 ([E.int .u8 159]++(c0::t0).map E.byte):=(Zbh [159]).append hU
  obtain⟨⟨fl,sum,⟨di,dn,ds,dh,dd⟩,⟨ri,rn,rs,rh,rd⟩,⟨xi,xn,xs,xh,xd⟩,t,q,life⟩,bl⟩:=b
  dsimp only at *
  refine AP.ofA (Zam Tryz.func66 U Tryz.ntmps66 U U ?_)
  repeat'(first|(apply Zaa (hF);kernel_rfl;(iterate 4 exact U))|(apply Zaa (hI);kernel_rfl;(iterate 4 exact U))|(apply Zai Zab;exact U)|(apply Zag Zab;exact U)|(apply Zau Zab;exact U)|refine Zae U U U Qt ?_|refine Zah U Qt U U ?_|refine Zaf U Qt ?_|refine Zan Zab U U U U ?_|refine ZaL Zab U U U U U U U U U U U U ?_|(apply ZaF Zab;(iterate 6 exact U);(first|with_reducible assumption|decide +kernel|exact U|rotate_left);exact U;exact U;(first|exact Zaj rfl|with_reducible assumption|decide +kernel|rotate_left);(first|exact Zaj rfl|with_reducible assumption|decide +kernel|rotate_left);(first|exact Qt|rotate_left);(first|exact Qt|rotate_left);(first|exact Qt|rotate_left);exact U;exact U))
  all_goals first|((apply Zav [];(apply Zac Zab;exact U);(iterate 4 exact U)))|skip
  all_goals first|rfl|(exact congrArg (fun l=>D.tup [.sl .ext l,.int .i64 0]) hE)|(first|rfl|(simp only[List.length_append,List.length_cons,List.length_nil,List.length_map,Zaq];done)|(simp only[List.length_append,List.length_cons,List.length_nil,List.length_map,Zaq]at *;(try unfold maxLen);(try simp only[Nat.add_mul]);omega))
theorem Zft [Known][KnownU8](b:BunV)(hb:BunOk b):AP Tryz.prog 71 [.agg (bnC b)] (.bool (Zbw b)) []:=by
 have hW:=ZlO b hb
 unfold ZhX at hW
 cases h:Zbw b with
 | false=>
  rw[h]at hW
  obtain⟨⟨fl,sum,⟨di,dn,ds,dh,dd⟩,⟨ri,rn,rs,rh,rd⟩,⟨xi,xn,xs,xh,xd⟩,t,q,life⟩,bl⟩:=b
  dsimp only at *
  refine AP.ofA (Zam Tryz.func71 U Tryz.ntmps71 U U ?_)
  repeat'(first|(apply Zaa (hW);kernel_rfl;(iterate 4 exact U))|(apply Zai Zab;exact U)|(apply Zag Zab;exact U))
  all_goals exact Qe
 | true=>
  rw[h]at hW
  generalize ZqV b=pb at *
  obtain⟨⟨fl,sum,⟨di,dn,ds,dh,dd⟩,⟨ri,rn,rs,rh,rd⟩,⟨xi,xn,xs,xh,xd⟩,t,q,life⟩,bl⟩:=b
  dsimp only at *
  refine AP.ofA (Zam Tryz.func71 U Tryz.ntmps71 U U ?_)
  repeat'(first|(apply Zaa (hW);kernel_rfl;(iterate 4 exact U))|(apply Zai Zab;exact U)|(apply Zag Zab;exact U))
  all_goals exact Qe
def fiQ (q:BlkV->Bool):List BlkV->Nat->Int
 | [],_ => -1
 | c::l,i=>match q c with
  | true=>(i:Int)
  | false=>fiQ q l (i+1)
theorem ZfS (q:BlkV->Bool):∀(l:List BlkV) (i:Nat),match l.find? q with
  | none=>fiQ q l i = -1
  | some c=>∃ j:Nat,fiQ q l i=((i+j:Nat):Int)/\l[j]?=some c
 | [],i=>rfl
 | c::l,i=>by
  rw[List.find?_cons,fiQ]
  cases hq:q c with
  | true=>exact⟨0,rfl,rfl⟩
  | false=>
   have h:=ZfS q l (i+1)
   dsimp only at h ⊢
   split at h
   ·rename_i e;rw[e];exact h
   ·rename_i c' e
    rw[e]
    obtain⟨j,h1,h2⟩:=h
    exact⟨j+1,by rw[h1];congr 1;omega,h2⟩
abbrev ZfL (k:Nat)(c:BlkV):Bool:=((c.ty:Int)==(k:Int))
abbrev ZfT (k:Nat)(c:BlkV):Bool:=((c.num:Int)==(k:Int))
theorem Zq9 [Known](c:BlkV)(k:Nat):AQ Tryz.prog 123 [.agg (bkC c),.ptr 0 0] [[.int .u64 (k:Int)]] (.bool (ZfL k c)) [[.int .u64 (k:Int)]]:=by
 obtain⟨ty,num,fl,sum,data⟩:=c
 refine AQ.weak (Zam Tryz.func123 U Tryz.ntmps123 U U ?_)
 repeat'(first|(apply Zag Zab;exact U))
 all_goals(apply Zav [0];(apply Zac Zab;exact U);(iterate 4 exact U))
 all_goals rfl
theorem Zn2 [Known](l:List BlkV)(k:Nat)(hl:l.length<=1000000):AQ Tryz.prog 124 [.sl .ext (Zbj l),.fn 123 [.ptr 0 0]] [[.int .u64 (k:Int)]] (.int .i64 (fiQ (ZfL k) l 0)) [[.int .u64 (k:Int)]]:=by
 have hlen:=Zb5 l
 have hU:=ZgW l
 generalize hfin:fiQ (ZfL k) l 0=fin
 refine AQ.weak (Zam Tryz.func124 U Tryz.ntmps124 U U ?_)
 repeat'(first|(apply Zai Zab;exact U)|(apply Zag Zab;exact U)|refine Zan Zab U U U U ?_)
 refine ZaB (fun f tm bx fr=>∃(i:Nat),f+i=l.length/\fiQ (ZfL k) (l.drop i) i=fin/\tm=[(0,.sl .ext (Zbj l)),(1,.fn 123 [.ptr 0 0]),(4,.int .i64 0),(7,.int .i64 ((Zbj l).length:Int)),(8,.int .i64 (i:Int))]/\bx=[[.int .u64 (k:Int)]]/\fr=[]) (l.length+1) (Lands.mk' (m:=l.length) (Nat.lt_succ_self _) ⟨0,by omega,hfin,rfl,rfl,rfl⟩ ?_ rfl rfl rfl rfl rfl rfl) ?_
 ·exact .cons rfl (.cons rfl (.cons rfl (.cons rfl (.cons rfl .nil))))
 rintro f tm bx fr ⟨i,hf,hq,rfl,rfl,rfl⟩
 rcases Nat.lt_or_ge i l.length with hlt|hge
 ·have hdl:decide ((i:Int)<((Zbj l).length:Int))=true:=decide_eq_true (by omega)
  obtain⟨c,hy⟩:∃ y,l[i]?=some y:=⟨_,List.getElem?_eq_getElem hlt⟩
  have hv:=Zcc hy
  have hc:=Zq9 c k
  have hdr:l.drop i=c::l.drop (i+1):=by
   rw[List.drop_eq_getElem_cons hlt];congr 1
   exact(List.getElem?_eq_some_iff.1 hy).2
  rw[hdr,fiQ]at hq
  have ei:IntKind.i64.wrap ((i:Int)+1)=((i+1:Nat):Int):=by rw[IntWalk.i64_in _ (by omega)];omega
  cases hb:ZfL k c with
  | false=>
   rw[hb]at hq hc
   repeat'(first|rw[ei]|(apply ZeK [0] (hc);exact U;kernel_rfl;(iterate 7 exact U))|(apply Zai Zab;exact U)|(apply Zag Zab;exact U)|(apply Zau Zab;exact U)|refine Zad U Qt ?_|refine Zaf U Qt ?_|(apply Zat Zab;(iterate 6 exact U);(first|exact Qt|rotate_left);(first|with_reducible assumption|decide +kernel|exact U);(first|exact Zaj rfl|with_reducible assumption|decide +kernel|rotate_left)))
   refine Lands.mk' (m:=f-1) (by omega) ⟨i+1,by omega,hq,rfl,rfl,rfl⟩ ?_ rfl rfl rfl rfl rfl rfl
   exact .cons rfl (.cons rfl (.cons rfl (.cons rfl (.cons rfl .nil))))
  | true=>
   rw[hb]at hq hc
   have hq:(i:Int)=fin:=hq
   subst hq
   repeat'(first|(apply ZeK [0] (hc);exact U;kernel_rfl;(iterate 7 exact U))|(apply Zai Zab;exact U)|(apply Zag Zab;exact U)|(apply Zau Zab;exact U)|refine Zad U Qt ?_|refine Za2 ?_|(apply Zat Zab;(iterate 6 exact U);(first|exact Qt|rotate_left);(first|with_reducible assumption|decide +kernel|exact U);(first|exact Zaj rfl|with_reducible assumption|decide +kernel|rotate_left)))
   all_goals(apply Zav [0];(apply Zac Zab;exact U);(iterate 4 exact U))
   all_goals rfl
 ·have hdl:decide ((i:Int)<((Zbj l).length:Int))=false:=decide_eq_false (by omega)
  rw[List.drop_eq_nil_of_le hge]at hq
  have hq:(-1:Int)=fin:=hq
  subst hq
  repeat'(first|(apply Zag Zab;exact U)|refine Zaf U Qt ?_)
  all_goals(apply Zav [0];(apply Zac Zab;exact U);(iterate 4 exact U))
  all_goals rfl
abbrev ZgM (r:Option BlkV):D:=match r with
 | some c=>.tup [.agg (bkC c),.bool true]
 | none=>.tup [.agg [.int .u64 0,.int .u64 0,.int .u64 0,.int .i64 0,.sl .ext []],.bool false]
theorem ZjT [Known](b:BunV)(k:Nat)(hl:b.bl.length<=1000000)(hd:∀ c ∈ b.bl,c.data.length<=100000):AP Tryz.prog 67 [.agg (bnC b),.int .u64 (k:Int)] (ZgM (b.bl.find? (ZfL k))) []:=by
 have hI:=Zn2 b.bl k hl
 have hF:=ZfS (ZfL k) b.bl 0
 have hU:=ZgW b.bl
 obtain⟨⟨fl,sum,⟨di,dn,ds,dh,dd⟩,⟨ri,rn,rs,rh,rd⟩,⟨xi,xn,xs,xh,xd⟩,t,q,life⟩,bl⟩:=b
 dsimp only at *
 cases hf:bl.find? (ZfL k) with
 | none=>
  rw[hf]at hF
  dsimp only at hF
  rw[hF]at hI
  dsimp only[ZgM]
  refine AP.ofA (Zam Tryz.func67 U Tryz.ntmps67 U U ?_)
  repeat'(first|(apply Zax [1] (hI);kernel_rfl;(iterate 7 exact U))|(apply Zai Zab;exact U)|(apply Zag Zab;exact U)|(apply Zau Zab;exact U)|refine Zad U Qt ?_)
  all_goals exact Qe
 | some c=>
  rw[hf]at hF
  dsimp only at hF
  obtain⟨j,h1,h2⟩:=hF
  rw[h1,Nat.zero_add]at hI
  have hv:=Zcc h2
  have hC:=ZdT c.data (by have:=hd c (List.mem_of_getElem? h2);omega)
  have t0:decide (((j:Nat):Int)<0)=false:=decide_eq_false (by omega)
  obtain⟨cty,cnum,cfl,csum,cdata⟩:=c
  dsimp only[ZgM]
  refine AP.ofA (Zam Tryz.func67 U Tryz.ntmps67 U U ?_)
  repeat'(first|(apply Zax [1] (hI);kernel_rfl;(iterate 7 exact U))|(apply Zaa (hC);kernel_rfl;(iterate 4 exact U))|(apply Zai Zab;exact U)|(apply Zag Zab;exact U)|refine Zaf U Qt ?_|(apply Zat Zab;(iterate 6 exact U);(first|exact Qt|rotate_left);(first|with_reducible assumption|decide +kernel|exact U);(first|exact Zaj rfl|with_reducible assumption|decide +kernel|rotate_left)))
  all_goals exact Qe
abbrev bnS (p:PriV)(d:D):List D:=[.int .u64 (p.fl:Int),.int .i64 p.sum,.bool p.dest.i,.int .u64 (p.dest.n:Int),.int .u64 (p.dest.s:Int),.str p.dest.h,.str p.dest.d,.bool p.rep.i,.int .u64 (p.rep.n:Int),.int .u64 (p.rep.s:Int),.str p.rep.h,.str p.rep.d,.bool p.src.i,.int .u64 (p.src.n:Int),.int .u64 (p.src.s:Int),.str p.src.h,.str p.src.d,.int .u64 (p.t:Int),.int .u64 (p.q:Int),.int .u64 (p.life:Int),d]
abbrev zBs:List D:=[.int .u64 0,.int .i64 0,.bool false,.int .u64 0,.int .u64 0,.str [],.str [],.bool false,.int .u64 0,.int .u64 0,.str [],.str [],.bool false,.int .u64 0,.int .u64 0,.str [],.str [],.int .u64 0,.int .u64 0,.int .u64 0,.sl .nil []]
theorem Zsg [Known](b:BunV)(hl:b.bl.length<=1000000):AP Tryz.prog 63 [.agg (bnC b)] (.agg (bnC b)) []:=by
 have hP:=Zsf b.p
 have hlen:=Zb5 b.bl
 have hUb:=ZgW b.bl
 obtain⟨⟨fl,sum,⟨di,dn,ds,dh,dd⟩,⟨ri,rn,rs,rh,rd⟩,⟨xi,xn,xs,xh,xd⟩,t,q,life⟩,l⟩:=b
 dsimp only at *
 refine AP.ofA (Zam Tryz.func63 U Tryz.ntmps63 U U ?_)
 repeat'(first|(apply Zaa (hP);kernel_rfl;(iterate 4 exact U))|(apply Zai Zab;exact U)|(apply Zag Zab;exact U))
 refine ZaB (fun f tm bx fr=>∃(i c:Nat) (L:List E),f+i=l.length/\c=L.length/\L=Zbj (l.take i)/\tm=[(1,.ptr 0 0),(3,.ptr 2 0),(2,.ptr 1 0),(4,.int .i64 (i:Int))] /\
  ((i=0/\bx=[bnS ⟨fl,sum,⟨di,dn,ds,dh,dd⟩,⟨ri,rn,rs,rh,rd⟩,⟨xi,xn,xs,xh,xd⟩,t,q,life⟩ (.sl .ext (Zbj l)),zBs,bnS ⟨fl,sum,⟨di,dn,ds,dh,dd⟩,⟨ri,rn,rs,rh,rd⟩,⟨xi,xn,xs,xh,xd⟩,t,q,life⟩ (.sl .nil [])]/\fr=[]) \/
  (bx=[bnS ⟨fl,sum,⟨di,dn,ds,dh,dd⟩,⟨ri,rn,rs,rh,rd⟩,⟨xi,xn,xs,xh,xd⟩,t,q,life⟩ (.sl .ext (Zbj l)),zBs,bnS ⟨fl,sum,⟨di,dn,ds,dh,dd⟩,⟨ri,rn,rs,rh,rd⟩,⟨xi,xn,xs,xh,xd⟩,t,q,life⟩ (.sl (.own 0) L)]/\fr=[⟨c,5,59⟩]))) (l.length+1) (Lands.mk' (m:=l.length) (Nat.lt_succ_self _) ⟨0,0,[],rfl,rfl,rfl,rfl,.inl ⟨rfl,rfl,rfl⟩⟩ ?_ rfl rfl rfl rfl rfl rfl) ?_
 ·exact .cons rfl (.cons rfl (.cons rfl (.cons rfl .nil)))
 rintro f tm bx fr ⟨i,c,L,hf,hc,hL,rfl,hst⟩
 rcases Nat.lt_or_ge i l.length with hlt|hge
 ·have hdl:decide ((i:Int)<((Zbj l).length:Int))=true:=decide_eq_true (by omega)
  obtain⟨y,hy⟩:∃ y,l[i]?=some y:=⟨_,List.getElem?_eq_getElem hlt⟩
  have hv:=Zcc hy
  have hc7:=Zsc y
  have ei:IntKind.i64.wrap ((i:Int)+1)=((i+1:Nat):Int):=by rw[IntWalk.i64_in _ (by omega)];omega
  have hs:L++[bkE y]=Zbj (l.take (i+1)):=by
   rw[hL,List.take_add_one,hy];exact(List.map_append (f:=bkE) (l₁:=l.take i) (l₂:=[y])).symm
  have hU5:Uni 5 L:=hL ▸ ZgW (l.take i)
  have hUc:=ZgW [y]
  have hbl:=Zb5 (l.take i)
  rw[<- hL,List.length_take]at hbl
  subst hc
  rcases hst with⟨rfl,rfl,rfl⟩ | ⟨rfl,rfl⟩
  ·repeat'(first|(apply Zaa (hc7);kernel_rfl;(iterate 4 exact U))|rw[ei]|refine ZaO Zab U U U U U U (Zaj rfl) (List.cons_ne_nil _ _) U Qd Qd U U U ?_|(apply Zai Zab;exact U)|(apply Zag Zab;exact U)|(apply Zau Zab;exact U)|refine Zad U Qt ?_|refine Zan Zab U U U U ?_|refine ZaL Zab U U U U U U U U U U U U ?_|(apply Zao 9 ZaQ;decide +kernel;kernel_rfl;kernel_rfl;kernel_rfl;exact U;exact U)|(apply Zas;(iterate 4 exact U))|exact AE.nil _ _ _ _|(apply Zaw;exact U)|(apply Zay;exact U;exact U;decide +kernel;exact U)|(apply Zaz;exact U)|exact AO.nil _ _ _|(apply Zar;(decide +kernel))|exact AOs.nil|exact ZaJ rfl rfl|exact Zdh rfl rfl rfl rfl rfl|(apply Zat Zab;(iterate 6 exact U);(first|exact Qt|rotate_left);(first|with_reducible assumption|decide +kernel|exact U);(first|exact Zaj rfl|with_reducible assumption|decide +kernel|rotate_left)))
   refine Lands.mk' (m:=f-1) (by omega) ⟨1,1,[bkE y],by omega,rfl,by rw[<- hs,hL];rfl,rfl,.inr ⟨rfl,rfl⟩⟩ ?_ rfl rfl rfl rfl rfl rfl
   exact .cons rfl (.cons rfl (.cons rfl (.cons rfl .nil)))
  ·repeat'(first|(apply Zaa (hc7);kernel_rfl;(iterate 4 exact U))|rw[ei]|(apply Zai Zab;exact U)|(apply Zag Zab;exact U)|(apply Zau Zab;exact U)|refine Zad U Qt ?_|refine Zan Zab U U U U ?_|refine ZaL Zab U U U U U U U U U U U U ?_|(apply Zao 9 ZaQ;decide +kernel;kernel_rfl;kernel_rfl;kernel_rfl;exact U;exact U)|(apply Zas;(iterate 4 exact U))|exact AE.nil _ _ _ _|(apply Zaw;exact U)|(apply Zay;exact U;exact U;decide +kernel;exact U)|(apply Zaz;exact U)|exact AO.nil _ _ _|(apply Zar;(decide +kernel))|exact AOs.nil|exact ZaJ rfl rfl|exact Zdh rfl rfl rfl rfl rfl|(apply ZaF Zab;(iterate 6 exact U);(first|with_reducible assumption|decide +kernel|exact U|rotate_left);exact U;exact U;(first|exact Zaj rfl|with_reducible assumption|decide +kernel|rotate_left);(first|exact Zaj rfl|with_reducible assumption|decide +kernel|rotate_left);(first|exact Qt|rotate_left);(first|exact Qt|rotate_left);(first|exact Qt|rotate_left);exact U;exact U)|(apply Zat Zab;(iterate 6 exact U);(first|exact Qt|rotate_left);(first|with_reducible assumption|decide +kernel|exact U);(first|exact Zaj rfl|with_reducible assumption|decide +kernel|rotate_left)))
   ·refine Lands.mk' (m:=f-1) (by omega) ⟨i+1,L.length+1,_,by omega,by rw[List.length_append];rfl,hs,rfl,.inr ⟨rfl,rfl⟩⟩ ?_ rfl rfl rfl rfl rfl rfl
    exact .cons rfl (.cons rfl (.cons rfl (.cons rfl .nil)))
   all_goals(first|rfl|(simp only[List.length_append,List.length_cons,List.length_nil,List.length_map,Zaq];done)|(simp only[List.length_append,List.length_cons,List.length_nil,List.length_map,Zaq]at *;(try unfold maxLen);(try simp only[Nat.add_mul]);omega))
 ·have hdl:decide ((i:Int)<((Zbj l).length:Int))=false:=decide_eq_false (by omega)
  rw[List.take_of_length_le hge]at hL
  subst hL
  rcases hst with⟨rfl,rfl,rfl⟩ | ⟨rfl,rfl⟩
  ·have:l=[]:=List.eq_nil_of_length_eq_zero (by omega)
   subst this
   repeat'(first|(apply Zai Zab;exact U)|(apply Zag Zab;exact U)|(apply Zau Zab;exact U)|refine Zaf U Qt ?_|refine Zan Zab U U U U ?_)
   all_goals exact Qe
  ·repeat'(first|(apply Zai Zab;exact U)|(apply Zag Zab;exact U)|(apply Zau Zab;exact U)|refine Zaf U Qt ?_|refine Zan Zab U U U U ?_)
   all_goals exact Qe
theorem Zpv (l:List BlkV)(k n:Nat)(c:BlkV):Zen (l++[c]) k n=Zen l k n+(if ZpY k n c then 1 else 0):=by
 unfold Zen
 rw[List.countP_append]
 simp[List.countP_cons]
theorem Ze8 [Known](b:BunV)(kind ZaK:Nat)(hl:b.bl.length<=1000000):AP Tryz.prog 117 [.agg (bnC b),.int .u64 (kind:Int),.int .u64 (ZaK:Int)] (.int .i64 (Zen b.bl kind ZaK:Int)) []:=by
 have hlen:=Zb5 b.bl
 have hUb:=ZgW b.bl
 obtain⟨⟨fl,sum,⟨di,dn,ds,dh,dd⟩,⟨ri,rn,rs,rh,rd⟩,⟨xi,xn,xs,xh,xd⟩,t,q,life⟩,l⟩:=b
 dsimp only at *
 refine AP.ofA (Zam Tryz.func117 U Tryz.ntmps117 U U ?_)
 repeat'(first|(apply Zag Zab;exact U))
 refine ZaB (fun f tm bx fr=>∃(i:Nat),f+i=l.length/\tm=[(1,.int .u64 (kind:Int)),(2,.int .u64 (ZaK:Int)),(3,.ptr 0 0),(7,.int .i64 (Zen (l.take i) kind ZaK:Int)),(8,.int .i64 (i:Int))]/\bx=[bnS ⟨fl,sum,⟨di,dn,ds,dh,dd⟩,⟨ri,rn,rs,rh,rd⟩,⟨xi,xn,xs,xh,xd⟩,t,q,life⟩ (.sl .ext (Zbj l))]/\fr=[]) (l.length+1) (Lands.mk' (m:=l.length) (Nat.lt_succ_self _) ⟨0,rfl,rfl,rfl,rfl⟩ ?_ rfl rfl rfl rfl rfl rfl) ?_
 ·exact .cons rfl (.cons rfl (.cons rfl (.cons rfl (.cons rfl .nil))))
 rintro f tm bx fr ⟨i,hf,rfl,rfl,rfl⟩
 rcases Nat.lt_or_ge i l.length with hlt|hge
 ·have hdl:decide ((i:Int)<((Zbj l).length:Int))=true:=decide_eq_true (by omega)
  obtain⟨y,hy⟩:∃ y,l[i]?=some y:=⟨_,List.getElem?_eq_getElem hlt⟩
  have hv:=Zcc hy
  have ei:IntKind.i64.wrap ((i:Int)+1)=((i+1:Nat):Int):=by rw[IntWalk.i64_in _ (by omega)];omega
  have hcl:Zen (l.take i) kind ZaK<=(l.take i).length:=List.countP_le_length
  rw[List.length_take]at hcl
  have hn:Zen (l.take (i+1)) kind ZaK=Zen (l.take i) kind ZaK+(if ZpY kind ZaK y then 1 else 0):=by
   rw[List.take_add_one,hy];exact Zpv _ _ _ _
  unfold ZpY at hn
  generalize Zen (l.take i) kind ZaK=m at *
  have em:IntKind.i64.wrap ((m:Int)+1)=((m+1:Nat):Int):=by rw[IntWalk.i64_in _ (by omega)];omega
  cases t1:decide ((kind:Int)>0)<;>cases t2:((y.ty:Int)==(kind:Int))<;>cases t3:((kind:Int)==0)<;>cases t4:((y.num:Int)==(ZaK:Int))<;>rw[t1,t2,t3,t4]at hn
  all_goals repeat'(first|rw[ei]|rw[em]|(apply Zai Zab;exact U)|(apply Zag Zab;exact U)|(apply Zau Zab;exact U)|refine Zae U U U Qt ?_|refine Zap U U U Qt ?_|refine Zal U U U Qt ?_|refine ZdR U U U ?_|refine Zak U Qt U U ?_|refine Zah U Qt U U ?_|refine Zad U Qt ?_|refine Zaf U Qt ?_|refine Zan Zab U U U U ?_|(apply Zat Zab;(iterate 6 exact U);(first|exact Qt|rotate_left);(first|with_reducible assumption|decide +kernel|exact U);(first|exact Zaj rfl|with_reducible assumption|decide +kernel|rotate_left)))
  all_goals refine Lands.mk' (m:=f-1) (by omega) ⟨i+1,by omega,by rw[hn],rfl,rfl⟩ ?_ rfl rfl rfl rfl rfl rfl
  all_goals exact .cons rfl (.cons rfl (.cons rfl (.cons rfl (.cons rfl .nil))))
 ·have hdl:decide ((i:Int)<((Zbj l).length:Int))=false:=decide_eq_false (by omega)
  rw[List.take_of_length_le hge]
  repeat'(first|(apply Zai Zab;exact U)|(apply Zag Zab;exact U)|(apply Zau Zab;exact U)|refine Zaf U Qt ?_|refine Zan Zab U U U U ?_)
  all_goals exact Qe
theorem Zn3 [Known](b:BunV)(kind:Nat)(hl:b.bl.length<=1000000):AP Tryz.prog 68 [.agg (bnC b),.int .u64 (kind:Int)] (.int .i64 (fiQ (ZfL kind) b.bl 0)) []:=by
 have hlen:=Zb5 b.bl
 have hUb:=ZgW b.bl
 obtain⟨⟨fl,sum,⟨di,dn,ds,dh,dd⟩,⟨ri,rn,rs,rh,rd⟩,⟨xi,xn,xs,xh,xd⟩,t,q,life⟩,l⟩:=b
 dsimp only at *
 generalize hfin:fiQ (ZfL kind) l 0=fin
 refine AP.ofA (Zam Tryz.func68 U Tryz.ntmps68 U U ?_)
 repeat'(first|(apply Zag Zab;exact U))
 refine ZaB (fun f tm bx fr=>∃(i:Nat),f+i=l.length/\fiQ (ZfL kind) (l.drop i) i=fin/\tm=[(1,.int .u64 (kind:Int)),(2,.ptr 0 0),(5,.int .i64 (i:Int))]/\bx=[bnS ⟨fl,sum,⟨di,dn,ds,dh,dd⟩,⟨ri,rn,rs,rh,rd⟩,⟨xi,xn,xs,xh,xd⟩,t,q,life⟩ (.sl .ext (Zbj l))]/\fr=[]) (l.length+1) (Lands.mk' (m:=l.length) (Nat.lt_succ_self _) ⟨0,by omega,hfin,rfl,rfl,rfl⟩ ?_ rfl rfl rfl rfl rfl rfl) ?_
 ·exact .cons rfl (.cons rfl (.cons rfl .nil))
 rintro f tm bx fr ⟨i,hf,hq,rfl,rfl,rfl⟩
 rcases Nat.lt_or_ge i l.length with hlt|hge
 ·have hdl:decide ((i:Int)<((Zbj l).length:Int))=true:=decide_eq_true (by omega)
  obtain⟨y,hy⟩:∃ y,l[i]?=some y:=⟨_,List.getElem?_eq_getElem hlt⟩
  have hv:=Zcc hy
  have hdr:l.drop i=y::l.drop (i+1):=by
   rw[List.drop_eq_getElem_cons hlt];congr 1
   exact(List.getElem?_eq_some_iff.1 hy).2
  rw[hdr,fiQ]at hq
  have ei:IntKind.i64.wrap ((i:Int)+1)=((i+1:Nat):Int):=by rw[IntWalk.i64_in _ (by omega)];omega
  unfold ZfL at hq
  cases t1:((y.ty:Int)==(kind:Int)) with
  | false=>
   rw[t1]at hq
   repeat'(first|rw[ei]|(apply Zai Zab;exact U)|(apply Zag Zab;exact U)|(apply Zau Zab;exact U)|refine Zad U Qt ?_|refine Zaf U Qt ?_|refine Zan Zab U U U U ?_|(apply Zat Zab;(iterate 6 exact U);(first|exact Qt|rotate_left);(first|with_reducible assumption|decide +kernel|exact U);(first|exact Zaj rfl|with_reducible assumption|decide +kernel|rotate_left)))
   refine Lands.mk' (m:=f-1) (by omega) ⟨i+1,by omega,hq,rfl,rfl,rfl⟩ ?_ rfl rfl rfl rfl rfl rfl
   exact .cons rfl (.cons rfl (.cons rfl .nil))
  | true=>
   rw[t1]at hq
   have hq:(i:Int)=fin:=hq
   subst hq
   repeat'(first|(apply Zai Zab;exact U)|(apply Zag Zab;exact U)|(apply Zau Zab;exact U)|refine Zad U Qt ?_|refine Za2 ?_|refine Zan Zab U U U U ?_|(apply Zat Zab;(iterate 6 exact U);(first|exact Qt|rotate_left);(first|with_reducible assumption|decide +kernel|exact U);(first|exact Zaj rfl|with_reducible assumption|decide +kernel|rotate_left)))
   all_goals exact Qe
 ·have hdl:decide ((i:Int)<((Zbj l).length:Int))=false:=decide_eq_false (by omega)
  rw[List.drop_eq_nil_of_le hge]at hq
  have hq:(-1:Int)=fin:=hq
  subst hq
  repeat'(first|(apply Zai Zab;exact U)|(apply Zag Zab;exact U)|(apply Zau Zab;exact U)|refine Zaf U Qt ?_|refine Zan Zab U U U U ?_)
  all_goals exact Qe
theorem Zt7 [Known](fl sm t q life:Nat)(sum:Int)(di:Bool)(dn ds:Nat)(dh dd:List UInt8)(ri:Bool)(rn rs:Nat)(rh rd:List UInt8)(xi:Bool)(xn xs:Nat)(xh xd:List UInt8)(ak:Int)(an:Nat)(ab:List UInt8)(al:List It)(bk:Int)(bn:Nat)(bb:List UInt8)(bl:List It)(ck:Int)(cn:Nat)(cb:List UInt8)(cl:List It)(sk:Int)(sn:Nat)(sb:List UInt8)(sl:List It)(ok:Bool)(e2:IntKind.u64.wrap sum=(sm:Int))
  (hL:AP Tryz.prog 94 [.sl .ext [nmE t,nmE q]] (.agg [.int .i64 4,.int .u64 0,.sl .ext [],.sl .ext [nmE t,nmE q]]) [])
  (hD:AP Tryz.prog 47 [.agg [.bool di,.int .u64 (dn:Int),.int .u64 (ds:Int),.str dh,.str dd]] (.agg (itC ak an ab al)) [])
  (hX:AP Tryz.prog 47 [.agg [.bool xi,.int .u64 (xn:Int),.int .u64 (xs:Int),.str xh,.str xd]] (.agg (itC ck cn cb cl)) [])
  (hR:AP Tryz.prog 47 [.agg [.bool ri,.int .u64 (rn:Int),.int .u64 (rs:Int),.str rh,.str rd]] (.agg (itC bk bn bb bl)) [])
  (hS:AP Tryz.prog 95 [.sl .ext [nmE 7,nmE fl,nmE sm,.agg [.int .i64 ak,.int .u64 (an:Int),.sl (ab.map E.byte),.sl (ZaC al)],.agg [.int .i64 ck,.int .u64 (cn:Int),.sl (cb.map E.byte),.sl (ZaC cl)],.agg [.int .i64 bk,.int .u64 (bn:Int),.sl (bb.map E.byte),.sl (ZaC bl)],.agg [.int .i64 4,.int .u64 0,.sl [],.sl [nmE t,nmE q]],nmE life],.int .i64 sum] (.tup [.agg (itC sk sn sb sl),.bool ok]) []) :
  AP Tryz.prog 23 [.agg [.int .u64 (fl:Int),.int .i64 sum,.bool di,.int .u64 (dn:Int),.int .u64 (ds:Int),.str dh,.str dd,.bool ri,.int .u64 (rn:Int),.int .u64 (rs:Int),.str rh,.str rd,.bool xi,.int .u64 (xn:Int),.int .u64 (xs:Int),.str xh,.str xd,.int .u64 (t:Int),.int .u64 (q:Int),.int .u64 (life:Int)]] (.agg (itC sk sn sb sl)) []:=by
 refine AP.ofA (Zam Tryz.func23 U Tryz.ntmps23 U U ?_)
 repeat'(first|(apply Zaa (hL);kernel_rfl;(iterate 4 exact U))|rw[e2]|(apply Zaa (hD);kernel_rfl;(iterate 4 exact U))|(apply Zaa (hX);kernel_rfl;(iterate 4 exact U))|(apply Zaa (hR);kernel_rfl;(iterate 4 exact U))|(apply Zaa (hS);kernel_rfl;(iterate 4 exact U))|(apply Zai Zab;exact U)|(apply Zag Zab;exact U)|refine ZaL Zab U U U U U U U U U U U U ?_|(apply Zao 22 ZaQ;decide +kernel;kernel_rfl;kernel_rfl;kernel_rfl;exact U;exact U)|(apply Zas;(iterate 4 exact U))|exact AE.nil _ _ _ _|(apply Zaw;exact U)|(apply Zay;exact U;exact U;decide +kernel;exact U)|(apply Zaz;exact U)|exact AO.nil _ _ _|(apply Zar;(decide +kernel))|exact AOs.nil|exact ZaJ rfl rfl)
 all_goals exact Qe
theorem ZlP [Known][KnownU8](p:PriV)(h:Zbt p=true)(hfl:p.fl<18446744073709551616):AP Tryz.prog 23 [.agg (prC p)] (itD (ZcL p)) []:=by
 obtain⟨h1,h2,h3,h4,h5,h6⟩:=ZcQ h
 obtain⟨i1,_,_⟩:=Zco.1 h5
 have hS:=Zhl (ZbW p) p.sum.toNat (by omega) (ZqT h hfl) (by rw[ZiV];omega) (by have:=(ZgA h).1;omega) (Zr4 h p.sum.toNat (by omega))
 have e1:((p.sum.toNat:Nat):Int)=p.sum:=by omega
 have e2:IntKind.u64.wrap p.sum=((p.sum.toNat:Nat):Int):=by rw[IntKind.wrap_u64];omega
 rw[e1]at hS
 have hD:=Zcp p.dest h3
 have hR:=Zcp p.rep h4
 have hX:=Zcp p.src i1
 have hL:=Zgz [nmE p.t,nmE p.q]
 unfold ZcL
 generalize Zb6 (ZbW p) p.sum.toNat=S at *
 unfold ZbW at hS
 obtain⟨fl,sum,d,r,x,t,q,life⟩:=p
 dsimp only at *
 generalize Zbg d=I1 at *
 generalize Zbg r=I2 at *
 generalize Zbg x=I3 at *
 obtain⟨di,dn,ds,dh,dd⟩:=d
 obtain⟨ri,rn,rs,rh,rd⟩:=r
 obtain⟨xi,xn,xs,xh,xd⟩:=x
 obtain⟨ak,an,ab,al⟩:=I1
 obtain⟨bk,bn,bb,bl⟩:=I2
 obtain⟨ck,cn,cb,cl⟩:=I3
 obtain⟨⟨k,n,b,l⟩,ok⟩:=S
 exact Zt7 fl sum.toNat t q life sum di dn ds dh dd ri rn rs rh rd xi xn xs xh xd ak an ab al bk bn bb bl ck cn cb cl k n b l ok e2 hL hD hX hR hS
def Zbi (r b:Nat):Nat:=if r ≥ b then r-b else r
def Zi6 (fl:Nat):Nat:=Zbi (Zbi (Zbi (Zbi (Zbi (Zbi fl 262144) 131072) 16384) 32) 4) 2
theorem Zn4:∀ a,a<128->∀ c,c<128->((Zbi (Zbi (Zbi (a*128+c) 32) 4) 2==0)=(((a*128+c) &&& 18446744073709141977)==0)):=by decide +kernel
theorem Zpw (x:Nat)(h:x<16384):((Zbi (Zbi (Zbi x 32) 4) 2==0)=((x &&& 18446744073709141977)==0)):=by
 have e:x=x/128*128+x % 128:=by omega
 have:=Zn4 (x/128) (by omega) (x % 128) (by omega)
 rw[<- e]at this
 exact this
theorem Zpx:∀ x,x<32->((Zbi (Zbi (Zbi x 16) 8) 1==0)=((x &&& (18446744073709141977/16384))==0)):=by decide +kernel
theorem Zn5 (M h l b:Nat)(hl:l<M):Zbi (h*M+l) (b*M)=Zbi h b*M+l:=by
 unfold Zbi
 by_cases hb:h ≥ b
 ·have h1:b*M<=h*M:=Nat.mul_le_mul_right M hb
  have h2:h*M+l ≥ b*M:=by omega
  rw[if_pos hb,if_pos h2,Nat.sub_mul]
  omega
 ·have h1:(h+1)*M<=b*M:=Nat.mul_le_mul_right M (by omega)
  rw[Nat.add_mul,Nat.one_mul]at h1
  have h2:¬ h*M+l ≥ b*M:=by omega
  rw[if_neg hb,if_neg h2]
theorem ZhY (h l b:Nat)(hl:l<16384):Zbi (h*16384+l) (b*16384)=Zbi h b*16384+l:=Zn5 16384 h l b hl
theorem Zem (z b:Nat):z-b<=Zbi z b:=by
 unfold Zbi
 split<;>omega
theorem Zn6 {y:Nat}(h:16384<=y):(Zbi (Zbi (Zbi y 32) 4) 2==0)=false:=by
 have h1:=Zem y 32
 generalize Zbi y 32=a at *
 have h2:=Zem a 4
 generalize Zbi a 4=c at *
 have h3:=Zem c 2
 generalize Zbi c 2=d at *
 rw[beq_eq_false_iff_ne]
 omega
theorem Zpy {y:Nat}(h:32<=y):1<=Zbi (Zbi (Zbi y 16) 8) 1:=by
 have h1:=Zem y 16
 generalize Zbi y 16=a at *
 have h2:=Zem a 8
 generalize Zbi a 8=c at *
 have h3:=Zem c 1
 generalize Zbi c 1=d at *
 omega
theorem ZlQ (fl:Nat)(h:fl<18446744073709551616):(bits .andNot .u64 (fl:Int) 409638==0)=(Zi6 fl==0):=by
 rw[show(409638:Int)=((409638:Nat):Int) from rfl,u64_andNot_nat fl 409638 h (by omega)]
 rw[show(18446744073709551615-409638:Nat)=18446744073709141977 from rfl]
 have hs:fl=fl/16384*16384+fl % 16384:=by omega
 have hlo:=Zpw (fl % 16384) (Nat.mod_lt _ (by omega))
 have e:∀ x:Nat,((((fl &&& 18446744073709141977:Nat)):Int)==0)=((fl &&& 18446744073709141977)==0):=fun _=>by
  rw[Bool.eq_iff_iff,beq_iff_eq,beq_iff_eq];omega
 rw[e 0]
 have hd:(fl &&& 18446744073709141977)/16384=(fl/16384) &&& (18446744073709141977/16384):=by
  rw[show(16384:Nat)=2 ^ 14 from rfl,<- Nat.shiftRight_eq_div_pow,<- Nat.shiftRight_eq_div_pow,<- Nat.shiftRight_eq_div_pow,Nat.shiftRight_and_distrib]
 have hm:(fl &&& 18446744073709141977) % 16384=(fl % 16384 &&& 18446744073709141977) % 16384:=by
  rw[show(16384:Nat)=2 ^ 14 from rfl,<- Nat.and_two_pow_sub_one_eq_mod,<- Nat.and_two_pow_sub_one_eq_mod,<- Nat.and_two_pow_sub_one_eq_mod]
  apply Nat.eq_of_testBit_eq
  intro i
  simp only[Nat.testBit_and]
  cases fl.testBit i<;>cases(18446744073709141977:Nat).testBit i<;>cases((2 ^ 14-1:Nat)).testBit i<;>rfl
 have hl2:(fl % 16384 &&& 18446744073709141977)<16384:=Nat.lt_of_le_of_lt Nat.and_le_left (Nat.mod_lt _ (by omega))
 rw[Nat.mod_eq_of_lt hl2]at hm
 have hr:Zi6 fl=Zbi (Zbi (Zbi (Zbi (Zbi (Zbi (fl/16384) 16) 8) 1*16384+fl % 16384) 32) 4) 2:=by
  unfold Zi6
  have hlt:=Nat.mod_lt fl (show 16384>0 by omega)
  conv=>lhs;rw[hs]
  rw[show(262144:Nat)=16*16384 from rfl,ZhY _ _ _ hlt,show(131072:Nat)=8*16384 from rfl,ZhY _ _ _ hlt]
  have:=ZhY (Zbi (Zbi (fl/16384) 16) 8) (fl % 16384) 1 hlt
  rw[Nat.one_mul]at this
  rw[this]
 rw[hr]
 by_cases h32:fl/16384<32
 ·have hhi:=Zpx _ h32
  cases hh:(Zbi (Zbi (Zbi (fl/16384) 16) 8) 1==0) with
  | true=>
   rw[hh]at hhi
   have h0:Zbi (Zbi (Zbi (fl/16384) 16) 8) 1=0:=by simpa using hh
   have h1:(fl/16384) &&& (18446744073709141977/16384)=0:=by simpa using hhi.symm
   rw[h0,Nat.zero_mul,Nat.zero_add,hlo]
   rw[h1]at hd
   rw[Bool.eq_iff_iff,beq_iff_eq,beq_iff_eq]
   omega
  | false=>
   rw[hh]at hhi
   have h0:Zbi (Zbi (Zbi (fl/16384) 16) 8) 1 ≠ 0:=by simpa using hh
   have h1:(fl/16384) &&& (18446744073709141977/16384) ≠ 0:=by simpa using hhi.symm
   have e1:((fl &&& 18446744073709141977)==0)=false:=by
    rw[beq_eq_false_iff_ne]
    intro h2
    rw[h2]at hd
    exact h1 (by omega)
   rw[e1]
   symm
   exact Zn6 (by omega)
 ·have h1:(fl/16384) &&& (18446744073709141977/16384) ≠ 0:=fun h2=>by
   have h3:((fl/16384) &&& (18446744073709141977/16384))/32=fl/16384/32:=by
    rw[show(32:Nat)=2 ^ 5 from rfl,<- Nat.shiftRight_eq_div_pow,<- Nat.shiftRight_eq_div_pow,Nat.shiftRight_and_distrib,Nat.shiftRight_eq_div_pow,Nat.shiftRight_eq_div_pow]
    rw[show(18446744073709141977/16384/2 ^ 5:Nat)=2 ^ 45-1 from by decide,Nat.and_two_pow_sub_one_eq_mod,Nat.mod_eq_of_lt (by omega)]
   rw[h2]at h3
   omega
  have e1:((fl &&& 18446744073709141977)==0)=false:=by
   rw[beq_eq_false_iff_ne]
   intro h2
   rw[h2]at hd
   exact h1 (by omega)
  rw[e1]
  symm
  have h4:=Zpy (y:=fl/16384) (by omega)
  exact Zn6 (by omega)
end Go.Proofs.YtakblclkflnnpaaGreatDoor
end
