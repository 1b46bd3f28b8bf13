/- Hops as the document says them: the blocks that are sent on, if one tells the previous name. -/
import Derived.Test.YtmljabhmajehnaaGreatDoorO44
set_option linter.unusedVariables false
set_option linter.unusedSimpArgs false
section
open Go.RowKit Go.Pl Go.Av
namespace Go.Proofs.YtmljabhmajehnaaGreatDoor
set_option maxHeartbeats 4000000
theorem F2 [Known][KnownU8](b:BunV)(self:EidV)(s n m κ k0 k6:Int)
  (hL:AP Tryz.prog 86 [.agg (bnC b),.int .u64 s,.int .u64 n] (.tup [.int .u64 m,.int .i64 0]) [])
  (hK:AP Tryz.prog 87 [.agg (eC self)] (.int .i64 κ) []) (t2:decide (κ<1)=false) (t4:(m==0)=false)
  (hT:AP Tryz.prog 37 [.agg (bnC b),.int .u64 10] (.int .i64 k0) [])
  (hk:decide (k0 ≥ 0)=false\/∃ c0 x0 y0 ok0,decide (k0 ≥ 0)=true/\0<=k0/\b.bl[k0.toNat]?=some c0/\AP Tryz.prog 88 [byE c0.data] (.tup [.int .u64 x0,.int .u64 y0,.bool ok0]) []/\(x0==y0)=false)
  (hS:AP Tryz.prog 37 [.agg (bnC b),.int .u64 6] (.int .i64 k6) [])
  (tb:decide (k6<0)=false)
  (hE:ZE self=true) (hbl:b.bl.length<=1000) (hok:∀ c ∈ b.bl,UB c/\(WF c.data).1<18446744073709551616) (hfl:b.p.fl<18446744073709551616) (hf1:Fit b.p.dest) (hf2:Fit b.p.rep) (hf3:Fit b.p.src)
  (d:D) (hd:onD (Vk b.p (XM self (IntKind.u64.wrap (n-s)) [] b.bl))=d) :
  AP Tryz.prog 42 [.agg (bnC b),.agg (eC self),.int .u64 s,.int .u64 n] (d) []:=by
 have hlen:=Yx b.bl
 have hU:=Vl b.bl
 obtain⟨⟨fl,sum,⟨di,dn,ds,dh,dd⟩,⟨ri,rn,rs,rh,rd⟩,⟨xi,xn,xs,xh,xd⟩,t,q,life⟩,l⟩:=b
 obtain⟨si,sn,ss,sh,sd⟩:=self
 try dsimp only at *
 generalize hFq:XM ⟨si,sn,ss,sh,sd⟩ (IntKind.u64.wrap (n-s)) [] l=F at hd
 refine AP.ofA (Zl Tryz.func42 U Tryz.ntmps42 U U ?_)
 repeat'(first|(apply Zb (hL);kernel_rfl;(iterate 4 exact U))|(apply Zb (hK);kernel_rfl;(iterate 4 exact U))|(apply Zb (hT);kernel_rfl;(iterate 4 exact U))|refine T3 50 (fun tm bx fr=>tm=[(2,.int .u64 s),(3,.int .u64 n),(4,.ptr 0 0),(5,.ptr 1 0),(8,.ptr 2 0),(10,.ptr 3 0),(12,.int .i64 0)]/\bx=[bnS ⟨fl,sum,⟨di,dn,ds,dh,dd⟩,⟨ri,rn,rs,rh,rd⟩,⟨xi,xn,xs,xh,xd⟩,t,q,life⟩ (.sl .ext (ZP l)),[.bool si,.int .u64 (sn:Int),.int .u64 (ss:Int),.str sh,.str sd],zBs,zBs]/\fr=[]) ?_ (RQ ?_)|(apply Zh Za;exact U)|(apply Zg Za;exact U)|(apply Zo Za;exact U)|(apply Ze;(iterate 3 exact U);(first|with_reducible assumption|decide +kernel|(solve|simp only[bn])))|(apply Zi;exact U;(first|with_reducible assumption|decide +kernel|(solve|simp only[bn]));exact U;exact U)|(apply Zf;exact U;(first|with_reducible assumption|decide +kernel|(solve|simp only[bn]))))
 ·rintro tm bx fr ⟨rfl,rfl,rfl⟩
  repeat'(first|(apply Zb (hS);kernel_rfl;(iterate 4 exact U))|(apply Zh Za;exact U)|(apply Zg Za;exact U)|(apply Zo Za;exact U)|(apply Zf;exact U;(first|with_reducible assumption|decide +kernel|(solve|simp only[bn]))))
  refine ZJ (fun f tm bx fr=>∃(i c:Nat) (acc:List BlkV) (f0:Fr),f+i=l.length/\c=(ZP acc).length/\(∀ c ∈ acc,UB c)/\acc.length<=i+1/\XM ⟨si,sn,ss,sh,sd⟩ (IntKind.u64.wrap (n-s)) acc (l.drop i)=F/\tm=[(2,.int .u64 s),(3,.int .u64 n),(4,.ptr 0 0),(5,.ptr 1 0),(8,.ptr 2 0),(10,.ptr 3 0),(12,.int .i64 0),(17,.ptr 4 0),(19,.int .i64 (i:Int))] /\
    ((acc=[]/\bx=[bnS ⟨fl,sum,⟨di,dn,ds,dh,dd⟩,⟨ri,rn,rs,rh,rd⟩,⟨xi,xn,xs,xh,xd⟩,t,q,life⟩ (.sl .ext (ZP l)),[.bool si,.int .u64 (sn:Int),.int .u64 (ss:Int),.str sh,.str sd],zBs,zBs,bnS ⟨fl,sum,⟨di,dn,ds,dh,dd⟩,⟨ri,rn,rs,rh,rd⟩,⟨xi,xn,xs,xh,xd⟩,t,q,life⟩ (.sl .nil [])]/\fr=[]) \/
    (bx=[bnS ⟨fl,sum,⟨di,dn,ds,dh,dd⟩,⟨ri,rn,rs,rh,rd⟩,⟨xi,xn,xs,xh,xd⟩,t,q,life⟩ (.sl .ext (ZP l)),[.bool si,.int .u64 (sn:Int),.int .u64 (ss:Int),.str sh,.str sd],zBs,zBs,bnS ⟨fl,sum,⟨di,dn,ds,dh,dd⟩,⟨ri,rn,rs,rh,rd⟩,⟨xi,xn,xs,xh,xd⟩,t,q,life⟩ (.sl (.own 1) (ZP acc))]/\fr=[f0,⟨c,5,88⟩]))) (l.length+1) (Lands.mk' (m:=l.length) (Nat.lt_succ_self _) ⟨0,0,[],default,by omega,rfl,by simp,by simp,hFq,rfl,.inl ⟨rfl,rfl,rfl⟩⟩ ?_ rfl rfl rfl rfl rfl rfl) ?_
  ·exact .cons rfl (.cons rfl (.cons rfl (.cons rfl (.cons rfl (.cons rfl (.cons rfl (.cons rfl (.cons rfl .nil))))))))
  rintro f tm bx fr ⟨i,c,acc,f0,hf,hc,hab,hal,hq,rfl,hst⟩
  rcases Nat.lt_or_ge i l.length with hlt|hge
  ·have hdl:decide ((i:Int)<((ZP l).length:Int))=true:=decide_eq_true (by omega)
   obtain⟨z,hy⟩:∃ y,l[i]?=some y:=⟨_,List.getElem?_eq_getElem hlt⟩
   obtain⟨hzo,hzl⟩:=hok z (List.mem_of_getElem? hy)
   have hG:=Oj z ⟨si,sn,ss,sh,sd⟩ (IntKind.u64.wrap (n-s)) hE hzo hzl
   have hco:=RR ⟨si,sn,ss,sh,sd⟩ (IntKind.u64.wrap (n-s)) hE hzo hzl
   have hdr:l.drop i=z::l.drop (i+1):=by
    rw[List.drop_eq_getElem_cons hlt];congr 1
    exact(List.getElem?_eq_some_iff.1 hy).2
   rw[hdr,XM]at hq
   have ei:IntKind.i64.wrap ((i:Int)+1)=((i+1:Nat):Int):=by rw[IntWalk.i64_in _ (by omega)];omega
   have hv:=Yy hy
   generalize WV z ⟨si,sn,ss,sh,sd⟩ (IntKind.u64.wrap (n-s))=r at *
   obtain⟨cb,okc⟩:=r
   obtain⟨zty,znum,zfl,zsum,zdata⟩:=z
   dsimp only at hq hco
   cases okc with
   | false=>
    replace hG:AP Tryz.prog 91 _ (.tup [.agg (bkC cb),.bool false]) []:=hG
    dsimp only at hq
    subst hq
    dsimp only[Vk]at hd
    subst hd
    rcases hst with⟨rfl,rfl,rfl⟩ | ⟨rfl,rfl⟩
    ·repeat'(first|(apply Zb (hG);kernel_rfl;(iterate 4 exact U))|(apply Zh Za;exact U)|(apply Zg Za;exact U)|(apply Zo Za;exact U)|(apply Zd;exact U;(first|with_reducible assumption|decide +kernel|(solve|simp only[bn])))|refine Z0 ?_|refine Zm Za U U U U ?_|(apply Zq 15 ZF;decide +kernel;kernel_rfl;kernel_rfl;kernel_rfl;exact U;exact U)|(apply Zt;(iterate 4 exact U))|exact AE.nil _ _ _ _|(apply Zw;exact U)|(apply Yp;exact U)|(apply WI;exact U)|(apply Zz;exact U;exact U;decide +kernel;exact U)|(apply ZA;exact U)|(apply YQ;exact U)|(apply VA;exact U)|exact AO.nil _ _ _|(apply Zs;(decide +kernel))|(apply Yf;(iterate 3 exact U))|exact AOs.nil|exact ZI rfl rfl|exact WB rfl rfl|exact WP rfl|(apply Zu Za;(iterate 6 exact U);(first|exact Qt|rotate_left);(first|with_reducible assumption|decide +kernel|exact U);(first|exact Zj rfl|with_reducible assumption|decide +kernel|rotate_left)))
     all_goals exact Qe
    ·repeat'(first|(apply Zb (hG);kernel_rfl;(iterate 4 exact U))|(apply Zh Za;exact U)|(apply Zg Za;exact U)|(apply Zo Za;exact U)|(apply Zd;exact U;(first|with_reducible assumption|decide +kernel|(solve|simp only[bn])))|refine Z0 ?_|refine Zm Za U U U U ?_|(apply Zq 15 ZF;decide +kernel;kernel_rfl;kernel_rfl;kernel_rfl;exact U;exact U)|(apply Zt;(iterate 4 exact U))|exact AE.nil _ _ _ _|(apply Zw;exact U)|(apply Yp;exact U)|(apply WI;exact U)|(apply Zz;exact U;exact U;decide +kernel;exact U)|(apply ZA;exact U)|(apply YQ;exact U)|(apply VA;exact U)|exact AO.nil _ _ _|(apply Zs;(decide +kernel))|(apply Yf;(iterate 3 exact U))|exact AOs.nil|exact ZI rfl rfl|exact WB rfl rfl|exact WP rfl|(apply Zu Za;(iterate 6 exact U);(first|exact Qt|rotate_left);(first|with_reducible assumption|decide +kernel|exact U);(first|exact Zj rfl|with_reducible assumption|decide +kernel|rotate_left)))
     all_goals exact Qe
   | true=>
    replace hG:AP Tryz.prog 91 _ (.tup [.agg (bkC cb),.bool true]) []:=hG
    dsimp only at hq
    have hab2:∀ c ∈ acc++[cb],UB c:=fun c hc=>by
     rcases List.mem_append.1 hc with hc|hc
     ·exact hab c hc
     ·simp at hc;subst hc;exact hco
    have hU5:=Vl acc
    have hUc:=Vl [cb]
    subst hc
    have hbk:=Yx acc
    rcases hst with⟨rfl,rfl,rfl⟩ | ⟨rfl,rfl⟩
    ·repeat'(first|(apply Zb (hG);kernel_rfl;(iterate 4 exact U))|rw[ei]|refine ZT Za U U U U U U (Zj rfl) (List.cons_ne_nil _ _) U Qd Qd U U U ?_|(apply Zh Za;exact U)|(apply Zg Za;exact U)|(apply Zo Za;exact U)|(apply Zd;exact U;(first|with_reducible assumption|decide +kernel|(solve|simp only[bn])))|(apply Zf;exact U;(first|with_reducible assumption|decide +kernel|(solve|simp only[bn])))|refine Zm Za U U U U ?_|refine ZO Za U U U U U U U U U U U U ?_|(apply Zq 15 ZF;decide +kernel;kernel_rfl;kernel_rfl;kernel_rfl;exact U;exact U)|(apply Zt;(iterate 4 exact U))|exact AE.nil _ _ _ _|(apply Zw;exact U)|(apply Yp;exact U)|(apply WI;exact U)|(apply Zz;exact U;exact U;decide +kernel;exact U)|(apply ZA;exact U)|(apply YQ;exact U)|(apply VA;exact U)|exact AO.nil _ _ _|(apply Zs;(decide +kernel))|(apply Yf;(iterate 3 exact U))|exact AOs.nil|exact ZI rfl rfl|exact WB rfl rfl|exact WP rfl|(apply Zu Za;(iterate 6 exact U);(first|exact Qt|rotate_left);(first|with_reducible assumption|decide +kernel|exact U);(first|exact Zj rfl|with_reducible assumption|decide +kernel|rotate_left)))
     refine Lands.mk' (m:=f-1) (by omega) ⟨i+1,1,[cb],_,by omega,rfl,hab2,by simp,hq,rfl,.inr ⟨rfl,rfl⟩⟩ ?_ rfl rfl rfl rfl rfl rfl
     exact .cons rfl (.cons rfl (.cons rfl (.cons rfl (.cons rfl (.cons rfl (.cons rfl (.cons rfl (.cons rfl .nil))))))))
    ·have hs:ZP acc++[bkE cb]=ZP (acc++[cb]):=(List.map_append (f:=bkE) (l₁:=acc) (l₂:=[cb])).symm
     repeat'(first|(apply Zb (hG);kernel_rfl;(iterate 4 exact U))|rw[ei]|(apply Zh Za;exact U)|(apply Zg Za;exact U)|(apply Zo Za;exact U)|(apply Zd;exact U;(first|with_reducible assumption|decide +kernel|(solve|simp only[bn])))|(apply Zf;exact U;(first|with_reducible assumption|decide +kernel|(solve|simp only[bn])))|refine Zm Za U U U U ?_|refine ZO Za U U U U U U U U U U U U ?_|(apply Zq 15 ZF;decide +kernel;kernel_rfl;kernel_rfl;kernel_rfl;exact U;exact U)|(apply Zt;(iterate 4 exact U))|exact AE.nil _ _ _ _|(apply Zw;exact U)|(apply Yp;exact U)|(apply WI;exact U)|(apply Zz;exact U;exact U;decide +kernel;exact U)|(apply ZA;exact U)|(apply YQ;exact U)|(apply VA;exact U)|exact AO.nil _ _ _|(apply Zs;(decide +kernel))|(apply Yf;(iterate 3 exact U))|exact AOs.nil|exact ZI rfl rfl|exact WB rfl rfl|exact WP rfl|(apply ZR Za;(iterate 6 exact U);(first|with_reducible assumption|decide +kernel|exact U|rotate_left);exact U;exact U;(first|exact Zj rfl|with_reducible assumption|decide +kernel|rotate_left);(first|exact Zj rfl|with_reducible assumption|decide +kernel|rotate_left);(first|exact Qt|rotate_left);(first|exact Qt|rotate_left);(first|exact Qt|rotate_left);exact U;exact U)|(apply Zu Za;(iterate 6 exact U);(first|exact Qt|rotate_left);(first|with_reducible assumption|decide +kernel|exact U);(first|exact Zj rfl|with_reducible assumption|decide +kernel|rotate_left)))
     ·refine Lands.mk' (m:=f-1) (by omega) ⟨i+1,(ZP acc).length+1,acc++[cb],f0,by omega,by rw[<- hs,List.length_append];rfl,hab2,by simp;omega,hq,rfl,.inr ⟨by rw[<- hs],rfl⟩⟩ ?_ rfl rfl rfl rfl rfl rfl
      exact .cons rfl (.cons rfl (.cons rfl (.cons rfl (.cons rfl (.cons rfl (.cons rfl (.cons rfl (.cons rfl .nil))))))))
     all_goals(first|rfl|(simp only[List.length_append,List.length_cons,List.length_nil,List.length_map,Zv];done)|(simp only[List.length_append,List.length_cons,List.length_nil,List.length_map,Zv]at *;(try unfold maxLen);(try simp only[Nat.add_mul]);omega))
  ·have hdl:decide ((i:Int)<((ZP l).length:Int))=false:=decide_eq_false (by omega)
   have hqn:F=some acc:=by
    rw[<- hq,List.drop_eq_nil_of_le hge,XM]
   subst hqn
   dsimp only[Vk]at hd
   have hRt:=JM ⟨⟨fl,sum,⟨di,dn,ds,dh,dd⟩,⟨ri,rn,rs,rh,rd⟩,⟨xi,xn,xs,xh,xd⟩,t,q,life⟩,acc⟩ ⟨hfl,by show acc.length<=_;omega,hab⟩ hf1 hf2 hf3
   have hw2:(W4 ⟨⟨fl,sum,⟨di,dn,ds,dh,dd⟩,⟨ri,rn,rs,rh,rd⟩,⟨xi,xn,xs,xh,xd⟩,t,q,life⟩,acc⟩).2=Yb ⟨⟨fl,sum,⟨di,dn,ds,dh,dd⟩,⟨ri,rn,rs,rh,rd⟩,⟨xi,xn,xs,xh,xd⟩,t,q,life⟩,acc⟩:=by
    unfold W4
    cases Yb ⟨⟨fl,sum,⟨di,dn,ds,dh,dd⟩,⟨ri,rn,rs,rh,rd⟩,⟨xi,xn,xs,xh,xd⟩,t,q,life⟩,acc⟩<;>rfl
   rw[hw2]at hRt
   generalize (W4 ⟨⟨fl,sum,⟨di,dn,ds,dh,dd⟩,⟨ri,rn,rs,rh,rd⟩,⟨xi,xn,xs,xh,xd⟩,t,q,life⟩,acc⟩).1=wb at *
   cases t13:Yb ⟨⟨fl,sum,⟨di,dn,ds,dh,dd⟩,⟨ri,rn,rs,rh,rd⟩,⟨xi,xn,xs,xh,xd⟩,t,q,life⟩,acc⟩ with
   | false=>
    rw[t13]at hRt hd
    dsimp only at hd
    subst hd
    rcases hst with⟨rfl,rfl,rfl⟩ | ⟨rfl,rfl⟩
    ·repeat'(first|(apply Zb (hRt);kernel_rfl;(iterate 4 exact U))|(apply Zh Za;exact U)|(apply Zg Za;exact U)|(apply Zo Za;exact U)|(apply Zd;exact U;(first|with_reducible assumption|decide +kernel|(solve|simp only[bn])))|(apply Zf;exact U;(first|with_reducible assumption|decide +kernel|(solve|simp only[bn])))|refine Zm Za U U U U ?_)
     all_goals exact Qe
    ·repeat'(first|(apply Zb (hRt);kernel_rfl;(iterate 4 exact U))|(apply Zh Za;exact U)|(apply Zg Za;exact U)|(apply Zo Za;exact U)|(apply Zd;exact U;(first|with_reducible assumption|decide +kernel|(solve|simp only[bn])))|(apply Zf;exact U;(first|with_reducible assumption|decide +kernel|(solve|simp only[bn])))|refine Zm Za U U U U ?_)
     all_goals exact Qe
   | true=>
    rw[t13]at hRt hd
    dsimp only at hd
    subst hd
    rcases hst with⟨rfl,rfl,rfl⟩ | ⟨rfl,rfl⟩
    ·repeat'(first|(apply Zb (hRt);kernel_rfl;(iterate 4 exact U))|(apply Zh Za;exact U)|(apply Zg Za;exact U)|(apply Zo Za;exact U)|(apply Zf;exact U;(first|with_reducible assumption|decide +kernel|(solve|simp only[bn])))|refine Zm Za U U U U ?_)
     all_goals exact Qe
    ·repeat'(first|(apply Zb (hRt);kernel_rfl;(iterate 4 exact U))|(apply Zh Za;exact U)|(apply Zg Za;exact U)|(apply Zo Za;exact U)|(apply Zf;exact U;(first|with_reducible assumption|decide +kernel|(solve|simp only[bn])))|refine Zm Za U U U U ?_)
     all_goals exact Qe
 ·refine⟨?_⟩
  rcases hk with ta|⟨c0,x0,y0,ok0,ta,ha,hc0,hH,t5⟩
  ·repeat'(first|(apply Zg Za;exact U)|(apply Zf;exact U;(first|with_reducible assumption|decide +kernel|(solve|simp only[bn])))|refine Z6 ?_)
   refine Lands.mk' (m:=0) (by decide) ⟨rfl,rfl,rfl⟩ ?_ rfl rfl rfl rfl rfl rfl
   exact .cons rfl (.cons rfl (.cons rfl (.cons rfl (.cons rfl (.cons rfl (.cons rfl .nil))))))
  ·have hv0:=Yy hc0
   rw[show((k0.toNat:Nat):Int)=k0 from by omega]at hv0
   repeat'(first|(apply Zb (hH);kernel_rfl;(iterate 4 exact U))|(apply Zh Za;exact U)|(apply Zg Za;exact U)|(apply Zd;exact U;(first|with_reducible assumption|decide +kernel|(solve|simp only[bn])))|(apply Zf;exact U;(first|with_reducible assumption|decide +kernel|(solve|simp only[bn])))|refine Z6 ?_|(apply Zu Za;(iterate 6 exact U);(first|exact Qt|rotate_left);(first|with_reducible assumption|decide +kernel|exact U);(first|exact Zj rfl|with_reducible assumption|decide +kernel|rotate_left)))
   refine Lands.mk' (m:=0) (by decide) ⟨rfl,rfl,rfl⟩ ?_ rfl rfl rfl rfl rfl rfl
   exact .cons rfl (.cons rfl (.cons rfl (.cons rfl (.cons rfl (.cons rfl (.cons rfl .nil))))))
abbrev chB (self:EidV)(here:Int)(c:BlkV):BlkV:=(Wi c self here).1
theorem Fc {c:BlkV}{k:Nat}(hr:ZH c=true)(ht:c.ty=k):VK c k=0:=by
 unfold VK
 rw[hr,ht]
 simp
structure Sent (b out:BunV) (sf:EidV) (since now:Nat):Prop where
 right:Yb out=true
 p:out.p=b.p
 bl:out.bl=X9 b sf++b.bl.map (chB sf (IntKind.u64.wrap ((now:Int)-(since:Int))))
 ch:∀ c ∈ b.bl,(Wi c sf (IntKind.u64.wrap ((now:Int)-(since:Int)))).2=true
 was:Yb b=true
 le:since<=now
 top:now<=1099511627776
 er:ZE sf=true
 ze:zE sf=false
 over:QW b since now=false
 spent:UA b=false
end Go.Proofs.YtmljabhmajehnaaGreatDoor
end
