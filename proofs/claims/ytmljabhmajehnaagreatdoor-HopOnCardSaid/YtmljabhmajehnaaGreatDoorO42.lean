/- Package hop: how much a bundle has left. -/
import Derived.Test.YtmljabhmajehnaaGreatDoorO40
import Derived.Test.YtmljabhmajehnaaGreatDoorO26
import Derived.Test.YtmljabhmajehnaaGreatDoorO27
import Derived.Test.YtmljabhmajehnaaGreatDoorO41
set_option linter.unusedVariables false
set_option linter.unusedSimpArgs false
section
open Go.RowKit Go.Pl Go.Av
namespace Go.Proofs.YtmljabhmajehnaaGreatDoor
set_option maxHeartbeats 4000000
def Jm (c:BlkV):Nat:=match VK c 7 != 0 with
 | true=>0
 | false=>(Qn c.data).1
def Kf (b:BunV):Nat:=match b.bl.find? (Wt 7) with
 | some c=>Jm c
 | none=>0
theorem S3 [Known][KnownU8](b:BunV)(hb:BunOk b):AP Tryz.prog 93 [.agg (bnC b)] (.int .u64 (Kf b:Int)) []:=by
 have hF:=IZ b 7 hb.len (fun c hc=>Nat.le_trans (hb.bl c hc).2 (by omega))
 have hbl:=hb.bl
 unfold Kf
 cases hf:b.bl.find? (Wt 7) with
 | none=>
  rw[hf]at hF
  dsimp only[QV]at hF ⊢
  clear hb hbl hf
  obtain⟨⟨fl,sum,⟨di,dn,ds,dh,dd⟩,⟨ri,rn,rs,rh,rd⟩,⟨xi,xn,xs,xh,xd⟩,t,q,life⟩,bl⟩:=b
  try dsimp only at *
  refine AP.ofA (Zl Tryz.func93 U Tryz.ntmps93 U U ?_)
  repeat'(first|(apply Zb (hF);kernel_rfl;(iterate 4 exact U))|(apply Zh Za;exact U)|(apply Zg Za;exact U)|(apply Zo Za;exact U)|refine Zd U Qt ?_)
  all_goals exact Qe
 | some c=>
  rw[hf]at hF
  have hA:AP Tryz.prog 103 [.agg (bkC c)] (.tup [.int .u64 (Jm c:Int),.int .i64 (VK c 7)]) []:=by
   unfold Jm
   exact G3 c (Nat.le_trans (hbl c (List.mem_of_find?_eq_some hf)).2 (by omega))
  dsimp only[QV]at hF ⊢
  clear hb hbl hf
  generalize Jm c=ag at *
  generalize VK c 7=e at *
  obtain⟨cty,cnum,cfl,csum,cdata⟩:=c
  obtain⟨⟨fl,sum,⟨di,dn,ds,dh,dd⟩,⟨ri,rn,rs,rh,rd⟩,⟨xi,xn,xs,xh,xd⟩,t,q,life⟩,bl⟩:=b
  try dsimp only at *
  refine AP.ofA (Zl Tryz.func93 U Tryz.ntmps93 U U ?_)
  repeat'(first|(apply Zb (hF);kernel_rfl;(iterate 4 exact U))|(apply Zb (hA);kernel_rfl;(iterate 4 exact U))|(apply Zh Za;exact U)|(apply Zg Za;exact U)|refine Zf U Qt ?_)
  all_goals exact Qe
def Im (t life:Nat)(old here now:Int):Int:=match decide ((t:Int)>0) with
 | true=>match decide (now<(t:Int)) with
  | true=>IntKind.u64.wrap ((life:Int)+IntKind.u64.wrap ((t:Int)-now))
  | false=>match decide (IntKind.u64.wrap (now-(t:Int)) ≥ (life:Int)) with
   | true=>0
   | false=>IntKind.u64.wrap ((life:Int)-IntKind.u64.wrap (now-(t:Int)))
 | false=>match decide (IntKind.u64.wrap (old+here) ≥ (life:Int)) with
  | true=>0
  | false=>IntKind.u64.wrap ((life:Int)-IntKind.u64.wrap (old+here))
theorem RH [Known](p:PriV)(old here now:Int):AP Tryz.prog 92 [.agg (prC p),.int .u64 old,.int .u64 here,.int .u64 now] (.int .u64 (Im p.t p.life old here now)) []:=by
 obtain⟨fl,sum,⟨di,dn,ds,dh,dd⟩,⟨ri,rn,rs,rh,rd⟩,⟨xi,xn,xs,xh,xd⟩,t,q,life⟩:=p
 unfold Im
 dsimp only
 cases t0:decide ((t:Int)>0) with
 | true=>
  cases t1:decide (now<(t:Int)) with
  | true=>
   refine AP.ofA (Zl Tryz.func92 U Tryz.ntmps92 U U ?_)
   repeat'(first|(apply Zg Za;exact U)|(apply Zo Za;exact U)|refine Zd U Qt ?_)
   all_goals exact Qe
  | false=>
   cases t2:decide (IntKind.u64.wrap (now-(t:Int)) ≥ (life:Int))
   all_goals
    refine AP.ofA (Zl Tryz.func92 U Tryz.ntmps92 U U ?_)
    repeat'(first|(apply Zg Za;exact U)|(apply Zo Za;exact U)|refine Zd U Qt ?_|refine Zf U Qt ?_)
    all_goals exact Qe
 | false=>
  cases t2:decide (IntKind.u64.wrap (old+here) ≥ (life:Int))
  all_goals
   refine AP.ofA (Zl Tryz.func92 U Tryz.ntmps92 U U ?_)
   repeat'(first|(apply Zg Za;exact U)|(apply Zo Za;exact U)|refine Zd U Qt ?_|refine Zf U Qt ?_)
   all_goals exact Qe
def VV (b:BunV)(since now:Int):Int:=match Yb b with
 | false=>3
 | true=>match decide (since>now)||decide (now>1099511627776) with
  | true=>1
  | false=>0
theorem NH [Known][KnownU8](b:BunV)(hb:BunOk b)(since now:Int):AP Tryz.prog 50 [.agg (bnC b),.int .u64 since,.int .u64 now] (.int .i64 (VV b since now)) []:=by
 have hR:=JL b hb
 unfold VV
 clear hb
 generalize Yb b=r at *
 obtain⟨⟨fl,sum,⟨di,dn,ds,dh,dd⟩,⟨ri,rn,rs,rh,rd⟩,⟨xi,xn,xs,xh,xd⟩,t,q,life⟩,bl⟩:=b
 cases r<;>cases t1:decide (since>now)<;>cases t2:decide (now>1099511627776)
 all_goals
  refine AP.ofA (Zl Tryz.func50 U Tryz.ntmps50 U U ?_)
  repeat'(first|(apply Zb (hR);kernel_rfl;(iterate 4 exact U))|(apply Zh Za;exact U)|(apply Zg Za;exact U)|(apply Zo Za;exact U)|refine Ze U U U Qt ?_|refine Zn U U U Qt ?_|refine Zk U Qt U U ?_|refine Zi U Qt U U ?_|refine Zd U Qt ?_|refine Zf U Qt ?_)
  all_goals exact Qe
def Vz (b:BunV)(since now:Int):Int × Int:=match VV b since now != 0 with
 | true=>(0,VV b since now)
 | false=>(Im b.p.t b.p.life (Kf b:Int) (IntKind.u64.wrap (now-since)) now,0)
theorem Ob [Known][KnownU8](b:BunV)(hb:BunOk b)(since now:Int):AP Tryz.prog 45 [.agg (bnC b),.int .u64 since,.int .u64 now] (.tup [.int .u64 (Vz b since now).1,.int .i64 (Vz b since now).2]) []:=by
 have hK:=NH b hb since now
 have hA:=S3 b hb
 have hL:=RH b.p (Kf b:Int) (IntKind.u64.wrap (now-since)) now
 unfold Vz
 clear hb
 generalize VV b since now=e at *
 generalize Im b.p.t b.p.life (Kf b:Int) (IntKind.u64.wrap (now-since)) now=r at *
 generalize Kf b=ag at *
 obtain⟨⟨fl,sum,⟨di,dn,ds,dh,dd⟩,⟨ri,rn,rs,rh,rd⟩,⟨xi,xn,xs,xh,xd⟩,t,q,life⟩,bl⟩:=b
 try dsimp only at *
 cases t1:(e != 0) with
 | true=>
  refine AP.ofA (Zl Tryz.func45 U Tryz.ntmps45 U U ?_)
  repeat'(first|(apply Zb (hK);kernel_rfl;(iterate 4 exact U))|(apply Zh Za;exact U)|(apply Zg Za;exact U)|(apply Zo Za;exact U)|refine Zd U Qt ?_)
  all_goals exact Qe
 | false=>
  refine AP.ofA (Zl Tryz.func45 U Tryz.ntmps45 U U ?_)
  repeat'(first|(apply Zb (hK);kernel_rfl;(iterate 4 exact U))|(apply Zb (hA);kernel_rfl;(iterate 4 exact U))|(apply Zb (hL);kernel_rfl;(iterate 4 exact U))|(apply Zh Za;exact U)|(apply Zg Za;exact U)|refine Zf U Qt ?_|(apply Zq 8 ZF;decide +kernel;kernel_rfl;kernel_rfl;kernel_rfl;exact U;exact U)|(apply Zt;(iterate 4 exact U))|exact AE.nil _ _ _ _|(apply Zw;exact U)|(apply Zz;exact U;exact U;decide +kernel;exact U)|(apply ZA;exact U)|exact AO.nil _ _ _|(apply Zs;(decide +kernel))|exact AOs.nil|exact ZI rfl rfl)
  all_goals exact Qe
def QW (b:BunV)(since now:Int):Bool:=(Vz b since now).2==0&&(Vz b since now).1==0
theorem Oc [Known][KnownU8](b:BunV)(hb:BunOk b)(since now:Int):AP Tryz.prog 11 [.agg (bnC b),.int .u64 since,.int .u64 now] (.tup [.bool (QW b since now),.int .i64 (Vz b since now).2]) []:=by
 have hL:=Ob b hb since now
 unfold QW
 clear hb
 generalize (Vz b since now).1=n at *
 generalize (Vz b since now).2=e at *
 obtain⟨⟨fl,sum,⟨di,dn,ds,dh,dd⟩,⟨ri,rn,rs,rh,rd⟩,⟨xi,xn,xs,xh,xd⟩,t,q,life⟩,bl⟩:=b
 cases t1:(e==0)
 all_goals
  refine AP.ofA (Zl Tryz.func11 U Tryz.ntmps11 U U ?_)
  repeat'(first|(apply Zb (hL);kernel_rfl;(iterate 4 exact U))|(apply Zh Za;exact U)|(apply Zg Za;exact U)|refine Ze U U U Qt ?_|refine Zr U U U Qt ?_|refine Zk U Qt U U ?_|refine Zi U Qt U U ?_)
  all_goals exact Qe
theorem S4 [Known](c:BlkV)(k:Nat):AQ Tryz.prog 101 [.agg (bkC c),.ptr 0 0] [[.int .u64 (k:Int)]] (.bool (V4 k c)) [[.int .u64 (k:Int)]]:=by
 obtain⟨ty,num,fl,sum,data⟩:=c
 refine AQ.weak (Zl Tryz.func101 U Tryz.ntmps101 U U ?_)
 repeat'(first|(apply Zg Za;exact U))
 all_goals(apply Zp [0];(apply Zc Za;exact U);(iterate 4 exact U))
 all_goals rfl
theorem MO [Known](l:List BlkV)(k:Nat)(hl:l.length<=1000000):AQ Tryz.prog 47 [.sl .ext (ZP l),.fn 101 [.ptr 0 0]] [[.int .u64 (k:Int)]] (.int .i64 (fiQ (V4 k) l 0)) [[.int .u64 (k:Int)]]:=by
 have hlen:=Yx l
 have hU:=Vl l
 generalize hfin:fiQ (V4 k) l 0=fin
 refine AQ.weak (Zl Tryz.func47 U Tryz.ntmps47 U U ?_)
 repeat'(first|(apply Zh Za;exact U)|(apply Zg Za;exact U)|refine Zm Za U U U U ?_)
 refine ZJ (fun f tm bx fr=>∃(i:Nat),f+i=l.length/\fiQ (V4 k) (l.drop i) i=fin/\tm=[(0,.sl .ext (ZP l)),(1,.fn 101 [.ptr 0 0]),(4,.int .i64 0),(7,.int .i64 ((ZP l).length:Int)),(8,.int .i64 (i:Int))]/\bx=[[.int .u64 (k:Int)]]/\fr=[]) (l.length+1) (Lands.mk' (m:=l.length) (Nat.lt_succ_self _) ⟨0,by omega,hfin,rfl,rfl,rfl⟩ ?_ rfl rfl rfl rfl rfl rfl) ?_
 ·exact .cons rfl (.cons rfl (.cons rfl (.cons rfl (.cons rfl .nil))))
 rintro f tm bx fr ⟨i,hf,hq,rfl,rfl,rfl⟩
 rcases Nat.lt_or_ge i l.length with hlt|hge
 ·have hdl:decide ((i:Int)<((ZP l).length:Int))=true:=decide_eq_true (by omega)
  obtain⟨c,hy⟩:∃ y,l[i]?=some y:=⟨_,List.getElem?_eq_getElem hlt⟩
  have hv:=Yy hy
  have hc:=S4 c k
  have hdr:l.drop i=c::l.drop (i+1):=by
   rw[List.drop_eq_getElem_cons hlt];congr 1
   exact(List.getElem?_eq_some_iff.1 hy).2
  rw[hdr,fiQ]at hq
  have ei:IntKind.i64.wrap ((i:Int)+1)=((i+1:Nat):Int):=by rw[IntWalk.i64_in _ (by omega)];omega
  cases hb:V4 k c with
  | false=>
   rw[hb]at hq hc
   repeat'(first|rw[ei]|(apply Q0 [0] (hc);exact U;kernel_rfl;(iterate 7 exact U))|(apply Zh Za;exact U)|(apply Zg Za;exact U)|(apply Zo Za;exact U)|refine Zd U Qt ?_|refine Zf U Qt ?_|(apply Zu Za;(iterate 6 exact U);(first|exact Qt|rotate_left);(first|with_reducible assumption|decide +kernel|exact U);(first|exact Zj rfl|with_reducible assumption|decide +kernel|rotate_left)))
   refine Lands.mk' (m:=f-1) (by omega) ⟨i+1,by omega,hq,rfl,rfl,rfl⟩ ?_ rfl rfl rfl rfl rfl rfl
   exact .cons rfl (.cons rfl (.cons rfl (.cons rfl (.cons rfl .nil))))
  | true=>
   rw[hb]at hq hc
   have hq:(i:Int)=fin:=hq
   subst hq
   repeat'(first|(apply Q0 [0] (hc);exact U;kernel_rfl;(iterate 7 exact U))|(apply Zh Za;exact U)|(apply Zg Za;exact U)|(apply Zo Za;exact U)|refine Zd U Qt ?_|refine Z0 ?_|(apply Zu Za;(iterate 6 exact U);(first|exact Qt|rotate_left);(first|with_reducible assumption|decide +kernel|exact U);(first|exact Zj rfl|with_reducible assumption|decide +kernel|rotate_left)))
   all_goals(apply Zp [0];(apply Zc Za;exact U);(iterate 4 exact U))
   all_goals rfl
 ·have hdl:decide ((i:Int)<((ZP l).length:Int))=false:=decide_eq_false (by omega)
  rw[List.drop_eq_nil_of_le hge]at hq
  have hq:(-1:Int)=fin:=hq
  subst hq
  repeat'(first|(apply Zg Za;exact U)|refine Zf U Qt ?_)
  all_goals(apply Zp [0];(apply Zc Za;exact U);(iterate 4 exact U))
  all_goals rfl
theorem RJ [Known](l:List BlkV)(k:Nat)(hl:l.length<=1000000):AQ Tryz.prog 102 [.sl .ext (ZP l),.fn 101 [.ptr 0 0]] [[.int .u64 (k:Int)]] (.bool (decide (fiQ (V4 k) l 0 ≥ 0))) [[.int .u64 (k:Int)]]:=by
 have hI:=MO l k hl
 generalize fiQ (V4 k) l 0=r at *
 refine AQ.weak (Zl Tryz.func102 U Tryz.ntmps102 U U ?_)
 repeat'(first|(apply ZC [0] (hI);kernel_rfl;(iterate 7 exact U))|(apply Zh Za;exact U)|(apply Zg Za;exact U))
 all_goals(apply Zp [0];(apply Zc Za;exact U);(iterate 4 exact U))
 all_goals rfl
theorem Dg (k:Nat)(l:List BlkV):decide (fiQ (V4 k) l 0 ≥ 0)=l.any (V4 k):=by
 have h:=U2 (V4 k) l 0
 cases hf:l.find? (V4 k) with
 | none=>
  rw[hf]at h
  dsimp only at h
  rw[h]
  have:=List.find?_eq_none.1 hf
  rw[List.any_eq_false.2 this]
  rfl
 | some c=>
  rw[hf]at h
  obtain⟨j,h1,_⟩:=h
  rw[h1,List.any_eq_true.2 ⟨c,List.mem_of_find?_eq_some hf,List.find?_some hf⟩]
  exact decide_eq_true (by omega)
theorem Io [Known][KnownU8](ZQ:Nat)(sum:Int)(x:EidV):AP Tryz.prog 53 [.int .u64 (ZQ:Int),.int .i64 sum,.agg (eC x)] (Tl (ofV 6 ZQ sum (if ZE x then ZW x else .mk 0 0 [] []) (if ZE x then 0 else 3))) []:=by
 have hW:=Je x
 have hwf:wfI (if ZE x then ZW x else .mk 0 0 [] []):=by
  cases h:ZE x with
  | true=>exact W7 h
  | false=>exact Nt
 have hlen:(ZN (if ZE x then ZW x else .mk 0 0 [] [])).length<=100000:=by
  cases h:ZE x with
  | false=>
   show(ZN (.mk 0 0 [] [])).length<=100000
   decide +kernel
  | true=>
   show(ZN (ZW x)).length<=100000
   unfold ZW
   repeat' split
   ·exact Nat.le_trans (V3 1 0) (by decide)
   ·have h0:=Yz 4 0 [] [.mk 0 2 [] [],VZ x.n x.s]
    have h1:=Yv 2
    have h2:=V3 x.n x.s
    simp only[ZV,List.length_append,List.length_nil,Nat.add_zero,Nat.zero_add]at h0
    exact Nat.le_trans h0 (by omega)
   ·have h0:=Yz 4 0 [] [.mk 0 1 [] [],.mk 3 0 (Y5 x) []]
    have h1:=Yv 1
    have h2:=Yz 3 0 (Y5 x) []
    rename_i hz hi
    have h3:(Y5 x).length<=100:=by
     have ht:=Y6 h (by simpa using hz) (by simpa using hi)
     simp only[Y5,List.length_append,List.length_cons,List.length_nil]
     omega
    simp only[ZV,List.length_append,List.length_nil,Nat.add_zero,Nat.zero_add]at h0 h2
    exact Nat.le_trans h0 (by omega)
 have hO:=L2 6 ZQ sum (if ZE x then ZW x else .mk 0 0 [] []) (if ZE x then 0 else 3) hwf hlen
 generalize (if ZE x then ZW x else .mk 0 0 [] [])=I at *
 generalize (if ZE x then(0:Int) else 3)=E0 at *
 clear hwf hlen
 generalize ofV 6 ZQ sum I E0=r at *
 obtain⟨xi,xn,xs,xh,xd⟩:=x
 obtain⟨k,n,b,l⟩:=I
 obtain⟨⟨a,b2,c,d,f⟩,e⟩:=r
 refine AP.ofA (Zl Tryz.func53 U Tryz.ntmps53 U U ?_)
 repeat'(first|(apply Zb (hW);kernel_rfl;(iterate 4 exact U))|(apply Zb (hO);kernel_rfl;(iterate 4 exact U))|(apply Zh Za;exact U)|(apply Zg Za;exact U))
 all_goals exact Qe
def HG (l:List BlkV):Nat->Nat->Nat
 | 0,n=>n
 | f+1,n=>match l.any (V4 n) with
  | true=>HG l f (n+1)
  | false=>n
def Qx (l:List BlkV):Nat:=HG l l.length 2
theorem HI {l:List BlkV}{n:Nat}(h:l.any (V4 n)=true):l.countP (fun c=>decide (n+1<=c.num))<l.countP (fun c=>decide (n<=c.num)):=by
 induction l with
 | nil=>simp at h
 | cons c l ih=>
  have hle:l.countP (fun c=>decide (n+1<=c.num))<=l.countP (fun c=>decide (n<=c.num)):=List.countP_mono_left fun c _ h=>by simp at h ⊢;omega
  rw[List.countP_cons,List.countP_cons]
  rw[List.any_cons,Bool.or_eq_true]at h
  by_cases e:c.num=n
  ·have h1:¬ (n+1<=c.num):=by omega
   have h2:n<=c.num:=by omega
   simp only[h1,h2,decide_true,decide_false,if_true]
   simp
   omega
  ·have hl:l.any (V4 n)=true:=by
    rcases h with h|h
    ·exfalso;simp[V4]at h;omega
    ·exact h
   have:=ih hl
   by_cases h2:n+1<=c.num
   ·have h3:n<=c.num:=by omega
    simp only[h2,h3,decide_true,if_true]
    omega
   ·have h3:¬ n<=c.num:=by omega
    simp only[h2,h3,decide_false]
    simpa using this
theorem Od [Known](b:BunV)(hb:BunOk b):AP Tryz.prog 54 [.agg (bnC b)] (.int .u64 (Qx b.bl:Int)) []:=by
 have hl:=hb.len
 clear hb
 obtain⟨⟨fl,sum,⟨di,dn,ds,dh,dd⟩,⟨ri,rn,rs,rh,rd⟩,⟨xi,xn,xs,xh,xd⟩,t,q,life⟩,bl⟩:=b
 dsimp only at *
 generalize hR:Qx bl=R
 refine AP.ofA (Zl Tryz.func54 U Tryz.ntmps54 U U ?_)
 repeat'(first|(apply Zg Za;exact U))
 show AW _ _ _ _
 refine ZJ (fun f tm bx fr=>∃(n:Nat),bl.countP (fun c=>decide (n<=c.num))<=f/\f+n<=bl.length+2/\HG bl f n=R/\tm=[(1,.ptr 0 0),(3,.ptr 1 0),(4,.fn 101 [.ptr 1 0])]/\bx=[[.int .u64 (fl:Int),.int .i64 sum,.bool di,.int .u64 (dn:Int),.int .u64 (ds:Int),.str dh,.str dd,.bool ri,.int .u64 (rn:Int),.int .u64 (rs:Int),.str rh,.str rd,.bool xi,.int .u64 (xn:Int),.int .u64 (xs:Int),.str xh,.str xd,.int .u64 (t:Int),.int .u64 (q:Int),.int .u64 (life:Int),.sl .ext (ZP bl)],[.int .u64 (n:Int)]]/\fr=[]) (bl.length+1) (Lands.mk' (m:=bl.length) (Nat.lt_succ_self _) ⟨2,List.countP_le_length,by omega,hR,rfl,rfl,rfl⟩ ?_ rfl rfl rfl rfl rfl rfl) ?_
 ·exact .cons rfl (.cons rfl (.cons rfl .nil))
 rintro f tm bx fr ⟨n,hcnt,hfn,hq,rfl,rfl,rfl⟩
 have hC:=RJ bl n hl
 rw[Dg]at hC
 have en:IntKind.u64.wrap ((n:Int)+1)=((n+1:Nat):Int):=by rw[IntWalk.u64_in _ (by omega)];omega
 cases ha:bl.any (V4 n) with
 | true=>
  rw[ha]at hC
  have hup:=HI ha
  obtain⟨f',rfl⟩:∃ f',f=f'+1:=⟨f-1,by omega⟩
  rw[HG,ha]at hq
  dsimp only at hq
  repeat'(first|(apply ZC [1] (hC);kernel_rfl;(iterate 7 exact U))|rw[en]|(apply Zh Za;exact U)|(apply Zg Za;exact U)|(apply Zo Za;exact U)|refine Zd U Qt ?_|refine Z6 ?_)
  refine Lands.mk' (m:=f') (by omega) ⟨n+1,by omega,by omega,hq,rfl,rfl,rfl⟩ ?_ rfl rfl rfl rfl rfl rfl
  exact .cons rfl (.cons rfl (.cons rfl .nil))
 | false=>
  rw[ha]at hC
  have hq:n=R:=by
   cases f with
   | zero=>exact hq
   | succ f=>rw[HG,ha]at hq;exact hq
  subst hq
  repeat'(first|(apply ZC [1] (hC);kernel_rfl;(iterate 7 exact U))|(apply Zh Za;exact U)|(apply Zg Za;exact U)|(apply Zo Za;exact U)|refine Zf U Qt ?_)
  all_goals exact Qe
def Qo (c:BlkV):Nat:=match VK c 10 != 0 with
 | true=>0
 | false=>(Wg c.data).1
def J8 (c:BlkV):Nat:=match VK c 10 != 0 with
 | true=>0
 | false=>(Wg c.data).2.1
theorem Oe [Known][KnownU8](c:BlkV)(hd:c.data.length<=100000):AP Tryz.prog 13 [.agg (bkC c)] (.tup [.int .u64 (Qo c:Int),.int .u64 (J8 c:Int),.int .i64 (VK c 10)]) []:=by
 unfold Qo J8
 exact Mm c hd
def UA (b:BunV):Bool:=match b.bl.find? (Wt 10) with
 | some c=>(VK c 10==0)&&decide ((J8 c:Int) ≥ (Qo c:Int))
 | none=>false
theorem MP [Known][KnownU8](b:BunV)(hb:BunOk b):AP Tryz.prog 52 [.agg (bnC b)] (.bool (UA b)) []:=by
 have hF:=IZ b 10 hb.len (fun c hc=>Nat.le_trans (hb.bl c hc).2 (by omega))
 have hbl:=hb.bl
 unfold UA
 cases hf:b.bl.find? (Wt 10) with
 | none=>
  rw[hf]at hF
  have hH:=Oe bk0 (by decide)
  dsimp only[QV]at hF ⊢
  clear hb hbl hf
  generalize Qo bk0=L0 at *
  generalize J8 bk0=N0 at *
  generalize VK bk0 10=e at *
  obtain⟨⟨fl,sum,⟨di,dn,ds,dh,dd⟩,⟨ri,rn,rs,rh,rd⟩,⟨xi,xn,xs,xh,xd⟩,t,q,life⟩,bl⟩:=b
  refine AP.ofA (Zl Tryz.func52 U Tryz.ntmps52 U U ?_)
  repeat'(first|(apply Zb (hF);kernel_rfl;(iterate 4 exact U))|(apply Zb (hH);kernel_rfl;(iterate 4 exact U))|(apply Zh Za;exact U)|(apply Zg Za;exact U)|refine Zr U U U Qt ?_|refine Zi U Qt U U ?_)
  all_goals exact Qe
 | some c=>
  rw[hf]at hF
  have hH:=Oe c (Nat.le_trans (hbl c (List.mem_of_find?_eq_some hf)).2 (by omega))
  dsimp only[QV]at hF ⊢
  clear hb hbl hf
  generalize Qo c=L0 at *
  generalize J8 c=N0 at *
  generalize VK c 10=e at *
  obtain⟨cty,cnum,cfl,csum,cdata⟩:=c
  obtain⟨⟨fl,sum,⟨di,dn,ds,dh,dd⟩,⟨ri,rn,rs,rh,rd⟩,⟨xi,xn,xs,xh,xd⟩,t,q,life⟩,bl⟩:=b
  cases t1:(e==0)
  all_goals
   refine AP.ofA (Zl Tryz.func52 U Tryz.ntmps52 U U ?_)
   repeat'(first|(apply Zb (hF);kernel_rfl;(iterate 4 exact U))|(apply Zb (hH);kernel_rfl;(iterate 4 exact U))|(apply Zh Za;exact U)|(apply Zg Za;exact U)|refine Ze U U U Qt ?_|refine Zr U U U Qt ?_|refine Zk U Qt U U ?_|refine Zi U Qt U U ?_)
   all_goals exact Qe
def Vj (a b:Int):Nat:=(IntKind.u64.wrap (a+b)).toNat
theorem J9 (a b:Int):IntKind.u64.wrap (a+b)=((Vj a b:Nat):Int):=by
 unfold Vj
 have h:0<=IntKind.u64.wrap (a+b):=by simp only[IntKind.wrap,IntKind.signed,IntKind.bits];simp;omega
 omega
theorem Xa (a b:Int):Vj a b<18446744073709551616:=by
 unfold Vj
 have h:IntKind.u64.wrap (a+b)<18446744073709551616:=by simp only[IntKind.wrap,IntKind.signed,IntKind.bits];simp;omega
 omega
def I0 (c:BlkV)(self:EidV):BlkV × Int:=ofV 6 c.num c.sum (if ZE self then ZW self else .mk 0 0 [] []) (if ZE self then 0 else 3)
def Of (r:BlkV × Int)(fl:Nat):BlkV × Bool:=(⟨r.1.ty,r.1.num,fl,r.1.sum,r.1.data⟩,r.2==0)
def Wi (c:BlkV)(self:EidV)(here:Int):BlkV × Bool:=match((c.ty:Int)==6) with
 | true=>Of (I0 c self) c.fl
 | false=>match((c.ty:Int)==7) with
  | true=>Of (ofV 7 c.num c.sum (.mk 0 (Vj (Jm c:Int) here) [] []) 0) c.fl
  | false=>match((c.ty:Int)==10) with
   | true=>Of (ofV 10 c.num c.sum (VZ (Qo c) (Vj (J8 c:Int) 1)) 0) c.fl
   | false=>(c,true)
abbrev chD (r:BlkV × Bool):D:=.tup [.agg (bkC r.1),.bool r.2]
theorem Og [Known][KnownU8](c:BlkV)(self:EidV)(here:Int)(hd:c.data.length<=100000)(hL:Qo c<18446744073709551616):AP Tryz.prog 55 [.agg (bkC c),.agg (eC self),.int .u64 here] (chD (Wi c self here)) []:=by
 have hP:AP Tryz.prog 53 [.int .u64 (c.num:Int),.int .i64 c.sum,.agg (eC self)] (Tl (I0 c self)) []:=Io c.num c.sum self
 have hA:AP Tryz.prog 103 [.agg (bkC c)] (.tup [.int .u64 (Jm c:Int),.int .i64 (VK c 7)]) []:=by
  unfold Jm
  exact G3 c hd
 have hH:=Oe c hd
 have hOA:=L3 c.num c.sum (Vj (Jm c:Int) here) (Xa _ _)
 have hOH:=Ml c.num c.sum (Qo c) (Vj (J8 c:Int) 1) hL (Xa _ _)
 have hC:=UL c.data (by omega)
 have e1:=J9 (Jm c:Int) here
 have e2:=J9 (J8 c:Int) 1
 unfold Wi
 generalize I0 c self=r1 at *
 generalize Vj (Jm c:Int) here=a1 at *
 generalize Vj (J8 c:Int) 1=a2 at *
 generalize ofV 7 c.num c.sum (.mk 0 a1 [] []) 0=r2 at *
 generalize ofV 10 c.num c.sum (VZ (Qo c) a2) 0=r3 at *
 clear hL hd
 generalize Qo c=L0 at *
 generalize J8 c=N0 at *
 generalize Jm c=A0 at *
 generalize VK c 7=k7 at *
 generalize VK c 10=k10 at *
 obtain⟨⟨p1,p2,p3,p4,p5⟩,p6⟩:=r1
 obtain⟨⟨q1,q2,q3,q4,q5⟩,q6⟩:=r2
 obtain⟨⟨s1,s2,s3,s4,s5⟩,s6⟩:=r3
 obtain⟨si,sn,ss,sh,sd⟩:=self
 obtain⟨cty,cnum,cfl,csum,cdata⟩:=c
 dsimp only at *
 cases t1:((cty:Int)==6) with
 | true=>
  refine AP.ofA (Zl Tryz.func55 U Tryz.ntmps55 U U ?_)
  repeat'(first|(apply Zb (hP);kernel_rfl;(iterate 4 exact U))|(apply Zh Za;exact U)|(apply Zg Za;exact U)|refine Zd U Qt ?_)
  all_goals exact Qe
 | false=>
 cases t2:((cty:Int)==7) with
 | true=>
  refine AP.ofA (Zl Tryz.func55 U Tryz.ntmps55 U U ?_)
  repeat'(first|rw[e1]|(apply Zb (hA);kernel_rfl;(iterate 4 exact U))|(apply Zb (hOA);kernel_rfl;(iterate 4 exact U))|(apply Zh Za;exact U)|(apply Zg Za;exact U)|refine Zd U Qt ?_|refine Zf U Qt ?_)
  all_goals exact Qe
 | false=>
 cases t3:((cty:Int)==10) with
 | true=>
  refine AP.ofA (Zl Tryz.func55 U Tryz.ntmps55 U U ?_)
  repeat'(first|rw[e2]|(apply Zb (hH);kernel_rfl;(iterate 4 exact U))|(apply Zb (hOH);kernel_rfl;(iterate 4 exact U))|(apply Zh Za;exact U)|(apply Zg Za;exact U)|refine Zd U Qt ?_|refine Zf U Qt ?_)
  all_goals exact Qe
 | false=>
  refine AP.ofA (Zl Tryz.func55 U Tryz.ntmps55 U U ?_)
  repeat'(first|(apply Zb (hC);kernel_rfl;(iterate 4 exact U))|(apply Zh Za;exact U)|(apply Zg Za;exact U)|refine Zf U Qt ?_)
  all_goals exact Qe
theorem RK {l:List BlkV}{i n:Nat}{c:BlkV}(hc:l[i]?=some c):(!(l.take (i+1)).any (V4 n))=((!(l.take i).any (V4 n))&&((c.num:Int) != (n:Int))):=by
 rw[List.take_add_one,hc,List.any_append]
 simp[V4,bne]
theorem TJ [Known](b:BunV)(hb:BunOk b):AP Tryz.prog 89 [.agg (bnC b)] (.int .u64 (Qx b.bl:Int)) []:=by
 have hl:=hb.len
 have hlen:=Yx b.bl
 have hUb:=Vl b.bl
 clear hb
 obtain⟨⟨fl,sum,⟨di,dn,ds,dh,dd⟩,⟨ri,rn,rs,rh,rd⟩,⟨xi,xn,xs,xh,xd⟩,t,q,life⟩,bl⟩:=b
 try dsimp only at *
 generalize hR:Qx bl=R
 refine AP.ofA (Zl Tryz.func89 U Tryz.ntmps89 U U ?_)
 repeat'(first|(apply Zg Za;exact U))
 refine ZJ (fun f tm bx fr=>∃(n:Nat),bl.countP (fun c=>decide (n<=c.num))<=f/\f+n<=bl.length+2/\HG bl f n=R/\tm=[(1,.ptr 0 0),(3,.int .u64 (n:Int))]/\bx=[bnS ⟨fl,sum,⟨di,dn,ds,dh,dd⟩,⟨ri,rn,rs,rh,rd⟩,⟨xi,xn,xs,xh,xd⟩,t,q,life⟩ (.sl .ext (ZP bl))]/\fr=[]) (bl.length+1) (Lands.mk' (m:=bl.length) (Nat.lt_succ_self _) ⟨2,List.countP_le_length,by omega,hR,rfl,rfl,rfl⟩ ?_ rfl rfl rfl rfl rfl rfl) ?_
 ·exact .cons rfl (.cons rfl .nil)
 rintro f tm bx fr ⟨n,hcnt,hfn,hq,rfl,rfl,rfl⟩
 have en:IntKind.u64.wrap ((n:Int)+1)=((n+1:Nat):Int):=by rw[IntWalk.u64_in _ (by omega)];omega
 repeat'(first|(apply Zg Za;exact U))
 refine ZJ (fun f2 tm bx fr=>∃(i:Nat),f2+i=bl.length/\tm=[(1,.ptr 0 0),(3,.int .u64 (n:Int)),(4,.bool (!(bl.take i).any (V4 n))),(5,.int .i64 (i:Int))]/\bx=[bnS ⟨fl,sum,⟨di,dn,ds,dh,dd⟩,⟨ri,rn,rs,rh,rd⟩,⟨xi,xn,xs,xh,xd⟩,t,q,life⟩ (.sl .ext (ZP bl))]/\fr=[]) (bl.length+1) (Lands.mk' (m:=bl.length) (Nat.lt_succ_self _) ⟨0,by omega,rfl,rfl,rfl⟩ ?_ rfl rfl rfl rfl rfl rfl) ?_
 ·exact .cons rfl (.cons rfl (.cons rfl (.cons rfl .nil)))
 rintro f2 tm bx fr ⟨i,hi,rfl,rfl,rfl⟩
 rcases Nat.lt_or_ge i bl.length with hlt|hge
 ·have hdl:decide ((i:Int)<((ZP bl).length:Int))=true:=decide_eq_true (by omega)
  obtain⟨y,hy⟩:∃ y,bl[i]?=some y:=⟨_,List.getElem?_eq_getElem hlt⟩
  have hv:=Yy hy
  have ei:IntKind.i64.wrap ((i:Int)+1)=((i+1:Nat):Int):=by rw[IntWalk.i64_in _ (by omega)];omega
  have ha:=RK (n:=n) hy
  have key:∀ v:Bool,v=(!(bl.take (i+1)).any (V4 n))->∃(j:Nat),f2-1+j=bl.length/\[(1,D.ptr 0 0),(3,.int .u64 (n:Int)),(4,.bool v),(5,.int .i64 ((i+1:Nat):Int))]=[(1,.ptr 0 0),(3,.int .u64 (n:Int)),(4,.bool (!(bl.take j).any (V4 n))),(5,.int .i64 (j:Int))]/\[bnS ⟨fl,sum,⟨di,dn,ds,dh,dd⟩,⟨ri,rn,rs,rh,rd⟩,⟨xi,xn,xs,xh,xd⟩,t,q,life⟩ (.sl .ext (ZP bl))]=[bnS ⟨fl,sum,⟨di,dn,ds,dh,dd⟩,⟨ri,rn,rs,rh,rd⟩,⟨xi,xn,xs,xh,xd⟩,t,q,life⟩ (.sl .ext (ZP bl))]/\([]:List Fr)=[]:=fun v hv=>⟨i+1,by omega,by rw[hv],rfl,rfl⟩
  generalize (!(bl.take i).any (V4 n))=r at *
  cases r with
  | true=>
   rw[Bool.true_and]at ha
   repeat'(first|rw[ei]|(apply Zh Za;exact U)|(apply Zg Za;exact U)|(apply Zo Za;exact U)|(apply Ze;(iterate 3 exact U);(first|with_reducible assumption|decide +kernel|(solve|simp only[bn])))|(apply Zk;exact U;(first|with_reducible assumption|decide +kernel|(solve|simp only[bn]));exact U;exact U)|(apply Zd;exact U;(first|with_reducible assumption|decide +kernel|(solve|simp only[bn])))|refine Zm Za U U U U ?_|(apply Zu Za;(iterate 6 exact U);(first|exact Qt|rotate_left);(first|with_reducible assumption|decide +kernel|exact U);(first|exact Zj rfl|with_reducible assumption|decide +kernel|rotate_left)))
   refine Lands.mk' (m:=f2-1) (by omega) (key _ ha.symm) ?_ rfl rfl rfl rfl rfl rfl
   exact .cons rfl (.cons rfl (.cons rfl (.cons rfl .nil)))
  | false=>
   rw[Bool.false_and]at ha
   repeat'(first|rw[ei]|(apply Zh Za;exact U)|(apply Zg Za;exact U)|(apply Zo Za;exact U)|(apply Zr;(iterate 3 exact U);(first|with_reducible assumption|decide +kernel|(solve|simp only[bn])))|(apply Zi;exact U;(first|with_reducible assumption|decide +kernel|(solve|simp only[bn]));exact U;exact U)|(apply Zd;exact U;(first|with_reducible assumption|decide +kernel|(solve|simp only[bn])))|refine Zm Za U U U U ?_)
   refine Lands.mk' (m:=f2-1) (by omega) (key _ ha.symm) ?_ rfl rfl rfl rfl rfl rfl
   exact .cons rfl (.cons rfl (.cons rfl (.cons rfl .nil)))
 ·have hdl:decide ((i:Int)<((ZP bl).length:Int))=false:=decide_eq_false (by omega)
  rw[List.take_of_length_le hge]
  cases ha:bl.any (V4 n) with
  | true=>
   have hup:=HI ha
   obtain⟨f',rfl⟩:∃ f',f=f'+1:=⟨f-1,by omega⟩
   rw[HG,ha]at hq
   dsimp only at hq
   repeat'(first|rw[en]|(apply Zh Za;exact U)|(apply Zg Za;exact U)|(apply Zo Za;exact U)|(apply Zf;exact U;(first|with_reducible assumption|decide +kernel|(solve|simp only[bn])))|refine Z6 ?_|refine Zm Za U U U U ?_)
   refine Lands.mk' (m:=f') (by omega) ⟨n+1,by omega,by omega,hq,rfl,rfl,rfl⟩ ?_ rfl rfl rfl rfl rfl rfl
   exact .cons rfl (.cons rfl .nil)
  | false=>
   have hq:n=R:=by
    cases f with
    | zero=>exact hq
    | succ f=>rw[HG,ha]at hq;exact hq
   subst hq
   repeat'(first|(apply Zh Za;exact U)|(apply Zg Za;exact U)|(apply Zo Za;exact U)|(apply Zd;exact U;(first|with_reducible assumption|decide +kernel|(solve|simp only[bn])))|(apply Zf;exact U;(first|with_reducible assumption|decide +kernel|(solve|simp only[bn])))|refine Zm Za U U U U ?_)
   all_goals exact Qe
theorem S5 [Known][KnownU8](b:BunV)(hb:BunOk b)(hd:Fit b.p.dest)(hr:Fit b.p.rep)(hs:Fit b.p.src)(since now:Int):AP Tryz.prog 126 [.agg (bnC b),.int .u64 since,.int .u64 now] (.int .i64 (VV b since now)) []:=by
 have hW:=JM b hb hd hr hs
 have h2:(W4 b).2=Yb b:=by
  unfold W4
  cases Yb b<;>rfl
 rw[h2]at hW
 unfold VV
 clear hb hd hr hs h2
 generalize (W4 b).1=w at *
 generalize Yb b=r at *
 obtain⟨⟨fl,sum,⟨di,dn,ds,dh,dd⟩,⟨ri,rn,rs,rh,rd⟩,⟨xi,xn,xs,xh,xd⟩,t,q,life⟩,bl⟩:=b
 try dsimp only at *
 cases r<;>cases t1:decide (since>now)<;>cases t2:decide (now>1099511627776)
 all_goals
  refine AP.ofA (Zl Tryz.func126 U Tryz.ntmps126 U U ?_)
  repeat'(first|(apply Zb (hW);kernel_rfl;(iterate 4 exact U))|(apply Zh Za;exact U)|(apply Zg Za;exact U)|(apply Zo Za;exact U)|(apply Ze;(iterate 3 exact U);(first|with_reducible assumption|decide +kernel|(solve|simp only[bn])))|(apply Zn;(iterate 3 exact U);(first|with_reducible assumption|decide +kernel|(solve|simp only[bn])))|(apply Zk;exact U;(first|with_reducible assumption|decide +kernel|(solve|simp only[bn]));exact U;exact U)|(apply Zi;exact U;(first|with_reducible assumption|decide +kernel|(solve|simp only[bn]));exact U;exact U)|(apply Zd;exact U;(first|with_reducible assumption|decide +kernel|(solve|simp only[bn])))|(apply Zf;exact U;(first|with_reducible assumption|decide +kernel|(solve|simp only[bn]))))
  all_goals exact Qe
def atD (b:BunV)(since now:Int):Int:=match((b.p.t:Int)==0) with
 | false=>now
 | true=>match b.bl.find? (Wt 7) with
  | none=>IntKind.u64.wrap (now-since)
  | some c=>IntKind.u64.wrap (IntKind.u64.wrap (now-since)+(Ke c.data:Int))
def Oh (b:BunV)(since now:Int):Int × Int:=match VV b since now != 0 with
 | true=>(0,VV b since now)
 | false=>match decide (atD b since now ≥ IntKind.u64.wrap ((b.p.t:Int)+(b.p.life:Int))) with
  | true=>(0,VV b since now)
  | false=>(IntKind.u64.wrap (IntKind.u64.wrap ((b.p.t:Int)+(b.p.life:Int))-atD b since now),VV b since now)
theorem RL [Known][KnownU8](b:BunV)(hb:BunOk b)(hd:Fit b.p.dest)(hr:Fit b.p.rep)(hs:Fit b.p.src)(since now:Int):AP Tryz.prog 86 [.agg (bnC b),.int .u64 since,.int .u64 now] (.tup [.int .u64 (Oh b since now).1,.int .i64 (Oh b since now).2]) []:=by
 have hA:=S5 b hb hd hr hs since now
 have hF:AP Tryz.prog 37 [.agg (bnC b),.int .u64 7] (.int .i64 (fiQ (Wt 7) b.bl 0)) []:=XL b 7 hb.len
 have hq:=U2 (Wt 7) b.bl 0
 have hlen:=Yx b.bl
 have hUb:=Vl b.bl
 have hbl:=hb.bl
 unfold Oh
 generalize VV b since now=e at *
 cases t1:(e != 0) with
 | true=>
  clear hq
  obtain⟨⟨fl,sum,⟨di,dn,ds,dh,dd⟩,⟨ri,rn,rs,rh,rd⟩,⟨xi,xn,xs,xh,xd⟩,t,q,life⟩,bl⟩:=b
  try dsimp only at *
  refine AP.ofA (Zl Tryz.func86 U Tryz.ntmps86 U U ?_)
  repeat'(first|(apply Zb (hA);kernel_rfl;(iterate 4 exact U))|(apply Zh Za;exact U)|(apply Zg Za;exact U)|(apply Zo Za;exact U)|(apply Zd;exact U;(first|with_reducible assumption|decide +kernel|(solve|simp only[bn]))))
  all_goals exact Qe
 | false=>
 dsimp only
 unfold atD
 cases t2:((b.p.t:Int)==0) with
 | false=>
  dsimp only
  clear hq
  cases t3:decide (now ≥ IntKind.u64.wrap ((b.p.t:Int)+(b.p.life:Int)))
  all_goals
   obtain⟨⟨fl,sum,⟨di,dn,ds,dh,dd⟩,⟨ri,rn,rs,rh,rd⟩,⟨xi,xn,xs,xh,xd⟩,t,q,life⟩,bl⟩:=b
   try dsimp only at *
   refine AP.ofA (Zl Tryz.func86 U Tryz.ntmps86 U U ?_)
   repeat'(first|(apply Zb (hA);kernel_rfl;(iterate 4 exact U))|(apply Zh Za;exact U)|(apply Zg Za;exact U)|(apply Zo Za;exact U)|(apply Zd;exact U;(first|with_reducible assumption|decide +kernel|(solve|simp only[bn])))|(apply Zf;exact U;(first|with_reducible assumption|decide +kernel|(solve|simp only[bn]))))
   all_goals exact Qe
 | true=>
  cases hf:b.bl.find? (Wt 7) with
  | none=>
   rw[hf]at hq
   have hq:fiQ (Wt 7) b.bl 0 = -1:=hq
   rw[hq]at hF
   dsimp only
   cases t3:decide (IntKind.u64.wrap (now-since) ≥ IntKind.u64.wrap ((b.p.t:Int)+(b.p.life:Int)))
   all_goals
    obtain⟨⟨fl,sum,⟨di,dn,ds,dh,dd⟩,⟨ri,rn,rs,rh,rd⟩,⟨xi,xn,xs,xh,xd⟩,t,q,life⟩,bl⟩:=b
    try dsimp only at *
    refine AP.ofA (Zl Tryz.func86 U Tryz.ntmps86 U U ?_)
    repeat'(first|(apply Zb (hA);kernel_rfl;(iterate 4 exact U))|(apply Zb (hF);kernel_rfl;(iterate 4 exact U))|(apply Zh Za;exact U)|(apply Zg Za;exact U)|(apply Zo Za;exact U)|(apply Zd;exact U;(first|with_reducible assumption|decide +kernel|(solve|simp only[bn])))|(apply Zf;exact U;(first|with_reducible assumption|decide +kernel|(solve|simp only[bn]))))
    all_goals exact Qe
  | some c=>
   rw[hf]at hq
   obtain⟨j,hj,hc⟩:=hq
   rw[hj]at hF
   have hv:=Yy hc
   have hG:=IW c.data (Nat.le_trans (hbl c (List.mem_of_getElem? hc)).2 (by omega))
   have tj:decide (((0+j:Nat):Int) ≥ 0)=true:=decide_eq_true (by omega)
   rw[Nat.zero_add]at hF tj
   generalize (Qn c.data).2=ok at *
   dsimp only
   cases t3:decide (IntKind.u64.wrap (IntKind.u64.wrap (now-since)+(Ke c.data:Int)) ≥ IntKind.u64.wrap ((b.p.t:Int)+(b.p.life:Int)))
   all_goals
    obtain⟨⟨fl,sum,⟨di,dn,ds,dh,dd⟩,⟨ri,rn,rs,rh,rd⟩,⟨xi,xn,xs,xh,xd⟩,t,q,life⟩,bl⟩:=b
    try dsimp only at *
    refine AP.ofA (Zl Tryz.func86 U Tryz.ntmps86 U U ?_)
    repeat'(first|(apply Zb (hA);kernel_rfl;(iterate 4 exact U))|(apply Zb (hF);kernel_rfl;(iterate 4 exact U))|(apply Zb (hG);kernel_rfl;(iterate 4 exact U))|(apply Zh Za;exact U)|(apply Zg Za;exact U)|(apply Zo Za;exact U)|(apply Zd;exact U;(first|with_reducible assumption|decide +kernel|(solve|simp only[bn])))|(apply Zf;exact U;(first|with_reducible assumption|decide +kernel|(solve|simp only[bn])))|(apply Zu Za;(iterate 6 exact U);(first|exact Qt|rotate_left);(first|with_reducible assumption|decide +kernel|exact U);(first|exact Zj rfl|with_reducible assumption|decide +kernel|rotate_left)))
    all_goals exact Qe
abbrev zE (x:EidV):Bool:=(x.i==false)&&(((x.n:Int)==0)&&(((x.s:Int)==0)&&((x.h==[])&&((x.d==[])&&true))))
def onC (self:EidV)(here:Int):List BlkV->List BlkV->Option (List BlkV)
 | acc,[]=>some acc
 | acc,c::r=>match(Wi c self here).2 with
  | false=>none
  | true=>onC self here (acc++[(Wi c self here).1]) r
def HJ (b:BunV)(self:EidV):BlkV:=(ofV 6 (Qx b.bl) 0 (if ZE self then ZW self else .mk 0 0 [] []) (if ZE self then 0 else 3)).1
def X9 (b:BunV)(self:EidV):List BlkV:=match b.bl.find? (Wt 6) with
 | some _=>[]
 | none=>[HJ b self]
def Vk (p:PriV):Option (List BlkV)->BunV × Int
 | none=>(bn0,3)
 | some l=>match Yb ⟨p,l⟩ with
  | true=>(⟨p,l⟩,0)
  | false=>(bn0,3)
def onH (b:BunV)(self:EidV)(since now:Int):BunV × Int:=match(VV b since now==3)||(!ZE self||zE self) with
 | true=>(bn0,3)
 | false=>match VV b since now != 0 with
  | true=>(bn0,VV b since now)
  | false=>match QW b since now with
   | true=>(bn0,18)
   | false=>match UA b with
    | true=>(bn0,19)
    | false=>Vk b.p (onC self (IntKind.u64.wrap (now-since)) (X9 b self) b.bl)
theorem Kq {c:BlkV}(hd:c.data.length<=100000):Qo c<18446744073709551616:=by
 unfold Qo
 split
 ·decide
 ·have hw:=G1 c.data hd
  unfold Wg
  generalize (Yl c.data 0).1=x at *
  unfold Jt
  repeat'(first|split|(dsimp only))
  all_goals first|decide|skip
  all_goals first|exact Bl (by simp_all [wfI,wfs])|simp_all [wfI,wfs]
def UB (c:BlkV):Prop:=c.fl<18446744073709551616/\c.data.length<=3000
theorem Xb {kind ZQ:Nat}{sum:Int}{x:It}{e:Int}(hx:(ZN x).length<=3000):(ofV kind ZQ sum x e).1.data.length<=3000:=by
 rcases L6 (kind:=kind) (ZQ:=ZQ) (sum:=sum) (x:=x) (e:=e) with h|h
 ·obtain⟨_,_,_,hp⟩:=Nw (p:=(ofV kind ZQ sum x e).1) (Prod.ext rfl h)
  rw[hp];exact hx
 ·rw[h];decide
theorem D9 {kind ZQ:Nat}{sum:Int}{x:It}{e:Int}:(ofV kind ZQ sum x e).1.fl=0:=by
 rcases L6 (kind:=kind) (ZQ:=ZQ) (sum:=sum) (x:=x) (e:=e) with h|h
 ·obtain⟨_,_,_,hp⟩:=Nw (p:=(ofV kind ZQ sum x e).1) (Prod.ext rfl h)
  rw[hp]
 ·rw[h];rfl
theorem Oi (x:EidV):(ZN (if ZE x then ZW x else .mk 0 0 [] [])).length<=3000:=by
 cases h:ZE x with
 | false=>
  show(ZN (.mk 0 0 [] [])).length<=3000
  decide +kernel
 | true=>
  show(ZN (ZW x)).length<=3000
  have:=WD h
  omega
theorem Ip {c:BlkV}(self:EidV)(here:Int)(h:UB c):UB (Wi c self here).1:=by
 unfold Wi
 split
 ·exact⟨h.1,Xb (Oi self)⟩
 ·split
  ·exact⟨h.1,Xb (by have:=Yv (Vj (Jm c:Int) here);omega)⟩
  ·split
   ·exact⟨h.1,Xb (by have:=V3 (Qo c) (Vj (J8 c:Int) 1);omega)⟩
   ·exact h
theorem Dh (b:BunV)(self:EidV):UB (HJ b self):=⟨by unfold HJ;rw[D9];decide,Xb (Oi self)⟩
abbrev onD (r:BunV × Int):D:=.tup [.agg (bnC r.1),.int .i64 r.2]
end Go.Proofs.YtmljabhmajehnaaGreatDoor
end
