/- The document's numbers and first blocks: which may be. -/
import Derived.Test.YtmljabhmajehnaaGreatDoorO40
import Derived.Test.YtmljabhmajehnaaGreatDoorO35
set_option linter.unusedVariables false
set_option linter.unusedSimpArgs false
section
open Go.RowKit Go.Pl Go.Av
namespace Go.Proofs.YtmljabhmajehnaaGreatDoor
set_option maxHeartbeats 4000000
theorem TG [Known](x:EidV)(t q:Nat)(hx:Fit x):AP Tryz.prog 74 [.agg (iC x t q)] (.bool (Vd x t q)) []:=by
 have hK:=WZ x hx
 have hg:=Jf x
 unfold Vd
 rw[<- hg]
 generalize YT x=κ at *
 clear hg hx
 obtain⟨xi,xn,xs,xh,xd⟩:=x
 cases t1:decide (κ ≥ 0)<;>cases t2:decide ((t:Int)<=1099511627776)<;>cases t3:decide ((q:Int)<=1099511627776)
 all_goals
  refine AP.ofA (Zl Tryz.func74 U Tryz.ntmps74 U U ?_)
  repeat'(first|(apply Zb (hK);kernel_rfl;(iterate 4 exact U))|(apply Zh Za;exact U)|(apply Zg Za;exact U)|refine Ze U U U Qt ?_|refine Zr U U U Qt ?_|refine Zk U Qt U U ?_|refine Zi U Qt U U ?_)
  all_goals(apply Zp [];(apply Zc Za;exact U);(iterate 4 exact U))
  all_goals first|rfl|(rw[t3];rfl)
def Il:List Nat:=[262144,131072,16384,32,4,2]
def Oa:List E:=Il.map (fun(n:Nat)=>E.int .u64 (n:Int))
def rsN (fl:Nat):Nat->Nat
 | 0=>fl
 | i+1=>Z9 (rsN fl i) (Il.getD i 0)
theorem De (fl:Nat):rsN fl 6=X8 fl:=rfl
theorem Bn (fl:Nat):∀ i,rsN fl i<=fl
 | 0=>Nat.le_refl _
 | i+1=>by
  have:=Bn fl i
  show Z9 (rsN fl i) _<=fl
  unfold Z9
  split<;>omega
theorem S1 {i:Nat}(h:i<6):Oa[((i:Nat):Int).toNat]?=some (.int .u64 ((Il.getD i 0:Nat):Int)):=by
 have:i=0\/i=1\/i=2\/i=3\/i=4\/i=5:=by omega
 rcases this with rfl|rfl|rfl|rfl|rfl|rfl<;>rfl
theorem TH (p:PriV)(hfl:p.fl<18446744073709551616):Yr p=((X8 p.fl==0)&&(decide (p.sum ≥ 0)&&(decide (p.sum<3)&&(decide (YT p.dest ≥ 0)&&(decide (YT p.rep ≥ 0)&&(Vd p.src p.t p.q&&decide ((p.life:Int)<=1099511627776))))))):=by
 unfold Yr
 rw[TF _ hfl,Jf,Jf]
 rw[show decide (p.sum<=2)=decide (p.sum<3) from by rw[decide_eq_decide];omega]
theorem TI [Known](p:PriV)(hfl:p.fl<18446744073709551616)(hd:Fit p.dest)(hr:Fit p.rep)(hs:Fit p.src):AP Tryz.prog 78 [.agg (prC p)] (.bool (Yr p)) []:=by
 rw[TH p hfl]
 have hD:=WZ p.dest hd
 have hR:=WZ p.rep hr
 have hI:=TG p.src p.t p.q hs
 generalize YT p.dest=κ1 at *
 generalize YT p.rep=κ2 at *
 generalize Vd p.src p.t p.q=e3 at *
 clear hd hr hs
 obtain⟨fl,sum,⟨di,dn,ds,dh,dd⟩,⟨ri,rn,rs,rh,rd⟩,⟨xi,xn,xs,xh,xd⟩,t,q,life⟩:=p
 dsimp only at *
 refine AP.ofA (Zl Tryz.func78 U Tryz.ntmps78 U U ?_)
 repeat'(first|(apply Zh Za;exact U)|(apply Zg Za;exact U)|refine ZO Za U U U U U U U U U U U U ?_)
 refine ZJ (fun f tm bx fr=>∃(i:Nat),f+i=6/\tm=[(1,.ptr 0 0),(3,.int .u64 (rsN fl i:Int)),(4,.sl .ext Oa),(5,.int .i64 (i:Int))]/\bx=[[.int .u64 (fl:Int),.int .i64 sum,.bool di,.int .u64 (dn:Int),.int .u64 (ds:Int),.str dh,.str dd,.bool ri,.int .u64 (rn:Int),.int .u64 (rs:Int),.str rh,.str rd,.bool xi,.int .u64 (xn:Int),.int .u64 (xs:Int),.str xh,.str xd,.int .u64 (t:Int),.int .u64 (q:Int),.int .u64 (life:Int)]]/\fr=[]) 7 (Lands.mk' (m:=6) (Nat.lt_succ_self _) ⟨0,by omega,rfl,rfl,rfl⟩ ?_ rfl rfl rfl rfl rfl rfl) ?_
 ·exact .cons rfl (.cons rfl (.wk rfl (.cons rfl .nil)))
 rintro f tm bx fr ⟨i,hf,rfl,rfl,rfl⟩
 rcases Nat.lt_or_ge i 6 with hlt|hge
 ·have hdl:decide ((i:Int)<((Oa.length:Nat):Int))=true:=decide_eq_true (by show(i:Int)<6;omega)
  have hv:=S1 hlt
  have hU:Uni 1 Oa:=Uni.map (f:=fun(n:Nat)=>E.int .u64 (n:Int)) (fun _=>rfl) Il
  have ei:IntKind.i64.wrap ((i:Int)+1)=((i+1:Nat):Int):=by rw[IntWalk.i64_in _ (by omega)];omega
  have hle:=Bn fl i
  have hn:rsN fl (i+1)=Z9 (rsN fl i) (Il.getD i 0):=rfl
  have hi0:(0:Int)<=(i:Int):=by omega
  generalize Oa=L at *
  generalize rsN fl i=r at *
  generalize Il.getD i 0=b at *
  cases hc:decide ((r:Int) ≥ (b:Int)) with
  | true=>
   have hrb:=of_decide_eq_true hc
   have hM:IntKind.u64.wrap ((r:Int)-(b:Int))=((r-b:Nat):Int):=by rw[IntKind.wrap_u64];omega
   have e:rsN fl (i+1)=r-b:=by rw[hn];unfold Z9;rw[if_pos (by omega)]
   repeat'(first|rw[ei]|rw[hM]|(apply Zh Za;exact U)|(apply Zg Za;exact U)|(apply Zo Za;exact U)|refine Zd U Qt ?_|refine Zm Za U U U U ?_|(apply Zu Za;(iterate 6 exact U);(first|exact Qt|rotate_left);(first|with_reducible assumption|decide +kernel|exact U);(first|exact Zj rfl|with_reducible assumption|decide +kernel|rotate_left)))
   refine Lands.mk' (m:=f-1) (by omega) ⟨i+1,by omega,by rw[e],rfl,rfl⟩ ?_ rfl rfl rfl rfl rfl rfl
   exact .cons rfl (.cons rfl (.cons rfl (.cons rfl .nil)))
  | false=>
   have hrb:=of_decide_eq_false hc
   have e:rsN fl (i+1)=r:=by rw[hn];unfold Z9;rw[if_neg (by omega)]
   repeat'(first|rw[ei]|(apply Zh Za;exact U)|(apply Zg Za;exact U)|(apply Zo Za;exact U)|refine Zd U Qt ?_|refine Zf U Qt ?_|refine Zm Za U U U U ?_|(apply Zu Za;(iterate 6 exact U);(first|exact Qt|rotate_left);(first|with_reducible assumption|decide +kernel|exact U);(first|exact Zj rfl|with_reducible assumption|decide +kernel|rotate_left)))
   refine Lands.mk' (m:=f-1) (by omega) ⟨i+1,by omega,by rw[e],rfl,rfl⟩ ?_ rfl rfl rfl rfl rfl rfl
   exact .cons rfl (.cons rfl (.cons rfl (.cons rfl .nil)))
 ·obtain rfl:i=6:=by omega
  have hdl:decide (((6:Nat):Int)<((Oa.length:Nat):Int))=false:=rfl
  rw[De]
  have hz:(((X8 fl:Nat):Int)==0)=(X8 fl==0):=by rw[Bool.eq_iff_iff,beq_iff_eq,beq_iff_eq];omega
  rw[<- hz]
  generalize X8 fl=r at *
  generalize Oa=L at *
  cases t1:((r:Int)==0) with
  | false=>
   repeat'(first|(apply Zh Za;exact U)|(apply Zg Za;exact U)|(apply Zo Za;exact U)|refine Zr U U U Qt ?_|refine Zi U Qt U U ?_|refine Zf U Qt ?_|refine Zm Za U U U U ?_)
   all_goals exact Qe
  | true=>
  cases t2:decide (sum ≥ 0) with
  | false=>
   repeat'(first|(apply Zh Za;exact U)|(apply Zg Za;exact U)|(apply Zo Za;exact U)|refine Ze U U U Qt ?_|refine Zr U U U Qt ?_|refine Zk U Qt U U ?_|refine Zi U Qt U U ?_|refine Zf U Qt ?_|refine Zm Za U U U U ?_)
   all_goals exact Qe
  | true=>
  cases t3:decide (sum<3) with
  | false=>
   repeat'(first|(apply Zh Za;exact U)|(apply Zg Za;exact U)|(apply Zo Za;exact U)|refine Ze U U U Qt ?_|refine Zr U U U Qt ?_|refine Zk U Qt U U ?_|refine Zi U Qt U U ?_|refine Zf U Qt ?_|refine Zm Za U U U U ?_)
   all_goals exact Qe
  | true=>
  cases t4:decide (κ1 ≥ 0) with
  | false=>
   repeat'(first|(apply Zb (hD);kernel_rfl;(iterate 4 exact U))|(apply Zh Za;exact U)|(apply Zg Za;exact U)|(apply Zo Za;exact U)|refine Ze U U U Qt ?_|refine Zr U U U Qt ?_|refine Zk U Qt U U ?_|refine Zi U Qt U U ?_|refine Zf U Qt ?_|refine Zm Za U U U U ?_)
   all_goals exact Qe
  | true=>
  cases t5:decide (κ2 ≥ 0) with
  | false=>
   repeat'(first|(apply Zb (hD);kernel_rfl;(iterate 4 exact U))|(apply Zb (hR);kernel_rfl;(iterate 4 exact U))|(apply Zh Za;exact U)|(apply Zg Za;exact U)|(apply Zo Za;exact U)|refine Ze U U U Qt ?_|refine Zr U U U Qt ?_|refine Zk U Qt U U ?_|refine Zi U Qt U U ?_|refine Zf U Qt ?_|refine Zm Za U U U U ?_)
   all_goals exact Qe
  | true=>
  cases e3
  ·repeat'(first|(apply Zb (hD);kernel_rfl;(iterate 4 exact U))|(apply Zb (hR);kernel_rfl;(iterate 4 exact U))|(apply Zb (hI);kernel_rfl;(iterate 4 exact U))|(apply Zh Za;exact U)|(apply Zg Za;exact U)|(apply Zo Za;exact U)|refine Ze U U U Qt ?_|refine Zr U U U Qt ?_|refine Zk U Qt U U ?_|refine Zi U Qt U U ?_|refine Zf U Qt ?_|refine Zm Za U U U U ?_)
   all_goals exact Qe
  cases t6:decide ((life:Int)<=1099511627776)
  all_goals
   repeat'(first|(apply Zb (hD);kernel_rfl;(iterate 4 exact U))|(apply Zb (hR);kernel_rfl;(iterate 4 exact U))|(apply Zb (hI);kernel_rfl;(iterate 4 exact U))|(apply Zh Za;exact U)|(apply Zg Za;exact U)|(apply Zo Za;exact U)|refine Ze U U U Qt ?_|refine Zk U Qt U U ?_|refine Zf U Qt ?_|refine Zm Za U U U U ?_)
   all_goals(apply Zp [];(apply Zc Za;exact U);(iterate 4 exact U))
   all_goals first|rfl|(rw[t6];rfl)
theorem MN (p:PriV)(l:List BlkV)(c:BlkV):Jl p (l++[c])=Jl p l++ZN (WL c):=by
 unfold Jl
 rw[List.map_append,UU]
 simp[ZV]
theorem Df {p:PriV}(h:Yr p=true)(hfl:p.fl<18446744073709551616):wfI (Va p)/\ZB (Va p)=true/\(ZN (Va p)).length<=4000:=by
 have hw:=Xy (p:=p) hfl
 have he:=XG h
 rw[he]at hw
 obtain⟨_,hs⟩:=WE he
 exact⟨hw,Un hs,Ts he⟩
theorem RG {c:BlkV}(h:ZH c=true)(hfl:c.fl<18446744073709551616)(hd:c.data.length<=3000):wfI (WL c)/\ZB (WL c)=true/\(ZN (WL c)).length<=4000:=by
 have hw:=G4 hfl hd
 have he:=K7 h
 rw[he]at hw
 obtain⟨_,hs⟩:=Ul he
 exact⟨hw,Un hs,Tr he hd⟩
theorem HF (p:PriV)(hp:(ZN (Va p)).length<=4000):∀(l:List BlkV),(∀ c ∈ l,(ZN (WL c)).length<=4000)->(Jl p l).length<=4001+4000*l.length
 | [],_=>by unfold Jl;simp[ZV];omega
 | c::l,h=>by
  have h1:=HF p hp l fun y hy=>h y (List.mem_cons_of_mem _ hy)
  have h2:=h c (List.mem_cons_self ..)
  unfold Jl at h1 ⊢
  rw[List.map_cons,ZV]
  simp only[List.length_cons,List.length_append]at h1 ⊢
  omega
theorem JM [Known][KnownU8](b:BunV)(hb:BunOk b)(hd:Fit b.p.dest)(hr:Fit b.p.rep)(hs:Fit b.p.src):AP Tryz.prog 35 [.agg (bnC b)] (.tup [byE (W4 b).1,.bool (W4 b).2]) []:=by
 have hR:=TI b.p hb.fl hd hr hs
 have hlen:=Yx b.bl
 have hUb:=Vl b.bl
 have hno:=MH (b:=b)
 have hyes:=TB (b:=b)
 generalize W4 b=DD at *
 have hl:=hb.len
 have hbl:=hb.bl
 have hW6:=fun h=>TD b.p h hb.fl
 have hput:=fun h=>Df (p:=b.p) h hb.fl
 have hN:=fun n=>Ji b 0 n hb.len
 have h6:AP Tryz.prog 81 [.agg (bnC b),.int .u64 6,.int .u64 0] (.int .i64 (W3 b.bl 6 0:Int)) []:=Ji b 6 0 hb.len
 have h7:AP Tryz.prog 81 [.agg (bnC b),.int .u64 7,.int .u64 0] (.int .i64 (W3 b.bl 7 0:Int)) []:=Ji b 7 0 hb.len
 have h10:AP Tryz.prog 81 [.agg (bnC b),.int .u64 10,.int .u64 0] (.int .i64 (W3 b.bl 10 0:Int)) []:=Ji b 10 0 hb.len
 replace hN:∀ n:Nat,AP Tryz.prog 81 [.agg (bnC b),.int .u64 0,.int .u64 (n:Int)] (.int .i64 (W3 b.bl 0 n:Int)) []:=hN
 clear hb hd hr hs
 obtain⟨p,l⟩:=b
 dsimp only at hR hlen hUb hno hyes hl hbl hW6 hput hN h6 h7 h10
 rcases Nat.lt_or_ge l.length 1 with h1|h1
 ·have t1:decide (((ZP l).length:Int)<1)=true:=decide_eq_true (by omega)
  have e:=hno fun h=>by have:=h.1.one;omega
  subst e
  clear hno hyes
  obtain⟨fl,sum,⟨di,dn,ds,dh,dd⟩,⟨ri,rn,rs,rh,rd⟩,⟨xi,xn,xs,xh,xd⟩,t,q,life⟩:=p
  try dsimp only at *
  refine AP.ofA (Zl Tryz.func35 U Tryz.ntmps35 U U ?_)
  repeat'(first|(apply Zh Za;exact U)|(apply Zg Za;exact U)|(apply Zo Za;exact U)|(apply Zn;(iterate 3 exact U);(first|with_reducible assumption|decide +kernel|(solve|simp only[bn])))|(apply Zk;exact U;(first|with_reducible assumption|decide +kernel|(solve|simp only[bn]));exact U;exact U)|(apply Zd;exact U;(first|with_reducible assumption|decide +kernel|(solve|simp only[bn])))|refine Zm Za U U U U ?_)
  all_goals exact Qe
 have t1:decide (((ZP l).length:Int)<1)=false:=decide_eq_false (by omega)
 rcases Nat.lt_or_ge 8 l.length with h8|h8
 ·have t2:decide (((ZP l).length:Int)>8)=true:=decide_eq_true (by omega)
  have e:=hno fun h=>by have:=h.1.few;omega
  subst e
  clear hno hyes
  obtain⟨fl,sum,⟨di,dn,ds,dh,dd⟩,⟨ri,rn,rs,rh,rd⟩,⟨xi,xn,xs,xh,xd⟩,t,q,life⟩:=p
  try dsimp only at *
  refine AP.ofA (Zl Tryz.func35 U Tryz.ntmps35 U U ?_)
  repeat'(first|(apply Zh Za;exact U)|(apply Zg Za;exact U)|(apply Zo Za;exact U)|(apply Ze;(iterate 3 exact U);(first|with_reducible assumption|decide +kernel|(solve|simp only[bn])))|(apply Zn;(iterate 3 exact U);(first|with_reducible assumption|decide +kernel|(solve|simp only[bn])))|(apply Zk;exact U;(first|with_reducible assumption|decide +kernel|(solve|simp only[bn]));exact U;exact U)|(apply Zi;exact U;(first|with_reducible assumption|decide +kernel|(solve|simp only[bn]));exact U;exact U)|(apply Zd;exact U;(first|with_reducible assumption|decide +kernel|(solve|simp only[bn])))|refine Zm Za U U U U ?_)
  all_goals exact Qe
 have t2:decide (((ZP l).length:Int)>8)=false:=decide_eq_false (by omega)
 cases hrp:Yr p with
 | false=>
  rw[hrp]at hR
  have e:=hno fun h=>by rw[hrp]at h;exact absurd h.2.1 (by simp)
  subst e
  clear hno hyes hput hW6 hrp
  obtain⟨fl,sum,⟨di,dn,ds,dh,dd⟩,⟨ri,rn,rs,rh,rd⟩,⟨xi,xn,xs,xh,xd⟩,t,q,life⟩:=p
  try dsimp only at *
  refine AP.ofA (Zl Tryz.func35 U Tryz.ntmps35 U U ?_)
  repeat'(first|(apply Zb (hR);kernel_rfl;(iterate 4 exact U))|(apply Zh Za;exact U)|(apply Zg Za;exact U)|(apply Zo Za;exact U)|(apply Ze;(iterate 3 exact U);(first|with_reducible assumption|decide +kernel|(solve|simp only[bn])))|(apply Zi;exact U;(first|with_reducible assumption|decide +kernel|(solve|simp only[bn]));exact U;exact U)|(apply Zd;exact U;(first|with_reducible assumption|decide +kernel|(solve|simp only[bn])))|refine Zm Za U U U U ?_)
  all_goals exact Qe
 | true=>
 rw[hrp]at hR
 obtain⟨hxw,hxr,hxl⟩:=hput hrp
 replace hW6:=hW6 hrp
 have hC:=Vi (Va p) hxw (VL hxr) (by omega)
 have hout:=HF p hxl
 obtain⟨c0,t0,hp0⟩:=KL _ hxw hxr
 have h0:Jl p []=159::(c0::t0):=by unfold Jl;rw[hp0];simp[ZV]
 have hsn:=MN p
 generalize Jl p=O at *
 rw[hp0]at hC
 have hU0:=Ym (c0::t0)
 have hE0:[E.int .u8 159]++(c0::t0).map E.byte=(O []).map E.byte:=by rw[h0];simp
 have hO0:(O []).length=1+((c0::t0).map E.byte).length:=by rw[h0];simp;omega
 have hO0l:=hout [] (by simp)
 clear hxw hxr hxl hp0 hput
 generalize Va p=X at *
 obtain⟨k,n,bb,xl⟩:=X
 have en:IntKind.i64.wrap (((ZP l).length:Int)-1)=((l.length-1:Nat):Int):=by rw[IntWalk.i64_in _ (by omega)];omega
 obtain⟨fl,sum,⟨di,dn,ds,dh,dd⟩,⟨ri,rn,rs,rh,rd⟩,⟨xi,xn,xs,xh,xd⟩,t,q,life⟩:=p
 try dsimp only at *
 refine AP.ofA (Zl Tryz.func35 U Tryz.ntmps35 U U ?_)
 repeat'(first|(apply Zb (hR);kernel_rfl;(iterate 4 exact U))|(apply Zb (hW6);kernel_rfl;(iterate 4 exact U))|(apply Zb (hC);kernel_rfl;(iterate 4 exact U))|(apply Zh Za;exact U)|(apply Zg Za;exact U)|(apply Zo Za;exact U)|(apply Ze;(iterate 3 exact U);(first|with_reducible assumption|decide +kernel|(solve|simp only[bn])))|(apply Zi;exact U;(first|with_reducible assumption|decide +kernel|(solve|simp only[bn]));exact U;exact U)|(apply Zf;exact U;(first|with_reducible assumption|decide +kernel|(solve|simp only[bn])))|refine Zm Za U U U U ?_|refine ZO Za U U U U U U U U U U U U ?_|(apply ZR Za;(iterate 6 exact U);(first|with_reducible assumption|decide +kernel|exact U|rotate_left);exact U;exact U;(first|exact Zj rfl|with_reducible assumption|decide +kernel|rotate_left);(first|exact Zj rfl|with_reducible assumption|decide +kernel|rotate_left);(first|exact Qt|rotate_left);(first|exact Qt|rotate_left);(first|exact Qt|rotate_left);exact U;exact U))
 refine ZJ (fun f tm bx fr=>∃(i c:Nat) (L:List E),f+i=l.length/\c=L.length/\L=(O (l.take i)).map E.byte/\(∀ c ∈ l.take i,ZH c=true)/\(∀ j c,j<i->l[j]?=some c->IX l j c=true)/\tm=[(1,.ptr 0 0),(4,.int .i64 ((ZP l).length:Int)),(5,.sl (.own 0) L),(6,.int .i64 (i:Int))]/\bx=[bnS ⟨fl,sum,⟨di,dn,ds,dh,dd⟩,⟨ri,rn,rs,rh,rd⟩,⟨xi,xn,xs,xh,xd⟩,t,q,life⟩ (.sl .ext (ZP l))]/\fr=[⟨c,1,5⟩]) (l.length+1) (Lands.mk' (m:=l.length) (Nat.lt_succ_self _) ⟨0,(O []).length,(O []).map E.byte,by omega,by rw[List.length_map],rfl,by simp,fun j c hj=>absurd hj (Nat.not_lt_zero _),by rw[<- hE0],rfl,by rw[hO0]⟩ ?_ rfl rfl rfl rfl rfl rfl) ?_
 ·exact .cons rfl (.cons rfl (.cons rfl (.cons rfl .nil)))
 rintro f tm bx fr ⟨i,c,L,hf,hc,hL,hpre,hok,rfl,rfl,rfl⟩
 subst hc
 have hUL:Uni 1 L:=by rw[hL];exact Ym _
 have hLl:L.length=(O (l.take i)).length:=by rw[hL,List.length_map]
 have hol:=hout (l.take i) fun c hc=>(RG (hpre c hc) (hbl c (List.mem_of_mem_take hc)).1 (hbl c (List.mem_of_mem_take hc)).2).2.2
 have hti:(l.take i).length<=8:=by rw[List.length_take];omega
 rcases Nat.lt_or_ge i l.length with hlt|hge
 ·have hdl:decide ((i:Int)<((ZP l).length:Int))=true:=decide_eq_true (by omega)
  obtain⟨y,hy⟩:∃ y,l[i]?=some y:=⟨_,List.getElem?_eq_getElem hlt⟩
  have hv:=Yy hy
  obtain⟨hyf,hyd⟩:=hbl y (List.mem_of_getElem? hy)
  have hR7:=Jh y hyf (by omega)
  have hNy:=hN y.num
  have ei:IntKind.i64.wrap ((i:Int)+1)=((i+1:Nat):Int):=by rw[IntWalk.i64_in _ (by omega)];omega
  have ht1:l.take (i+1)=l.take i++[y]:=by rw[List.take_add_one,hy];rfl
  have hk:IX l i y=(ZH y&&(!decide ((W3 l 0 y.num:Int)>1)&&(!(!(((y.ty:Int)==1)==((i:Int)==((l.length-1:Nat):Int)))) && !(!(((y.num:Int)==1)==((i:Int)==((l.length-1:Nat):Int))))))):=by
   unfold IX;simp only[Bool.not_not]
  have bad:IX l i y=false->DD=([],false):=fun hf=>hno fun h=>by rw[h.1.ok i y hy]at hf;cases hf
  rw[hk]at bad
  have hput:=fun h=>RG (c:=y) h hyf hyd
  have hW7:=fun h=>TA y h hyf
  cases hr:ZH y with
  | false=>
   rw[hr]at hR7 bad
   have e:=bad rfl
   subst e
   clear hno hyes bad hk hput hW7 hok hout hsn
   repeat'(first|(apply Zb (hR7);kernel_rfl;(iterate 4 exact U))|(apply Zh Za;exact U)|(apply Zg Za;exact U)|(apply Zo Za;exact U)|(apply Zn;(iterate 3 exact U);(first|with_reducible assumption|decide +kernel|(solve|simp only[bn])))|(apply Zk;exact U;(first|with_reducible assumption|decide +kernel|(solve|simp only[bn]));exact U;exact U)|(apply Zd;exact U;(first|with_reducible assumption|decide +kernel|(solve|simp only[bn])))|refine Z0 ?_|(apply Zu Za;(iterate 6 exact U);(first|exact Qt|rotate_left);(first|with_reducible assumption|decide +kernel|exact U);(first|exact Zj rfl|with_reducible assumption|decide +kernel|rotate_left)))
   all_goals exact Qe
  | true=>
  rw[hr]at hR7 bad hk
  generalize W3 l 0 y.num=m at *
  cases n1:decide ((m:Int)>1) with
  | true=>
   rw[n1]at bad
   have e:=bad rfl
   subst e
   clear hno hyes bad hk hput hW7 hok hout hsn
   repeat'(first|(apply Zb (hR7);kernel_rfl;(iterate 4 exact U))|(apply Zb (hNy);kernel_rfl;(iterate 4 exact U))|(apply Zh Za;exact U)|(apply Zg Za;exact U)|(apply Zo Za;exact U)|(apply Ze;(iterate 3 exact U);(first|with_reducible assumption|decide +kernel|(solve|simp only[bn])))|(apply Zn;(iterate 3 exact U);(first|with_reducible assumption|decide +kernel|(solve|simp only[bn])))|(apply Zk;exact U;(first|with_reducible assumption|decide +kernel|(solve|simp only[bn]));exact U;exact U)|(apply Zi;exact U;(first|with_reducible assumption|decide +kernel|(solve|simp only[bn]));exact U;exact U)|(apply Zd;exact U;(first|with_reducible assumption|decide +kernel|(solve|simp only[bn])))|refine Z0 ?_|(apply Zu Za;(iterate 6 exact U);(first|exact Qt|rotate_left);(first|with_reducible assumption|decide +kernel|exact U);(first|exact Zj rfl|with_reducible assumption|decide +kernel|rotate_left)))
   all_goals exact Qe
  | false=>
  rw[n1]at bad hk
  cases n2:(!(((y.ty:Int)==1)==((i:Int)==((l.length-1:Nat):Int)))) with
  | true=>
   rw[n2]at bad
   have e:=bad rfl
   subst e
   clear hno hyes bad hk hput hW7 hok hout hsn
   repeat'(first|(apply Zb (hR7);kernel_rfl;(iterate 4 exact U))|(apply Zb (hNy);kernel_rfl;(iterate 4 exact U))|rw[en]|(apply Zh Za;exact U)|(apply Zg Za;exact U)|(apply Zo Za;exact U)|(apply Ze;(iterate 3 exact U);(first|with_reducible assumption|decide +kernel|(solve|simp only[bn])))|(apply Zn;(iterate 3 exact U);(first|with_reducible assumption|decide +kernel|(solve|simp only[bn])))|(apply Zk;exact U;(first|with_reducible assumption|decide +kernel|(solve|simp only[bn]));exact U;exact U)|(apply Zi;exact U;(first|with_reducible assumption|decide +kernel|(solve|simp only[bn]));exact U;exact U)|(apply Zd;exact U;(first|with_reducible assumption|decide +kernel|(solve|simp only[bn])))|refine Z0 ?_|(apply Zu Za;(iterate 6 exact U);(first|exact Qt|rotate_left);(first|with_reducible assumption|decide +kernel|exact U);(first|exact Zj rfl|with_reducible assumption|decide +kernel|rotate_left)))
   all_goals exact Qe
  | false=>
  rw[n2]at bad hk
  cases n3:(!(((y.num:Int)==1)==((i:Int)==((l.length-1:Nat):Int)))) with
  | true=>
   rw[n3]at bad
   have e:=bad rfl
   subst e
   clear hno hyes bad hk hput hW7 hok hout hsn
   repeat'(first|(apply Zb (hR7);kernel_rfl;(iterate 4 exact U))|(apply Zb (hNy);kernel_rfl;(iterate 4 exact U))|rw[en]|(apply Zh Za;exact U)|(apply Zg Za;exact U)|(apply Zo Za;exact U)|(apply Ze;(iterate 3 exact U);(first|with_reducible assumption|decide +kernel|(solve|simp only[bn])))|(apply Zi;exact U;(first|with_reducible assumption|decide +kernel|(solve|simp only[bn]));exact U;exact U)|(apply Zd;exact U;(first|with_reducible assumption|decide +kernel|(solve|simp only[bn])))|refine Z0 ?_|(apply Zu Za;(iterate 6 exact U);(first|exact Qt|rotate_left);(first|with_reducible assumption|decide +kernel|exact U);(first|exact Zj rfl|with_reducible assumption|decide +kernel|rotate_left)))
   all_goals exact Qe
  | false=>
  rw[n3]at hk
  obtain⟨hzw,hzr,hzl⟩:=hput hr
  replace hW7:=hW7 hr
  have hD:=Vi (WL y) hzw (VL hzr) (by omega)
  obtain⟨c1,t1',hp1⟩:=KL _ hzw hzr
  have hLn:L++(c1::t1').map E.byte=(O (l.take (i+1))).map E.byte:=by rw[hL,ht1,hsn,hp1,List.map_append]
  have hpre2:∀ c ∈ l.take (i+1),ZH c=true:=fun c hc=>by
   rw[ht1]at hc
   rcases List.mem_append.1 hc with hc|hc
   ·exact hpre c hc
   ·simp at hc;subst hc;exact hr
  have hok2:∀ j c,j<i+1->l[j]?=some c->IX l j c=true:=fun j c hj hc=>by
   rcases Nat.lt_or_ge j i with h|h
   ·exact hok j c h hc
   ·obtain rfl:j=i:=by omega
    rw[hy]at hc
    cases hc
    exact hk
  rw[hp1]at hD hzl
  have hU1:=Ym (c1::t1')
  clear hno hyes bad hk hput hok hout hsn hzw hzr hp1
  generalize WL y=Z at *
  obtain⟨k2,n2',b2,l2⟩:=Z
  repeat'(first|(apply Zb (hR7);kernel_rfl;(iterate 4 exact U))|(apply Zb (hNy);kernel_rfl;(iterate 4 exact U))|(apply Zb (hW7);kernel_rfl;(iterate 4 exact U))|(apply Zb (hD);kernel_rfl;(iterate 4 exact U))|rw[en]|rw[ei]|(apply Zh Za;exact U)|(apply Zg Za;exact U)|(apply Zo Za;exact U)|(apply Ze;(iterate 3 exact U);(first|with_reducible assumption|decide +kernel|(solve|simp only[bn])))|(apply Zi;exact U;(first|with_reducible assumption|decide +kernel|(solve|simp only[bn]));exact U;exact U)|(apply Zd;exact U;(first|with_reducible assumption|decide +kernel|(solve|simp only[bn])))|(apply Zf;exact U;(first|with_reducible assumption|decide +kernel|(solve|simp only[bn])))|(apply ZR Za;(iterate 6 exact U);(first|with_reducible assumption|decide +kernel|exact U|rotate_left);exact U;exact U;(first|exact Zj rfl|with_reducible assumption|decide +kernel|rotate_left);(first|exact Zj rfl|with_reducible assumption|decide +kernel|rotate_left);(first|exact Qt|rotate_left);(first|exact Qt|rotate_left);(first|exact Qt|rotate_left);exact U;exact U)|(apply Zu Za;(iterate 6 exact U);(first|exact Qt|rotate_left);(first|with_reducible assumption|decide +kernel|exact U);(first|exact Zj rfl|with_reducible assumption|decide +kernel|rotate_left)))
  ·refine Lands.mk' (m:=f-1) (by omega) ⟨i+1,L.length+((c1::t1').map E.byte).length,L++(c1::t1').map E.byte,by omega,by rw[List.length_append],hLn,hpre2,hok2,rfl,rfl,rfl⟩ ?_ rfl rfl rfl rfl rfl rfl
   exact .cons rfl (.cons rfl (.cons rfl (.cons rfl .nil)))
  all_goals(first|rfl|(simp only[List.length_append,List.length_cons,List.length_nil,List.length_map,Zv];done)|(simp only[List.length_append,List.length_cons,List.length_nil,List.length_map,Zv]at *;(try unfold maxLen);(try simp only[Nat.add_mul]);omega))
 ·have hdl:decide ((i:Int)<((ZP l).length:Int))=false:=decide_eq_false (by omega)
  rw[List.take_of_length_le hge]at hL hol
  have hall:∀ j c,l[j]?=some c->IX l j c=true:=fun j c hc=>hok j c (by have:=(List.getElem?_eq_some_iff.1 hc).1;omega) hc
  have hoe:(O l).length=L.length:=by rw[hL,List.length_map]
  have bad:¬ (W3 l 6 0<=1/\W3 l 7 0<=1/\W3 l 10 0<=1/\(O l).length<=599)->DD=([],false):=fun hf=>hno fun h=>hf ⟨h.1.c6,h.1.c7,h.1.c10,h.2.2⟩
  replace hyes:W3 l 6 0<=1/\W3 l 7 0<=1/\W3 l 10 0<=1/\(O l).length<=599->DD=(O l++[255],true):=fun h=>hyes ⟨⟨h1,h8,hall,h.1,h.2.1,h.2.2.1⟩,hrp,h.2.2.2⟩
  clear hno hok hpre hout hsn
  generalize W3 l 6 0=m6 at *
  generalize W3 l 7 0=m7 at *
  generalize W3 l 10 0=m10 at *
  cases n6:decide ((m6:Int)>1) with
  | true=>
   have e:=bad fun h=>by have:=of_decide_eq_true n6;omega
   subst e
   clear hyes bad
   repeat'(first|(apply Zb (h6);kernel_rfl;(iterate 4 exact U))|(apply Zh Za;exact U)|(apply Zg Za;exact U)|(apply Zo Za;exact U)|(apply Zn;(iterate 3 exact U);(first|with_reducible assumption|decide +kernel|(solve|simp only[bn])))|(apply Zk;exact U;(first|with_reducible assumption|decide +kernel|(solve|simp only[bn]));exact U;exact U)|(apply Zd;exact U;(first|with_reducible assumption|decide +kernel|(solve|simp only[bn])))|(apply Zf;exact U;(first|with_reducible assumption|decide +kernel|(solve|simp only[bn]))))
   all_goals exact Qe
  | false=>
  cases n7:decide ((m7:Int)>1) with
  | true=>
   have e:=bad fun h=>by have:=of_decide_eq_true n7;omega
   subst e
   clear hyes bad
   repeat'(first|(apply Zb (h6);kernel_rfl;(iterate 4 exact U))|(apply Zb (h7);kernel_rfl;(iterate 4 exact U))|(apply Zh Za;exact U)|(apply Zg Za;exact U)|(apply Zo Za;exact U)|(apply Ze;(iterate 3 exact U);(first|with_reducible assumption|decide +kernel|(solve|simp only[bn])))|(apply Zn;(iterate 3 exact U);(first|with_reducible assumption|decide +kernel|(solve|simp only[bn])))|(apply Zk;exact U;(first|with_reducible assumption|decide +kernel|(solve|simp only[bn]));exact U;exact U)|(apply Zi;exact U;(first|with_reducible assumption|decide +kernel|(solve|simp only[bn]));exact U;exact U)|(apply Zd;exact U;(first|with_reducible assumption|decide +kernel|(solve|simp only[bn])))|(apply Zf;exact U;(first|with_reducible assumption|decide +kernel|(solve|simp only[bn]))))
   all_goals exact Qe
  | false=>
  cases n10:decide ((m10:Int)>1) with
  | true=>
   have e:=bad fun h=>by have:=of_decide_eq_true n10;omega
   subst e
   clear hyes bad
   repeat'(first|(apply Zb (h6);kernel_rfl;(iterate 4 exact U))|(apply Zb (h7);kernel_rfl;(iterate 4 exact U))|(apply Zb (h10);kernel_rfl;(iterate 4 exact U))|(apply Zh Za;exact U)|(apply Zg Za;exact U)|(apply Zo Za;exact U)|(apply Ze;(iterate 3 exact U);(first|with_reducible assumption|decide +kernel|(solve|simp only[bn])))|(apply Zn;(iterate 3 exact U);(first|with_reducible assumption|decide +kernel|(solve|simp only[bn])))|(apply Zk;exact U;(first|with_reducible assumption|decide +kernel|(solve|simp only[bn]));exact U;exact U)|(apply Zi;exact U;(first|with_reducible assumption|decide +kernel|(solve|simp only[bn]));exact U;exact U)|(apply Zd;exact U;(first|with_reducible assumption|decide +kernel|(solve|simp only[bn])))|(apply Zf;exact U;(first|with_reducible assumption|decide +kernel|(solve|simp only[bn]))))
   all_goals exact Qe
  | false=>
  cases nl:decide ((L.length:Int)>599) with
  | true=>
   have e:=bad fun h=>by have:=of_decide_eq_true nl;omega
   subst e
   clear hyes bad
   repeat'(first|(apply Zb (h6);kernel_rfl;(iterate 4 exact U))|(apply Zb (h7);kernel_rfl;(iterate 4 exact U))|(apply Zb (h10);kernel_rfl;(iterate 4 exact U))|(apply Zh Za;exact U)|(apply Zg Za;exact U)|(apply Zo Za;exact U)|(apply Ze;(iterate 3 exact U);(first|with_reducible assumption|decide +kernel|(solve|simp only[bn])))|(apply Zi;exact U;(first|with_reducible assumption|decide +kernel|(solve|simp only[bn]));exact U;exact U)|(apply Zd;exact U;(first|with_reducible assumption|decide +kernel|(solve|simp only[bn])))|(apply Zf;exact U;(first|with_reducible assumption|decide +kernel|(solve|simp only[bn])))|refine Zm Za U U U U ?_)
   all_goals exact Qe
  | false=>
  have q6:=of_decide_eq_false n6
  have q7:=of_decide_eq_false n7
  have q10:=of_decide_eq_false n10
  have ql:=of_decide_eq_false nl
  have e:=hyes ⟨by omega,by omega,by omega,by omega⟩
  subst e
  clear hyes bad
  have hEn:L++[E.int .u8 255]=(O l++[255]).map E.byte:=by rw[hL];simp
  repeat'(first|(apply Zb (h6);kernel_rfl;(iterate 4 exact U))|(apply Zb (h7);kernel_rfl;(iterate 4 exact U))|(apply Zb (h10);kernel_rfl;(iterate 4 exact U))|(apply Zh Za;exact U)|(apply Zg Za;exact U)|(apply Zo Za;exact U)|(apply Ze;(iterate 3 exact U);(first|with_reducible assumption|decide +kernel|(solve|simp only[bn])))|(apply Zi;exact U;(first|with_reducible assumption|decide +kernel|(solve|simp only[bn]));exact U;exact U)|(apply Zf;exact U;(first|with_reducible assumption|decide +kernel|(solve|simp only[bn])))|refine Zm Za U U U U ?_|refine ZO Za U U U U U U U U U U U U ?_|(apply ZR Za;(iterate 6 exact U);(first|with_reducible assumption|decide +kernel|exact U|rotate_left);exact U;exact U;(first|exact Zj rfl|with_reducible assumption|decide +kernel|rotate_left);(first|exact Zj rfl|with_reducible assumption|decide +kernel|rotate_left);(first|exact Qt|rotate_left);(first|exact Qt|rotate_left);(first|exact Qt|rotate_left);exact U;exact U))
  all_goals first|((apply Zp [];(apply Zc Za;exact U);(iterate 4 exact U)))|skip
  all_goals first|rfl|(exact congrArg (fun l=>D.tup [.sl .ext l,.bool true]) hEn)|(first|rfl|(simp only[List.length_append,List.length_cons,List.length_nil,List.length_map,Zv];done)|(simp only[List.length_append,List.length_cons,List.length_nil,List.length_map,Zv]at *;(try unfold maxLen);(try simp only[Nat.add_mul]);omega))
 all_goals(simp only[List.length_cons,List.length_nil,List.length_map]at hO0 hO0l ⊢;(try unfold maxLen);(try simp only[Nat.add_mul]);omega)
end Go.Proofs.YtmljabhmajehnaaGreatDoor
end
