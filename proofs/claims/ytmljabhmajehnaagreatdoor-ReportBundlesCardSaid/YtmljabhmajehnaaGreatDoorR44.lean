/- Bundles as the document's: written. -/
import Derived.Test.YtmljabhmajehnaaGreatDoorR43
import Derived.Test.YtmljabhmajehnaaGreatDoorR20
import Derived.Test.YtmljabhmajehnaaGreatDoorR37
import Derived.Test.YtmljabhmajehnaaGreatDoorR41
set_option linter.unusedVariables false
set_option linter.unusedSimpArgs false
section
open Go.RowKit Go.Pl Go.Av
namespace Go.Proofs.YtmljabhmajehnaaGreatDoor
set_option maxHeartbeats 4000000
theorem ME (p:PriV)(l:List BlkV)(c:BlkV):Jo p (l++[c])=Jo p l++ZI (WM c):=by
 unfold Jo
 rw[List.map_append,UV]
 simp[ZO]
theorem BZ {p:PriV}(h:YA p=true)(hfl:p.fl<18446744073709551616):wfI (W6 p)/\ZC (W6 p)=true/\(ZI (W6 p)).length<=4000:=by
 have hw:=XI (p:=p) hfl
 have he:=XQ h
 rw[he]at hw
 obtain⟨_,hs⟩:=W5 he
 exact⟨hw,Uo hs,Ty he⟩
theorem Rp {c:BlkV}(h:Z2 c=true)(hfl:c.fl<18446744073709551616)(hd:c.data.length<=3000):wfI (WM c)/\ZC (WM c)=true/\(ZI (WM c)).length<=4000:=by
 have hw:=Hi hfl hd
 have he:=Ol h
 rw[he]at hw
 obtain⟨_,hs⟩:=Ul he
 exact⟨hw,Uo hs,Tx he hd⟩
theorem Hz (p:PriV)(hp:(ZI (W6 p)).length<=4000):∀(l:List BlkV),(∀ c ∈ l,(ZI (WM c)).length<=4000)->(Jo p l).length<=4001+4000*l.length
 | [],_=>by unfold Jo;simp[ZO];omega
 | c::l,h=>by
  have h1:=Hz p hp l fun y hy=>h y (List.mem_cons_of_mem _ hy)
  have h2:=h c (List.mem_cons_self ..)
  unfold Jo at h1 ⊢
  rw[List.map_cons,ZO]
  simp only[List.length_cons,List.length_append]at h1 ⊢
  omega
theorem JP [Known][KnownU8](b:BunV)(hb:BunOk b)(hd:Fit b.p.dest)(hr:Fit b.p.rep)(hs:Fit b.p.src):AP Tryz.prog 35 [.agg (bnC b)] (.tup [byE (Va b).1,.bool (Va b).2]) []:=by
 have hR:=Tb b.p hb.fl hd hr hs
 have hlen:=WW b.bl
 have hUb:=JO b.bl
 have hno:=MC (b:=b)
 have hyes:=TJ (b:=b)
 generalize Va b=DD at *
 have hl:=hb.len
 have hbl:=hb.bl
 have hW6:=fun h=>TK b.p h hb.fl
 have hput:=fun h=>BZ (p:=b.p) h hb.fl
 have hN:=fun n=>Jj b 0 n hb.len
 have h6:AP Tryz.prog 81 [.agg (bnC b),.int .u64 6,.int .u64 0] (.int .i64 (W0 b.bl 6 0:Int)) []:=Jj b 6 0 hb.len
 have h7:AP Tryz.prog 81 [.agg (bnC b),.int .u64 7,.int .u64 0] (.int .i64 (W0 b.bl 7 0:Int)) []:=Jj b 7 0 hb.len
 have h10:AP Tryz.prog 81 [.agg (bnC b),.int .u64 10,.int .u64 0] (.int .i64 (W0 b.bl 10 0:Int)) []:=Jj b 10 0 hb.len
 replace hN:∀ n:Nat,AP Tryz.prog 81 [.agg (bnC b),.int .u64 0,.int .u64 (n:Int)] (.int .i64 (W0 b.bl 0 n:Int)) []:=hN
 clear hb hd hr hs
 obtain⟨p,l⟩:=b
 dsimp only at hR hlen hUb hno hyes hl hbl hW6 hput hN h6 h7 h10
 rcases Nat.lt_or_ge l.length 1 with h1|h1
 ·have t1:decide (((Yo l).length:Int)<1)=true:=decide_eq_true (by omega)
  have e:=hno fun h=>by have:=h.1.one;omega
  subst e
  clear hno hyes
  obtain⟨fl,sum,⟨di,dn,ds,dh,dd⟩,⟨ri,rn,rs,rh,rd⟩,⟨xi,xn,xs,xh,xd⟩,t,q,life⟩:=p
  try dsimp only at *
  refine AP.ofA (Zl Tryz.func35 U Tryz.ntmps35 U U ?_)
  repeat'(first|(apply Zi Za;exact U)|(apply Zg Za;exact U)|(apply Zp Za;exact U)|(apply Zm;(iterate 3 exact U);(first|with_reducible assumption|decide +kernel|(solve|simp only[bn])))|(apply Zj;exact U;(first|with_reducible assumption|decide +kernel|(solve|simp only[bn]));exact U;exact U)|(apply Zd;exact U;(first|with_reducible assumption|decide +kernel|(solve|simp only[bn])))|refine Zn Za U U U U ?_)
  all_goals exact Qe
 have t1:decide (((Yo l).length:Int)<1)=false:=decide_eq_false (by omega)
 rcases Nat.lt_or_ge 8 l.length with h8|h8
 ·have t2:decide (((Yo l).length:Int)>8)=true:=decide_eq_true (by omega)
  have e:=hno fun h=>by have:=h.1.few;omega
  subst e
  clear hno hyes
  obtain⟨fl,sum,⟨di,dn,ds,dh,dd⟩,⟨ri,rn,rs,rh,rd⟩,⟨xi,xn,xs,xh,xd⟩,t,q,life⟩:=p
  try dsimp only at *
  refine AP.ofA (Zl Tryz.func35 U Tryz.ntmps35 U U ?_)
  repeat'(first|(apply Zi Za;exact U)|(apply Zg Za;exact U)|(apply Zp Za;exact U)|(apply Ze;(iterate 3 exact U);(first|with_reducible assumption|decide +kernel|(solve|simp only[bn])))|(apply Zm;(iterate 3 exact U);(first|with_reducible assumption|decide +kernel|(solve|simp only[bn])))|(apply Zj;exact U;(first|with_reducible assumption|decide +kernel|(solve|simp only[bn]));exact U;exact U)|(apply Zh;exact U;(first|with_reducible assumption|decide +kernel|(solve|simp only[bn]));exact U;exact U)|(apply Zd;exact U;(first|with_reducible assumption|decide +kernel|(solve|simp only[bn])))|refine Zn Za U U U U ?_)
  all_goals exact Qe
 have t2:decide (((Yo l).length:Int)>8)=false:=decide_eq_false (by omega)
 cases hrp:YA p with
 | false=>
  rw[hrp]at hR
  have e:=hno fun h=>by rw[hrp]at h;exact absurd h.2.1 (by simp)
  subst e
  clear hno hyes hput hW6 hrp
  obtain⟨fl,sum,⟨di,dn,ds,dh,dd⟩,⟨ri,rn,rs,rh,rd⟩,⟨xi,xn,xs,xh,xd⟩,t,q,life⟩:=p
  try dsimp only at *
  refine AP.ofA (Zl Tryz.func35 U Tryz.ntmps35 U U ?_)
  repeat'(first|(apply Zb (hR);kernel_rfl;(iterate 4 exact U))|(apply Zi Za;exact U)|(apply Zg Za;exact U)|(apply Zp Za;exact U)|(apply Ze;(iterate 3 exact U);(first|with_reducible assumption|decide +kernel|(solve|simp only[bn])))|(apply Zh;exact U;(first|with_reducible assumption|decide +kernel|(solve|simp only[bn]));exact U;exact U)|(apply Zd;exact U;(first|with_reducible assumption|decide +kernel|(solve|simp only[bn])))|refine Zn Za U U U U ?_)
  all_goals exact Qe
 | true=>
 rw[hrp]at hR
 obtain⟨hxw,hxr,hxl⟩:=hput hrp
 replace hW6:=hW6 hrp
 have hC:=UX (W6 p) hxw (K8 hxr) (by omega)
 have hout:=Hz p hxl
 obtain⟨c0,t0,hp0⟩:=K2 _ hxw hxr
 have h0:Jo p []=159::(c0::t0):=by unfold Jo;rw[hp0];simp[ZO]
 have hsn:=ME p
 generalize Jo p=O at *
 rw[hp0]at hC
 have hU0:=Yr (c0::t0)
 have hE0:[E.int .u8 159]++(c0::t0).map E.byte=(O []).map E.byte:=by rw[h0];simp
 have hO0:(O []).length=1+((c0::t0).map E.byte).length:=by rw[h0];simp;omega
 have hO0l:=hout [] (by simp)
 clear hxw hxr hxl hp0 hput
 generalize W6 p=X at *
 obtain⟨k,n,bb,xl⟩:=X
 have en:IntKind.i64.wrap (((Yo l).length:Int)-1)=((l.length-1:Nat):Int):=by rw[IntWalk.i64_in _ (by omega)];omega
 obtain⟨fl,sum,⟨di,dn,ds,dh,dd⟩,⟨ri,rn,rs,rh,rd⟩,⟨xi,xn,xs,xh,xd⟩,t,q,life⟩:=p
 try dsimp only at *
 refine AP.ofA (Zl Tryz.func35 U Tryz.ntmps35 U U ?_)
 repeat'(first|(apply Zb (hR);kernel_rfl;(iterate 4 exact U))|(apply Zb (hW6);kernel_rfl;(iterate 4 exact U))|(apply Zb (hC);kernel_rfl;(iterate 4 exact U))|(apply Zi Za;exact U)|(apply Zg Za;exact U)|(apply Zp Za;exact U)|(apply Ze;(iterate 3 exact U);(first|with_reducible assumption|decide +kernel|(solve|simp only[bn])))|(apply Zh;exact U;(first|with_reducible assumption|decide +kernel|(solve|simp only[bn]));exact U;exact U)|(apply Zf;exact U;(first|with_reducible assumption|decide +kernel|(solve|simp only[bn])))|refine Zn Za U U U U ?_|refine ZM Za U U U U U U U U U U U U ?_|(apply ZR Za;(iterate 6 exact U);(first|with_reducible assumption|decide +kernel|exact U|rotate_left);exact U;exact U;(first|exact Zk rfl|with_reducible assumption|decide +kernel|rotate_left);(first|exact Zk rfl|with_reducible assumption|decide +kernel|rotate_left);(first|exact Qt|rotate_left);(first|exact Qt|rotate_left);(first|exact Qt|rotate_left);exact U;exact U))
 refine ZJ (fun f tm bx fr=>∃(i c:Nat) (L:List E),f+i=l.length/\c=L.length/\L=(O (l.take i)).map E.byte/\(∀ c ∈ l.take i,Z2 c=true)/\(∀ j c,j<i->l[j]?=some c->I4 l j c=true)/\tm=[(1,.ptr 0 0),(4,.int .i64 ((Yo l).length:Int)),(5,.sl (.own 0) L),(6,.int .i64 (i:Int))]/\bx=[bnS ⟨fl,sum,⟨di,dn,ds,dh,dd⟩,⟨ri,rn,rs,rh,rd⟩,⟨xi,xn,xs,xh,xd⟩,t,q,life⟩ (.sl .ext (Yo l))]/\fr=[⟨c,1,5⟩]) (l.length+1) (Lands.mk' (m:=l.length) (Nat.lt_succ_self _) ⟨0,(O []).length,(O []).map E.byte,by omega,by rw[List.length_map],rfl,by simp,fun j c hj=>absurd hj (Nat.not_lt_zero _),by rw[<- hE0],rfl,by rw[hO0]⟩ ?_ rfl rfl rfl rfl rfl rfl) ?_
 ·exact .cons rfl (.cons rfl (.cons rfl (.cons rfl .nil)))
 rintro f tm bx fr ⟨i,c,L,hf,hc,hL,hpre,hok,rfl,rfl,rfl⟩
 subst hc
 have hUL:Uni 1 L:=by rw[hL];exact Yr _
 have hLl:L.length=(O (l.take i)).length:=by rw[hL,List.length_map]
 have hol:=hout (l.take i) fun c hc=>(Rp (hpre c hc) (hbl c (List.mem_of_mem_take hc)).1 (hbl c (List.mem_of_mem_take hc)).2).2.2
 have hti:(l.take i).length<=8:=by rw[List.length_take];omega
 rcases Nat.lt_or_ge i l.length with hlt|hge
 ·have hdl:decide ((i:Int)<((Yo l).length:Int))=true:=decide_eq_true (by omega)
  obtain⟨y,hy⟩:∃ y,l[i]?=some y:=⟨_,List.getElem?_eq_getElem hlt⟩
  have hv:=WX hy
  obtain⟨hyf,hyd⟩:=hbl y (List.mem_of_getElem? hy)
  have hR7:=Mx y hyf (by omega)
  have hNy:=hN y.num
  have ei:IntKind.i64.wrap ((i:Int)+1)=((i+1:Nat):Int):=by rw[IntWalk.i64_in _ (by omega)];omega
  have ht1:l.take (i+1)=l.take i++[y]:=by rw[List.take_add_one,hy];rfl
  have hk:I4 l i y=(Z2 y&&(!decide ((W0 l 0 y.num:Int)>1)&&(!(!(((y.ty:Int)==1)==((i:Int)==((l.length-1:Nat):Int)))) && !(!(((y.num:Int)==1)==((i:Int)==((l.length-1:Nat):Int))))))):=by
   unfold I4;simp only[Bool.not_not]
  have bad:I4 l i y=false->DD=([],false):=fun hf=>hno fun h=>by rw[h.1.ok i y hy]at hf;cases hf
  rw[hk]at bad
  have hput:=fun h=>Rp (c:=y) h hyf hyd
  have hW7:=fun h=>TI y h hyf
  cases hr:Z2 y with
  | false=>
   rw[hr]at hR7 bad
   have e:=bad rfl
   subst e
   clear hno hyes bad hk hput hW7 hok hout hsn
   repeat'(first|(apply Zb (hR7);kernel_rfl;(iterate 4 exact U))|(apply Zi Za;exact U)|(apply Zg Za;exact U)|(apply Zp Za;exact U)|(apply Zm;(iterate 3 exact U);(first|with_reducible assumption|decide +kernel|(solve|simp only[bn])))|(apply Zj;exact U;(first|with_reducible assumption|decide +kernel|(solve|simp only[bn]));exact U;exact U)|(apply Zd;exact U;(first|with_reducible assumption|decide +kernel|(solve|simp only[bn])))|refine Yf ?_|(apply Zu Za;(iterate 6 exact U);(first|exact Qt|rotate_left);(first|with_reducible assumption|decide +kernel|exact U);(first|exact Zk rfl|with_reducible assumption|decide +kernel|rotate_left)))
   all_goals exact Qe
  | true=>
  rw[hr]at hR7 bad hk
  generalize W0 l 0 y.num=m at *
  cases n1:decide ((m:Int)>1) with
  | true=>
   rw[n1]at bad
   have e:=bad rfl
   subst e
   clear hno hyes bad hk hput hW7 hok hout hsn
   repeat'(first|(apply Zb (hR7);kernel_rfl;(iterate 4 exact U))|(apply Zb (hNy);kernel_rfl;(iterate 4 exact U))|(apply Zi Za;exact U)|(apply Zg Za;exact U)|(apply Zp Za;exact U)|(apply Ze;(iterate 3 exact U);(first|with_reducible assumption|decide +kernel|(solve|simp only[bn])))|(apply Zm;(iterate 3 exact U);(first|with_reducible assumption|decide +kernel|(solve|simp only[bn])))|(apply Zj;exact U;(first|with_reducible assumption|decide +kernel|(solve|simp only[bn]));exact U;exact U)|(apply Zh;exact U;(first|with_reducible assumption|decide +kernel|(solve|simp only[bn]));exact U;exact U)|(apply Zd;exact U;(first|with_reducible assumption|decide +kernel|(solve|simp only[bn])))|refine Yf ?_|(apply Zu Za;(iterate 6 exact U);(first|exact Qt|rotate_left);(first|with_reducible assumption|decide +kernel|exact U);(first|exact Zk rfl|with_reducible assumption|decide +kernel|rotate_left)))
   all_goals exact Qe
  | false=>
  rw[n1]at bad hk
  cases n2:(!(((y.ty:Int)==1)==((i:Int)==((l.length-1:Nat):Int)))) with
  | true=>
   rw[n2]at bad
   have e:=bad rfl
   subst e
   clear hno hyes bad hk hput hW7 hok hout hsn
   repeat'(first|(apply Zb (hR7);kernel_rfl;(iterate 4 exact U))|(apply Zb (hNy);kernel_rfl;(iterate 4 exact U))|rw[en]|(apply Zi Za;exact U)|(apply Zg Za;exact U)|(apply Zp Za;exact U)|(apply Ze;(iterate 3 exact U);(first|with_reducible assumption|decide +kernel|(solve|simp only[bn])))|(apply Zm;(iterate 3 exact U);(first|with_reducible assumption|decide +kernel|(solve|simp only[bn])))|(apply Zj;exact U;(first|with_reducible assumption|decide +kernel|(solve|simp only[bn]));exact U;exact U)|(apply Zh;exact U;(first|with_reducible assumption|decide +kernel|(solve|simp only[bn]));exact U;exact U)|(apply Zd;exact U;(first|with_reducible assumption|decide +kernel|(solve|simp only[bn])))|refine Yf ?_|(apply Zu Za;(iterate 6 exact U);(first|exact Qt|rotate_left);(first|with_reducible assumption|decide +kernel|exact U);(first|exact Zk rfl|with_reducible assumption|decide +kernel|rotate_left)))
   all_goals exact Qe
  | false=>
  rw[n2]at bad hk
  cases n3:(!(((y.num:Int)==1)==((i:Int)==((l.length-1:Nat):Int)))) with
  | true=>
   rw[n3]at bad
   have e:=bad rfl
   subst e
   clear hno hyes bad hk hput hW7 hok hout hsn
   repeat'(first|(apply Zb (hR7);kernel_rfl;(iterate 4 exact U))|(apply Zb (hNy);kernel_rfl;(iterate 4 exact U))|rw[en]|(apply Zi Za;exact U)|(apply Zg Za;exact U)|(apply Zp Za;exact U)|(apply Ze;(iterate 3 exact U);(first|with_reducible assumption|decide +kernel|(solve|simp only[bn])))|(apply Zh;exact U;(first|with_reducible assumption|decide +kernel|(solve|simp only[bn]));exact U;exact U)|(apply Zd;exact U;(first|with_reducible assumption|decide +kernel|(solve|simp only[bn])))|refine Yf ?_|(apply Zu Za;(iterate 6 exact U);(first|exact Qt|rotate_left);(first|with_reducible assumption|decide +kernel|exact U);(first|exact Zk rfl|with_reducible assumption|decide +kernel|rotate_left)))
   all_goals exact Qe
  | false=>
  rw[n3]at hk
  obtain⟨hzw,hzr,hzl⟩:=hput hr
  replace hW7:=hW7 hr
  have hD:=UX (WM y) hzw (K8 hzr) (by omega)
  obtain⟨c1,t1',hp1⟩:=K2 _ hzw hzr
  have hLn:L++(c1::t1').map E.byte=(O (l.take (i+1))).map E.byte:=by rw[hL,ht1,hsn,hp1,List.map_append]
  have hpre2:∀ c ∈ l.take (i+1),Z2 c=true:=fun c hc=>by
   rw[ht1]at hc
   rcases List.mem_append.1 hc with hc|hc
   ·exact hpre c hc
   ·simp at hc;subst hc;exact hr
  have hok2:∀ j c,j<i+1->l[j]?=some c->I4 l j c=true:=fun j c hj hc=>by
   rcases Nat.lt_or_ge j i with h|h
   ·exact hok j c h hc
   ·obtain rfl:j=i:=by omega
    rw[hy]at hc
    cases hc
    exact hk
  rw[hp1]at hD hzl
  have hU1:=Yr (c1::t1')
  clear hno hyes bad hk hput hok hout hsn hzw hzr hp1
  generalize WM y=Z at *
  obtain⟨k2,n2',b2,l2⟩:=Z
  repeat'(first|(apply Zb (hR7);kernel_rfl;(iterate 4 exact U))|(apply Zb (hNy);kernel_rfl;(iterate 4 exact U))|(apply Zb (hW7);kernel_rfl;(iterate 4 exact U))|(apply Zb (hD);kernel_rfl;(iterate 4 exact U))|rw[en]|rw[ei]|(apply Zi Za;exact U)|(apply Zg Za;exact U)|(apply Zp Za;exact U)|(apply Ze;(iterate 3 exact U);(first|with_reducible assumption|decide +kernel|(solve|simp only[bn])))|(apply Zh;exact U;(first|with_reducible assumption|decide +kernel|(solve|simp only[bn]));exact U;exact U)|(apply Zd;exact U;(first|with_reducible assumption|decide +kernel|(solve|simp only[bn])))|(apply Zf;exact U;(first|with_reducible assumption|decide +kernel|(solve|simp only[bn])))|(apply ZR Za;(iterate 6 exact U);(first|with_reducible assumption|decide +kernel|exact U|rotate_left);exact U;exact U;(first|exact Zk rfl|with_reducible assumption|decide +kernel|rotate_left);(first|exact Zk rfl|with_reducible assumption|decide +kernel|rotate_left);(first|exact Qt|rotate_left);(first|exact Qt|rotate_left);(first|exact Qt|rotate_left);exact U;exact U)|(apply Zu Za;(iterate 6 exact U);(first|exact Qt|rotate_left);(first|with_reducible assumption|decide +kernel|exact U);(first|exact Zk rfl|with_reducible assumption|decide +kernel|rotate_left)))
  ·refine Lands.mk' (m:=f-1) (by omega) ⟨i+1,L.length+((c1::t1').map E.byte).length,L++(c1::t1').map E.byte,by omega,by rw[List.length_append],hLn,hpre2,hok2,rfl,rfl,rfl⟩ ?_ rfl rfl rfl rfl rfl rfl
   exact .cons rfl (.cons rfl (.cons rfl (.cons rfl .nil)))
  all_goals(first|rfl|(simp only[List.length_append,List.length_cons,List.length_nil,List.length_map,Zw];done)|(simp only[List.length_append,List.length_cons,List.length_nil,List.length_map,Zw]at *;(try unfold maxLen);(try simp only[Nat.add_mul]);omega))
 ·have hdl:decide ((i:Int)<((Yo l).length:Int))=false:=decide_eq_false (by omega)
  rw[List.take_of_length_le hge]at hL hol
  have hall:∀ j c,l[j]?=some c->I4 l j c=true:=fun j c hc=>hok j c (by have:=(List.getElem?_eq_some_iff.1 hc).1;omega) hc
  have hoe:(O l).length=L.length:=by rw[hL,List.length_map]
  have bad:¬ (W0 l 6 0<=1/\W0 l 7 0<=1/\W0 l 10 0<=1/\(O l).length<=599)->DD=([],false):=fun hf=>hno fun h=>hf ⟨h.1.c6,h.1.c7,h.1.c10,h.2.2⟩
  replace hyes:W0 l 6 0<=1/\W0 l 7 0<=1/\W0 l 10 0<=1/\(O l).length<=599->DD=(O l++[255],true):=fun h=>hyes ⟨⟨h1,h8,hall,h.1,h.2.1,h.2.2.1⟩,hrp,h.2.2.2⟩
  clear hno hok hpre hout hsn
  generalize W0 l 6 0=m6 at *
  generalize W0 l 7 0=m7 at *
  generalize W0 l 10 0=m10 at *
  cases n6:decide ((m6:Int)>1) with
  | true=>
   have e:=bad fun h=>by have:=of_decide_eq_true n6;omega
   subst e
   clear hyes bad
   repeat'(first|(apply Zb (h6);kernel_rfl;(iterate 4 exact U))|(apply Zi Za;exact U)|(apply Zg Za;exact U)|(apply Zp Za;exact U)|(apply Zm;(iterate 3 exact U);(first|with_reducible assumption|decide +kernel|(solve|simp only[bn])))|(apply Zj;exact U;(first|with_reducible assumption|decide +kernel|(solve|simp only[bn]));exact U;exact U)|(apply Zd;exact U;(first|with_reducible assumption|decide +kernel|(solve|simp only[bn])))|(apply Zf;exact U;(first|with_reducible assumption|decide +kernel|(solve|simp only[bn]))))
   all_goals exact Qe
  | false=>
  cases n7:decide ((m7:Int)>1) with
  | true=>
   have e:=bad fun h=>by have:=of_decide_eq_true n7;omega
   subst e
   clear hyes bad
   repeat'(first|(apply Zb (h6);kernel_rfl;(iterate 4 exact U))|(apply Zb (h7);kernel_rfl;(iterate 4 exact U))|(apply Zi Za;exact U)|(apply Zg Za;exact U)|(apply Zp Za;exact U)|(apply Ze;(iterate 3 exact U);(first|with_reducible assumption|decide +kernel|(solve|simp only[bn])))|(apply Zm;(iterate 3 exact U);(first|with_reducible assumption|decide +kernel|(solve|simp only[bn])))|(apply Zj;exact U;(first|with_reducible assumption|decide +kernel|(solve|simp only[bn]));exact U;exact U)|(apply Zh;exact U;(first|with_reducible assumption|decide +kernel|(solve|simp only[bn]));exact U;exact U)|(apply Zd;exact U;(first|with_reducible assumption|decide +kernel|(solve|simp only[bn])))|(apply Zf;exact U;(first|with_reducible assumption|decide +kernel|(solve|simp only[bn]))))
   all_goals exact Qe
  | false=>
  cases n10:decide ((m10:Int)>1) with
  | true=>
   have e:=bad fun h=>by have:=of_decide_eq_true n10;omega
   subst e
   clear hyes bad
   repeat'(first|(apply Zb (h6);kernel_rfl;(iterate 4 exact U))|(apply Zb (h7);kernel_rfl;(iterate 4 exact U))|(apply Zb (h10);kernel_rfl;(iterate 4 exact U))|(apply Zi Za;exact U)|(apply Zg Za;exact U)|(apply Zp Za;exact U)|(apply Ze;(iterate 3 exact U);(first|with_reducible assumption|decide +kernel|(solve|simp only[bn])))|(apply Zm;(iterate 3 exact U);(first|with_reducible assumption|decide +kernel|(solve|simp only[bn])))|(apply Zj;exact U;(first|with_reducible assumption|decide +kernel|(solve|simp only[bn]));exact U;exact U)|(apply Zh;exact U;(first|with_reducible assumption|decide +kernel|(solve|simp only[bn]));exact U;exact U)|(apply Zd;exact U;(first|with_reducible assumption|decide +kernel|(solve|simp only[bn])))|(apply Zf;exact U;(first|with_reducible assumption|decide +kernel|(solve|simp only[bn]))))
   all_goals exact Qe
  | false=>
  cases nl:decide ((L.length:Int)>599) with
  | true=>
   have e:=bad fun h=>by have:=of_decide_eq_true nl;omega
   subst e
   clear hyes bad
   repeat'(first|(apply Zb (h6);kernel_rfl;(iterate 4 exact U))|(apply Zb (h7);kernel_rfl;(iterate 4 exact U))|(apply Zb (h10);kernel_rfl;(iterate 4 exact U))|(apply Zi Za;exact U)|(apply Zg Za;exact U)|(apply Zp Za;exact U)|(apply Ze;(iterate 3 exact U);(first|with_reducible assumption|decide +kernel|(solve|simp only[bn])))|(apply Zh;exact U;(first|with_reducible assumption|decide +kernel|(solve|simp only[bn]));exact U;exact U)|(apply Zd;exact U;(first|with_reducible assumption|decide +kernel|(solve|simp only[bn])))|(apply Zf;exact U;(first|with_reducible assumption|decide +kernel|(solve|simp only[bn])))|refine Zn Za U U U U ?_)
   all_goals exact Qe
  | false=>
  have q6:=of_decide_eq_false n6
  have q7:=of_decide_eq_false n7
  have q10:=of_decide_eq_false n10
  have ql:=of_decide_eq_false nl
  have e:=hyes ⟨by omega,by omega,by omega,by omega⟩
  subst e
  clear hyes bad
  have hEn:L++[E.int .u8 255]=(O l++[255]).map E.byte:=by rw[hL];simp
  repeat'(first|(apply Zb (h6);kernel_rfl;(iterate 4 exact U))|(apply Zb (h7);kernel_rfl;(iterate 4 exact U))|(apply Zb (h10);kernel_rfl;(iterate 4 exact U))|(apply Zi Za;exact U)|(apply Zg Za;exact U)|(apply Zp Za;exact U)|(apply Ze;(iterate 3 exact U);(first|with_reducible assumption|decide +kernel|(solve|simp only[bn])))|(apply Zh;exact U;(first|with_reducible assumption|decide +kernel|(solve|simp only[bn]));exact U;exact U)|(apply Zf;exact U;(first|with_reducible assumption|decide +kernel|(solve|simp only[bn])))|refine Zn Za U U U U ?_|refine ZM Za U U U U U U U U U U U U ?_|(apply ZR Za;(iterate 6 exact U);(first|with_reducible assumption|decide +kernel|exact U|rotate_left);exact U;exact U;(first|exact Zk rfl|with_reducible assumption|decide +kernel|rotate_left);(first|exact Zk rfl|with_reducible assumption|decide +kernel|rotate_left);(first|exact Qt|rotate_left);(first|exact Qt|rotate_left);(first|exact Qt|rotate_left);exact U;exact U))
  all_goals first|((apply Zq [];(apply Zc Za;exact U);(iterate 4 exact U)))|skip
  all_goals first|rfl|(exact congrArg (fun l=>D.tup [.sl .ext l,.bool true]) hEn)|(first|rfl|(simp only[List.length_append,List.length_cons,List.length_nil,List.length_map,Zw];done)|(simp only[List.length_append,List.length_cons,List.length_nil,List.length_map,Zw]at *;(try unfold maxLen);(try simp only[Nat.add_mul]);omega))
 all_goals(simp only[List.length_cons,List.length_nil,List.length_map]at hO0 hO0l ⊢;(try unfold maxLen);(try simp only[Nat.add_mul]);omega)
def Qx:List BlkV->List BlkV->Bool
 | [],[]=>true
 | a::l,b::m=>JL a b&&Qx l m
 | _,_=>false
theorem Is:∀ {l m:List BlkV},Qx l m=true->l.length=m.length
 | [],[],_=>rfl
 | a::l,b::m,h=>by
  rw[Qx,Bool.and_eq_true]at h
  rw[List.length_cons,List.length_cons,Is h.2]
 | [],_::_,h=>by cases h
 | _::_,[],h=>by cases h
theorem Rq {l m:List BlkV}(h:l.length ≠ m.length):Qx l m=false:=by
 cases hs:Qx l m with
 | false=>rfl
 | true=>exact absurd (Is hs) h
theorem TL (l:List BlkV):Qx l l=true:=by
 induction l with
 | nil=>rfl
 | cons a l ih=>rw[Qx,Hj,ih];rfl
theorem TM {l m:List BlkV}{i:Nat}{a b:BlkV}(ha:l[i]?=some a)(hb:m[i]?=some b):Qx (l.drop i) (m.drop i)=(JL a b&&Qx (l.drop (i+1)) (m.drop (i+1))):=by
 obtain⟨h1,h2⟩:=List.getElem?_eq_some_iff.1 ha
 obtain⟨h3,h4⟩:=List.getElem?_eq_some_iff.1 hb
 rw[List.drop_eq_getElem_cons h1,List.drop_eq_getElem_cons h3,h2,h4,Qx]
abbrev HA (a b:PriV):Bool:=((a.fl:Int)==(b.fl:Int))&&((a.sum==b.sum)&&((a.dest.i==b.dest.i)&&(((a.dest.n:Int)==(b.dest.n:Int))&&(((a.dest.s:Int)==(b.dest.s:Int))&&((a.dest.h==b.dest.h)&&((a.dest.d==b.dest.d)&&((a.rep.i==b.rep.i)&&(((a.rep.n:Int)==(b.rep.n:Int))&&(((a.rep.s:Int)==(b.rep.s:Int))&&((a.rep.h==b.rep.h)&&((a.rep.d==b.rep.d)&&((a.src.i==b.src.i)&&(((a.src.n:Int)==(b.src.n:Int))&&(((a.src.s:Int)==(b.src.s:Int))&&((a.src.h==b.src.h)&&((a.src.d==b.src.d)&&(((a.t:Int)==(b.t:Int))&&(((a.q:Int)==(b.q:Int))&&(((a.life:Int)==(b.life:Int))&&true)))))))))))))))))))
theorem MF (p:PriV):HA p p=true:=by simp[HA]
def Om (b c:BunV):Bool:=HA b.p c.p&&Qx b.bl c.bl
theorem HC (b:BunV):Om b b=true:=by unfold Om;rw[MF,TL];rfl
theorem MG [Known](b c:BunV)(hb:b.bl.length<=1000000)(hc:c.bl.length<=1000000):AP Tryz.prog 33 [.agg (bnC b),.agg (bnC c)] (.bool (Om b c)) []:=by
 have e1:=WW b.bl
 have e2:=WW c.bl
 have hU:=JO b.bl
 have hUm:=JO c.bl
 generalize hR:Om b c=R
 unfold Om at hR
 obtain⟨⟨fl,sum,⟨di,dn,ds,dh,dd⟩,⟨ri,rn,rs,rh,rd⟩,⟨xi,xn,xs,xh,xd⟩,t,q,life⟩,bl⟩:=b
 obtain⟨⟨fl2,sum2,⟨di2,dn2,ds2,dh2,dd2⟩,⟨ri2,rn2,rs2,rh2,rd2⟩,⟨xi2,xn2,xs2,xh2,xd2⟩,t2,q2,life2⟩,bl2⟩:=c
 dsimp only at *
 cases hP:HA ⟨fl,sum,⟨di,dn,ds,dh,dd⟩,⟨ri,rn,rs,rh,rd⟩,⟨xi,xn,xs,xh,xd⟩,t,q,life⟩ ⟨fl2,sum2,⟨di2,dn2,ds2,dh2,dd2⟩,⟨ri2,rn2,rs2,rh2,rd2⟩,⟨xi2,xn2,xs2,xh2,xd2⟩,t2,q2,life2⟩ with
 | false=>
  rw[hP,Bool.false_and]at hR
  subst hR
  have hP2:(!HA ⟨fl,sum,⟨di,dn,ds,dh,dd⟩,⟨ri,rn,rs,rh,rd⟩,⟨xi,xn,xs,xh,xd⟩,t,q,life⟩ ⟨fl2,sum2,⟨di2,dn2,ds2,dh2,dd2⟩,⟨ri2,rn2,rs2,rh2,rd2⟩,⟨xi2,xn2,xs2,xh2,xd2⟩,t2,q2,life2⟩)=true:=by rw[hP];rfl
  dsimp only[HA]at hP2
  refine AP.ofA (Zl Tryz.func33 U Tryz.ntmps33 U U ?_)
  repeat'(first|(apply Zi Za;exact U)|(apply Zg Za;exact U)|(apply Zp Za;exact U)|(apply Zm;(iterate 3 exact U);(first|with_reducible assumption|decide +kernel|(solve|simp only[bn])))|(apply Zj;exact U;(first|with_reducible assumption|decide +kernel|(solve|simp only[bn]));exact U;exact U)|(apply Zd;exact U;(first|with_reducible assumption|decide +kernel|(solve|simp only[bn])))|refine W7 Za U U U U Qk Qk U U U ?_)
  all_goals exact Qe
 | true=>
 rw[hP,Bool.true_and]at hR
 have hP2:(!HA ⟨fl,sum,⟨di,dn,ds,dh,dd⟩,⟨ri,rn,rs,rh,rd⟩,⟨xi,xn,xs,xh,xd⟩,t,q,life⟩ ⟨fl2,sum2,⟨di2,dn2,ds2,dh2,dd2⟩,⟨ri2,rn2,rs2,rh2,rd2⟩,⟨xi2,xn2,xs2,xh2,xd2⟩,t2,q2,life2⟩)=false:=by rw[hP];rfl
 dsimp only[HA]at hP2
 clear hP
 by_cases hlm:bl.length=bl2.length
 case neg=>
  rw[Rq hlm]at hR
  subst hR
  have t1:(((Yo bl).length:Int) != ((Yo bl2).length:Int))=true:=by rw[bne_iff_ne];omega
  refine AP.ofA (Zl Tryz.func33 U Tryz.ntmps33 U U ?_)
  repeat'(first|(apply Zi Za;exact U)|(apply Zg Za;exact U)|(apply Zp Za;exact U)|(apply Ze;(iterate 3 exact U);(first|with_reducible assumption|decide +kernel|(solve|simp only[bn])))|(apply Zh;exact U;(first|with_reducible assumption|decide +kernel|(solve|simp only[bn]));exact U;exact U)|(apply Zd;exact U;(first|with_reducible assumption|decide +kernel|(solve|simp only[bn])))|refine Zn Za U U U U ?_|refine W7 Za U U U U Qk Qk U U U ?_)
  all_goals exact Qe
 have t1:(((Yo bl).length:Int) != ((Yo bl2).length:Int))=false:=by rw[bne_eq_false_iff_eq];omega
 refine AP.ofA (Zl Tryz.func33 U Tryz.ntmps33 U U ?_)
 repeat'(first|(apply Zi Za;exact U)|(apply Zg Za;exact U)|(apply Zp Za;exact U)|(apply Ze;(iterate 3 exact U);(first|with_reducible assumption|decide +kernel|(solve|simp only[bn])))|(apply Zh;exact U;(first|with_reducible assumption|decide +kernel|(solve|simp only[bn]));exact U;exact U)|(apply Zf;exact U;(first|with_reducible assumption|decide +kernel|(solve|simp only[bn])))|refine Zn Za U U U U ?_|refine W7 Za U U U U Qk Qk U U U ?_)
 refine ZJ (fun f tm bx fr=>∃ i:Nat,f+i=bl.length/\Qx (bl.drop i) (bl2.drop i)=R/\tm=[(2,.ptr 0 0),(3,.ptr 1 0),(5,.int .i64 (i:Int))]/\bx=[bnS ⟨fl,sum,⟨di,dn,ds,dh,dd⟩,⟨ri,rn,rs,rh,rd⟩,⟨xi,xn,xs,xh,xd⟩,t,q,life⟩ (.sl .ext (Yo bl)),bnS ⟨fl2,sum2,⟨di2,dn2,ds2,dh2,dd2⟩,⟨ri2,rn2,rs2,rh2,rd2⟩,⟨xi2,xn2,xs2,xh2,xd2⟩,t2,q2,life2⟩ (.sl .ext (Yo bl2))]/\fr=[]) (bl.length+1) (Lands.mk' (m:=bl.length) (Nat.lt_succ_self _) ⟨0,rfl,hR,rfl,rfl,rfl⟩ ?_ rfl rfl rfl rfl rfl rfl) ?_
 ·exact .cons rfl (.cons rfl (.cons rfl .nil))
 rintro f tm bx fr ⟨i,hf,hq,rfl,rfl,rfl⟩
 rcases Nat.lt_or_ge i bl.length with hlt|hge
 ·have hdl:decide ((i:Int)<((Yo bl).length:Int))=true:=decide_eq_true (by omega)
  obtain⟨y,hy⟩:∃ y,bl[i]?=some y:=⟨_,List.getElem?_eq_getElem hlt⟩
  obtain⟨z,hz⟩:∃ y,bl2[i]?=some y:=⟨_,List.getElem?_eq_getElem (by omega)⟩
  have hv:=WX hy
  have hv2:=WX hz
  have hc:=MD y z
  rw[TM hy hz]at hq
  have ei:IntKind.i64.wrap ((i:Int)+1)=((i+1:Nat):Int):=by rw[IntWalk.i64_in _ (by omega)];omega
  cases hs:JL y z with
  | false=>
   rw[hs]at hc hq
   have hq:false=R:=hq
   subst hq
   repeat'(first|(apply Zb (hc);kernel_rfl;(iterate 4 exact U))|(apply Zi Za;exact U)|(apply Zg Za;exact U)|(apply Zp Za;exact U)|(apply Zd;exact U;(first|with_reducible assumption|decide +kernel|(solve|simp only[bn])))|refine Yf ?_|refine Zn Za U U U U ?_|(apply Zo 10 ZB;decide +kernel;kernel_rfl;kernel_rfl;kernel_rfl;exact U;exact U)|(apply Zs;(iterate 4 exact U))|exact AE.nil _ _ _ _|(apply Zx;exact U)|(apply Zz;exact U;exact U;decide +kernel;exact U)|(apply ZA;exact U)|exact AO.nil _ _ _|(apply Zr;(decide +kernel))|exact AOs.nil|exact ZF rfl rfl|(apply Zu Za;(iterate 6 exact U);(first|exact Qt|rotate_left);(first|with_reducible assumption|decide +kernel|exact U);(first|exact Zk rfl|with_reducible assumption|decide +kernel|rotate_left)))
   all_goals exact Qe
  | true=>
   rw[hs,Bool.true_and]at hq
   rw[hs]at hc
   repeat'(first|rw[ei]|(apply Zb (hc);kernel_rfl;(iterate 4 exact U))|(apply Zi Za;exact U)|(apply Zg Za;exact U)|(apply Zp Za;exact U)|(apply Zd;exact U;(first|with_reducible assumption|decide +kernel|(solve|simp only[bn])))|(apply Zf;exact U;(first|with_reducible assumption|decide +kernel|(solve|simp only[bn])))|refine Zn Za U U U U ?_|(apply Zo 10 ZB;decide +kernel;kernel_rfl;kernel_rfl;kernel_rfl;exact U;exact U)|(apply Zs;(iterate 4 exact U))|exact AE.nil _ _ _ _|(apply Zx;exact U)|(apply Zz;exact U;exact U;decide +kernel;exact U)|(apply ZA;exact U)|exact AO.nil _ _ _|(apply Zr;(decide +kernel))|exact AOs.nil|exact ZF rfl rfl|(apply Zu Za;(iterate 6 exact U);(first|exact Qt|rotate_left);(first|with_reducible assumption|decide +kernel|exact U);(first|exact Zk rfl|with_reducible assumption|decide +kernel|rotate_left)))
   refine Lands.mk' (m:=f-1) (by omega) ⟨i+1,by omega,hq,rfl,rfl,rfl⟩ ?_ rfl rfl rfl rfl rfl rfl
   exact .cons rfl (.cons rfl (.cons rfl .nil))
 ·have hdl:decide ((i:Int)<((Yo bl).length:Int))=false:=decide_eq_false (by omega)
  rw[List.drop_eq_nil_of_le hge,List.drop_eq_nil_of_le (by omega)]at hq
  have hq:true=R:=hq
  subst hq
  repeat'(first|(apply Zi Za;exact U)|(apply Zg Za;exact U)|(apply Zp Za;exact U)|(apply Zf;exact U;(first|with_reducible assumption|decide +kernel|(solve|simp only[bn])))|refine Zn Za U U U U ?_)
  all_goals exact Qe
theorem JQ (r:RepV)(dest src:EidV)(t q life:Nat):(YP r dest src t q life=(bn0,3)/\(Yj r=false\/(Yj r=true/\YZ (V1 (ZI (Ya r)) dest src t q life)=false)))\/(Yj r=true/\YZ (V1 (ZI (Ya r)) dest src t q life)=true/\YP r dest src t q life=(V1 (ZI (Ya r)) dest src t q life,0)):=by
 unfold YP
 cases hr:Yj r with
 | false=>
  rw[XM hr]
  exact .inl ⟨rfl,.inl rfl⟩
 | true=>
  rw[Qn hr]
  dsimp only
  rw[show((0:Int) != 0)=false from rfl]
  dsimp only
  cases hb:YZ (V1 (ZI (Ya r)) dest src t q life) with
  | false=>exact .inl ⟨rfl,.inr ⟨rfl,rfl⟩⟩
  | true=>exact .inr ⟨rfl,rfl,rfl⟩
abbrev pqC (dest src:EidV)(t q life:Nat):List D:=[.int .u64 2,.int .i64 0,.bool dest.i,.int .u64 (dest.n:Int),.int .u64 (dest.s:Int),.str dest.h,.str dest.d,.bool false,.int .u64 0,.int .u64 0,.str [],.str [],.bool src.i,.int .u64 (src.n:Int),.int .u64 (src.s:Int),.str src.h,.str src.d,.int .u64 (t:Int),.int .u64 (q:Int),.int .u64 (life:Int)]
theorem HE [Known][KnownU8](r:RepV)(dest src:EidV)(t q life:Nat)(hr:Fit r.of)(hd:Fit dest)(hs:Fit src):AP Tryz.prog 30 [.agg (Y6 r),.agg (pqC dest src t q life)] (.tup [.agg (bnC (YP r dest src t q life).1),.bool ((YP r dest src t q life).2==0)]) []:=by
 have hR:=K7 r hr
 have hW:=fun h=>Tu r h (by have:=Ua h;omega)
 rcases JQ r dest src t q life with⟨e,h⟩ | ⟨h1,h2,e⟩
 ·rw[e]
  rcases h with h|⟨h1,h2⟩
  ·rw[h]at hR
   clear hW e h
   obtain⟨ra,rb,rc,rs,rtm,⟨ji,jn,js,jh,jd⟩,jt,jq⟩:=r
   obtain⟨di,dn,ds,dh,dd⟩:=dest
   obtain⟨xi,xn,xs,xh,xd⟩:=src
   try dsimp only at *
   refine AP.ofA (Zl Tryz.func30 U Tryz.ntmps30 U U ?_)
   repeat'(first|(apply Zb (hR);kernel_rfl;(iterate 4 exact U))|(apply Zi Za;exact U)|(apply Zg Za;exact U)|(apply Zp Za;exact U)|(apply Zd;exact U;(first|with_reducible assumption|decide +kernel|(solve|simp only[bn]))))
   all_goals exact Qe
  ·rw[h1]at hR
   replace hW:=hW h1
   have hB:=JP (V1 (ZI (Ya r)) dest src t q life) (Kq _ (Nat.le_trans (Ua h1) (by omega)) dest src t q life) hd (⟨by decide,by decide⟩:Fit Yi) hs
   have hw2:(Va (V1 (ZI (Ya r)) dest src t q life)).2=false:=by unfold Va;rw[h2]
   rw[hw2]at hB
   generalize (Va (V1 (ZI (Ya r)) dest src t q life)).1=wb at *
   clear e h1 h2 hw2
   generalize ZI (Ya r)=P at *
   obtain⟨ra,rb,rc,rs,rtm,⟨ji,jn,js,jh,jd⟩,jt,jq⟩:=r
   obtain⟨di,dn,ds,dh,dd⟩:=dest
   obtain⟨xi,xn,xs,xh,xd⟩:=src
   dsimp only[V1,Yi]at *
   refine AP.ofA (Zl Tryz.func30 U Tryz.ntmps30 U U ?_)
   repeat'(first|(apply Zb (hR);kernel_rfl;(iterate 4 exact U))|(apply Zb (hW);kernel_rfl;(iterate 4 exact U))|(apply Zb (hB);kernel_rfl;(iterate 4 exact U))|(apply Zi Za;exact U)|(apply Zg Za;exact U)|(apply Zp Za;exact U)|(apply Zd;exact U;(first|with_reducible assumption|decide +kernel|(solve|simp only[bn])))|(apply Zf;exact U;(first|with_reducible assumption|decide +kernel|(solve|simp only[bn])))|refine ZM Za U U U U U U U U U U U U ?_|(apply Zo 7 ZB;decide +kernel;kernel_rfl;kernel_rfl;kernel_rfl;exact U;exact U)|(apply Zs;(iterate 4 exact U))|exact AE.nil _ _ _ _|(apply Zx;exact U)|(apply Z1;exact U)|(apply Zz;exact U;exact U;decide +kernel;exact U)|(apply ZA;exact U)|(apply Ym;exact U)|exact AO.nil _ _ _|(apply Zr;(decide +kernel))|(apply ZU;(iterate 3 exact U))|exact AOs.nil|exact ZF rfl rfl|exact WH rfl rfl rfl rfl rfl|exact YK rfl rfl)
   all_goals exact Qe
 ·rw[e]
  rw[h1]at hR
  replace hW:=hW h1
  have hB:=JP (V1 (ZI (Ya r)) dest src t q life) (Kq _ (Nat.le_trans (Ua h1) (by omega)) dest src t q life) hd (⟨by decide,by decide⟩:Fit Yi) hs
  have hw2:(Va (V1 (ZI (Ya r)) dest src t q life)).2=true:=by unfold Va;rw[h2]
  rw[hw2]at hB
  generalize (Va (V1 (ZI (Ya r)) dest src t q life)).1=wb at *
  clear e h1 h2 hw2
  generalize ZI (Ya r)=P at *
  obtain⟨ra,rb,rc,rs,rtm,⟨ji,jn,js,jh,jd⟩,jt,jq⟩:=r
  obtain⟨di,dn,ds,dh,dd⟩:=dest
  obtain⟨xi,xn,xs,xh,xd⟩:=src
  dsimp only[V1,Yi]at *
  refine AP.ofA (Zl Tryz.func30 U Tryz.ntmps30 U U ?_)
  repeat'(first|(apply Zb (hR);kernel_rfl;(iterate 4 exact U))|(apply Zb (hW);kernel_rfl;(iterate 4 exact U))|(apply Zb (hB);kernel_rfl;(iterate 4 exact U))|(apply Zi Za;exact U)|(apply Zg Za;exact U)|(apply Zp Za;exact U)|(apply Zf;exact U;(first|with_reducible assumption|decide +kernel|(solve|simp only[bn])))|refine ZM Za U U U U U U U U U U U U ?_|(apply Zo 7 ZB;decide +kernel;kernel_rfl;kernel_rfl;kernel_rfl;exact U;exact U)|(apply Zs;(iterate 4 exact U))|exact AE.nil _ _ _ _|(apply Zx;exact U)|(apply Z1;exact U)|(apply Zz;exact U;exact U;decide +kernel;exact U)|(apply ZA;exact U)|(apply Ym;exact U)|exact AO.nil _ _ _|(apply Zr;(decide +kernel))|(apply ZU;(iterate 3 exact U))|exact AOs.nil|exact ZF rfl rfl|exact WH rfl rfl rfl rfl rfl|exact YK rfl rfl)
  all_goals exact Qe
end Go.Proofs.YtmljabhmajehnaaGreatDoor
end
