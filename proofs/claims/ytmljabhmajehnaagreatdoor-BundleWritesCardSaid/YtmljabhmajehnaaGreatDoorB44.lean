/- Bundles as the document's: written. -/
import Derived.Test.YtmljabhmajehnaaGreatDoorB42
import Derived.Test.YtmljabhmajehnaaGreatDoorB43
set_option linter.unusedVariables false
set_option linter.unusedSimpArgs false
section
open Go.RowKit Go.Pl Go.Av
namespace Go.Proofs.YtmljabhmajehnaaGreatDoor
set_option maxHeartbeats 4000000
theorem MA (p:PriV)(l:List BlkV)(c:BlkV):Qs p (l++[c])=Qs p l++ZM (WG c):=by
 unfold Qs
 rw[List.map_append,V2]
 simp[ZJ]
theorem BV {p:PriV}(h:Yq p=true)(hfl:p.fl<18446744073709551616):wfI (W4 p)/\ZB (W4 p)=true/\(ZM (W4 p)).length<=4000:=by
 have hw:=UM (p:=p) hfl
 have he:=Xz h
 rw[he]at hw
 obtain⟨_,hs⟩:=Wd he
 exact⟨hw,W7 hs,Tj he⟩
theorem Rq {c:BlkV}(h:ZU c=true)(hfl:c.fl<18446744073709551616)(hd:c.data.length<=3000):wfI (WG c)/\ZB (WG c)=true/\(ZM (WG c)).length<=4000:=by
 have hw:=J1 hfl hd
 have he:=K1 h
 rw[he]at hw
 obtain⟨_,hs⟩:=Vp he
 exact⟨hw,W7 hs,Th he hd⟩
theorem HC (p:PriV)(hp:(ZM (W4 p)).length<=4000):∀(l:List BlkV),(∀ c ∈ l,(ZM (WG c)).length<=4000)->(Qs p l).length<=4001+4000*l.length
 | [],_=>by unfold Qs;simp[ZJ];omega
 | c::l,h=>by
  have h1:=HC p hp l fun y hy=>h y (List.mem_cons_of_mem _ hy)
  have h2:=h c (List.mem_cons_self ..)
  unfold Qs at h1 ⊢
  rw[List.map_cons,ZJ]
  simp only[List.length_cons,List.length_append]at h1 ⊢
  omega
theorem TC [Known][KnownU8](b:BunV)(hb:BunOk b)(hd:Fit b.p.dest)(hr:Fit b.p.rep)(hs:Fit b.p.src):AP Tryz.prog 35 [.agg (bnC b)] (.tup [byE (Qi b).1,.bool (Qi b).2]) []:=by
 have hR:=TB b.p hb.fl hd hr hs
 have hlen:=Wh b.bl
 have hUb:=UN b.bl
 have hno:=Ms (b:=b)
 have hyes:=K2 (b:=b)
 generalize Qi b=DD at *
 have hl:=hb.len
 have hbl:=hb.bl
 have hW6:=fun h=>Tx b.p h hb.fl
 have hput:=fun h=>BV (p:=b.p) h hb.fl
 have hN:=fun n=>Jc b 0 n hb.len
 have h6:AP Tryz.prog 81 [.agg (bnC b),.int .u64 6,.int .u64 0] (.int .i64 (WZ b.bl 6 0:Int)) []:=Jc b 6 0 hb.len
 have h7:AP Tryz.prog 81 [.agg (bnC b),.int .u64 7,.int .u64 0] (.int .i64 (WZ b.bl 7 0:Int)) []:=Jc b 7 0 hb.len
 have h10:AP Tryz.prog 81 [.agg (bnC b),.int .u64 10,.int .u64 0] (.int .i64 (WZ b.bl 10 0:Int)) []:=Jc b 10 0 hb.len
 replace hN:∀ n:Nat,AP Tryz.prog 81 [.agg (bnC b),.int .u64 0,.int .u64 (n:Int)] (.int .i64 (WZ b.bl 0 n:Int)) []:=hN
 clear hb hd hr hs
 obtain⟨p,l⟩:=b
 dsimp only at hR hlen hUb hno hyes hl hbl hW6 hput hN h6 h7 h10
 rcases Nat.lt_or_ge l.length 1 with h1|h1
 ·have t1:decide (((ZX l).length:Int)<1)=true:=decide_eq_true (by omega)
  have e:=hno fun h=>by have:=h.1.one;omega
  subst e
  clear hno hyes
  obtain⟨fl,sum,⟨di,dn,ds,dh,dd⟩,⟨ri,rn,rs,rh,rd⟩,⟨xi,xn,xs,xh,xd⟩,t,q,life⟩:=p
  try dsimp only at *
  refine AP.ofA (Zl Tryz.func35 U Tryz.ntmps35 U U ?_)
  repeat'(first|(apply Zh Za;exact U)|(apply Zg Za;exact U)|(apply Zo Za;exact U)|(apply Zn;(iterate 3 exact U);(first|with_reducible assumption|decide +kernel|(solve|simp only[bn])))|(apply Zj;exact U;(first|with_reducible assumption|decide +kernel|(solve|simp only[bn]));exact U;exact U)|(apply Zd;exact U;(first|with_reducible assumption|decide +kernel|(solve|simp only[bn])))|refine Zm Za U U U U ?_)
  all_goals exact Qe
 have t1:decide (((ZX l).length:Int)<1)=false:=decide_eq_false (by omega)
 rcases Nat.lt_or_ge 8 l.length with h8|h8
 ·have t2:decide (((ZX l).length:Int)>8)=true:=decide_eq_true (by omega)
  have e:=hno fun h=>by have:=h.1.few;omega
  subst e
  clear hno hyes
  obtain⟨fl,sum,⟨di,dn,ds,dh,dd⟩,⟨ri,rn,rs,rh,rd⟩,⟨xi,xn,xs,xh,xd⟩,t,q,life⟩:=p
  try dsimp only at *
  refine AP.ofA (Zl Tryz.func35 U Tryz.ntmps35 U U ?_)
  repeat'(first|(apply Zh Za;exact U)|(apply Zg Za;exact U)|(apply Zo Za;exact U)|(apply Ze;(iterate 3 exact U);(first|with_reducible assumption|decide +kernel|(solve|simp only[bn])))|(apply Zn;(iterate 3 exact U);(first|with_reducible assumption|decide +kernel|(solve|simp only[bn])))|(apply Zj;exact U;(first|with_reducible assumption|decide +kernel|(solve|simp only[bn]));exact U;exact U)|(apply Zi;exact U;(first|with_reducible assumption|decide +kernel|(solve|simp only[bn]));exact U;exact U)|(apply Zd;exact U;(first|with_reducible assumption|decide +kernel|(solve|simp only[bn])))|refine Zm Za U U U U ?_)
  all_goals exact Qe
 have t2:decide (((ZX l).length:Int)>8)=false:=decide_eq_false (by omega)
 cases hrp:Yq p with
 | false=>
  rw[hrp]at hR
  have e:=hno fun h=>by rw[hrp]at h;exact absurd h.2.1 (by simp)
  subst e
  clear hno hyes hput hW6 hrp
  obtain⟨fl,sum,⟨di,dn,ds,dh,dd⟩,⟨ri,rn,rs,rh,rd⟩,⟨xi,xn,xs,xh,xd⟩,t,q,life⟩:=p
  try dsimp only at *
  refine AP.ofA (Zl Tryz.func35 U Tryz.ntmps35 U U ?_)
  repeat'(first|(apply Zb (hR);kernel_rfl;(iterate 4 exact U))|(apply Zh Za;exact U)|(apply Zg Za;exact U)|(apply Zo Za;exact U)|(apply Ze;(iterate 3 exact U);(first|with_reducible assumption|decide +kernel|(solve|simp only[bn])))|(apply Zi;exact U;(first|with_reducible assumption|decide +kernel|(solve|simp only[bn]));exact U;exact U)|(apply Zd;exact U;(first|with_reducible assumption|decide +kernel|(solve|simp only[bn])))|refine Zm Za U U U U ?_)
  all_goals exact Qe
 | true=>
 rw[hrp]at hR
 obtain⟨hxw,hxr,hxl⟩:=hput hrp
 replace hW6:=hW6 hrp
 have hC:=Q9 (W4 p) hxw (Qh hxr) (by omega)
 have hout:=HC p hxl
 obtain⟨c0,t0,hp0⟩:=Ky _ hxw hxr
 have h0:Qs p []=159::(c0::t0):=by unfold Qs;rw[hp0];simp[ZJ]
 have hsn:=MA p
 generalize Qs p=O at *
 rw[hp0]at hC
 have hU0:=Ym (c0::t0)
 have hE0:[E.int .u8 159]++(c0::t0).map E.byte=(O []).map E.byte:=by rw[h0];simp
 have hO0:(O []).length=1+((c0::t0).map E.byte).length:=by rw[h0];simp;omega
 have hO0l:=hout [] (by simp)
 clear hxw hxr hxl hp0 hput
 generalize W4 p=X at *
 obtain⟨k,n,bb,xl⟩:=X
 have en:IntKind.i64.wrap (((ZX l).length:Int)-1)=((l.length-1:Nat):Int):=by rw[IntWalk.i64_in _ (by omega)];omega
 obtain⟨fl,sum,⟨di,dn,ds,dh,dd⟩,⟨ri,rn,rs,rh,rd⟩,⟨xi,xn,xs,xh,xd⟩,t,q,life⟩:=p
 try dsimp only at *
 refine AP.ofA (Zl Tryz.func35 U Tryz.ntmps35 U U ?_)
 repeat'(first|(apply Zb (hR);kernel_rfl;(iterate 4 exact U))|(apply Zb (hW6);kernel_rfl;(iterate 4 exact U))|(apply Zb (hC);kernel_rfl;(iterate 4 exact U))|(apply Zh Za;exact U)|(apply Zg Za;exact U)|(apply Zo Za;exact U)|(apply Ze;(iterate 3 exact U);(first|with_reducible assumption|decide +kernel|(solve|simp only[bn])))|(apply Zi;exact U;(first|with_reducible assumption|decide +kernel|(solve|simp only[bn]));exact U;exact U)|(apply Zf;exact U;(first|with_reducible assumption|decide +kernel|(solve|simp only[bn])))|refine Zm Za U U U U ?_|refine ZO Za U U U U U U U U U U U U ?_|(apply ZS Za;(iterate 6 exact U);(first|with_reducible assumption|decide +kernel|exact U|rotate_left);exact U;exact U;(first|exact Zk rfl|with_reducible assumption|decide +kernel|rotate_left);(first|exact Zk rfl|with_reducible assumption|decide +kernel|rotate_left);(first|exact Qt|rotate_left);(first|exact Qt|rotate_left);(first|exact Qt|rotate_left);exact U;exact U))
 refine ZI (fun f tm bx fr=>∃(i c:Nat) (L:List E),f+i=l.length/\c=L.length/\L=(O (l.take i)).map E.byte/\(∀ c ∈ l.take i,ZU c=true)/\(∀ j c,j<i->l[j]?=some c->IV l j c=true)/\tm=[(1,.ptr 0 0),(4,.int .i64 ((ZX l).length:Int)),(5,.sl (.own 0) L),(6,.int .i64 (i:Int))]/\bx=[bnS ⟨fl,sum,⟨di,dn,ds,dh,dd⟩,⟨ri,rn,rs,rh,rd⟩,⟨xi,xn,xs,xh,xd⟩,t,q,life⟩ (.sl .ext (ZX l))]/\fr=[⟨c,1,5⟩]) (l.length+1) (Lands.mk' (m:=l.length) (Nat.lt_succ_self _) ⟨0,(O []).length,(O []).map E.byte,by omega,by rw[List.length_map],rfl,by simp,fun j c hj=>absurd hj (Nat.not_lt_zero _),by rw[<- hE0],rfl,by rw[hO0]⟩ ?_ rfl rfl rfl rfl rfl rfl) ?_
 ·exact .cons rfl (.cons rfl (.cons rfl (.cons rfl .nil)))
 rintro f tm bx fr ⟨i,c,L,hf,hc,hL,hpre,hok,rfl,rfl,rfl⟩
 subst hc
 have hUL:Uni 1 L:=by rw[hL];exact Ym _
 have hLl:L.length=(O (l.take i)).length:=by rw[hL,List.length_map]
 have hol:=hout (l.take i) fun c hc=>(Rq (hpre c hc) (hbl c (List.mem_of_mem_take hc)).1 (hbl c (List.mem_of_mem_take hc)).2).2.2
 have hti:(l.take i).length<=8:=by rw[List.length_take];omega
 rcases Nat.lt_or_ge i l.length with hlt|hge
 ·have hdl:decide ((i:Int)<((ZX l).length:Int))=true:=decide_eq_true (by omega)
  obtain⟨y,hy⟩:∃ y,l[i]?=some y:=⟨_,List.getElem?_eq_getElem hlt⟩
  have hv:=YV hy
  obtain⟨hyf,hyd⟩:=hbl y (List.mem_of_getElem? hy)
  have hR7:=Mm y hyf (by omega)
  have hNy:=hN y.num
  have ei:IntKind.i64.wrap ((i:Int)+1)=((i+1:Nat):Int):=by rw[IntWalk.i64_in _ (by omega)];omega
  have ht1:l.take (i+1)=l.take i++[y]:=by rw[List.take_add_one,hy];rfl
  have hk:IV l i y=(ZU y&&(!decide ((WZ l 0 y.num:Int)>1)&&(!(!(((y.ty:Int)==1)==((i:Int)==((l.length-1:Nat):Int)))) && !(!(((y.num:Int)==1)==((i:Int)==((l.length-1:Nat):Int))))))):=by
   unfold IV;simp only[Bool.not_not]
  have bad:IV l i y=false->DD=([],false):=fun hf=>hno fun h=>by rw[h.1.ok i y hy]at hf;cases hf
  rw[hk]at bad
  have hput:=fun h=>Rq (c:=y) h hyf hyd
  have hW7:=fun h=>Ts y h hyf
  cases hr:ZU y with
  | false=>
   rw[hr]at hR7 bad
   have e:=bad rfl
   subst e
   clear hno hyes bad hk hput hW7 hok hout hsn
   repeat'(first|(apply Zb (hR7);kernel_rfl;(iterate 4 exact U))|(apply Zh Za;exact U)|(apply Zg Za;exact U)|(apply Zo Za;exact U)|(apply Zn;(iterate 3 exact U);(first|with_reducible assumption|decide +kernel|(solve|simp only[bn])))|(apply Zj;exact U;(first|with_reducible assumption|decide +kernel|(solve|simp only[bn]));exact U;exact U)|(apply Zd;exact U;(first|with_reducible assumption|decide +kernel|(solve|simp only[bn])))|refine Ya ?_|(apply Zr Za;(iterate 6 exact U);(first|exact Qt|rotate_left);(first|with_reducible assumption|decide +kernel|exact U);(first|exact Zk rfl|with_reducible assumption|decide +kernel|rotate_left)))
   all_goals exact Qe
  | true=>
  rw[hr]at hR7 bad hk
  generalize WZ l 0 y.num=m at *
  cases n1:decide ((m:Int)>1) with
  | true=>
   rw[n1]at bad
   have e:=bad rfl
   subst e
   clear hno hyes bad hk hput hW7 hok hout hsn
   repeat'(first|(apply Zb (hR7);kernel_rfl;(iterate 4 exact U))|(apply Zb (hNy);kernel_rfl;(iterate 4 exact U))|(apply Zh Za;exact U)|(apply Zg Za;exact U)|(apply Zo Za;exact U)|(apply Ze;(iterate 3 exact U);(first|with_reducible assumption|decide +kernel|(solve|simp only[bn])))|(apply Zn;(iterate 3 exact U);(first|with_reducible assumption|decide +kernel|(solve|simp only[bn])))|(apply Zj;exact U;(first|with_reducible assumption|decide +kernel|(solve|simp only[bn]));exact U;exact U)|(apply Zi;exact U;(first|with_reducible assumption|decide +kernel|(solve|simp only[bn]));exact U;exact U)|(apply Zd;exact U;(first|with_reducible assumption|decide +kernel|(solve|simp only[bn])))|refine Ya ?_|(apply Zr Za;(iterate 6 exact U);(first|exact Qt|rotate_left);(first|with_reducible assumption|decide +kernel|exact U);(first|exact Zk rfl|with_reducible assumption|decide +kernel|rotate_left)))
   all_goals exact Qe
  | false=>
  rw[n1]at bad hk
  cases n2:(!(((y.ty:Int)==1)==((i:Int)==((l.length-1:Nat):Int)))) with
  | true=>
   rw[n2]at bad
   have e:=bad rfl
   subst e
   clear hno hyes bad hk hput hW7 hok hout hsn
   repeat'(first|(apply Zb (hR7);kernel_rfl;(iterate 4 exact U))|(apply Zb (hNy);kernel_rfl;(iterate 4 exact U))|rw[en]|(apply Zh Za;exact U)|(apply Zg Za;exact U)|(apply Zo Za;exact U)|(apply Ze;(iterate 3 exact U);(first|with_reducible assumption|decide +kernel|(solve|simp only[bn])))|(apply Zn;(iterate 3 exact U);(first|with_reducible assumption|decide +kernel|(solve|simp only[bn])))|(apply Zj;exact U;(first|with_reducible assumption|decide +kernel|(solve|simp only[bn]));exact U;exact U)|(apply Zi;exact U;(first|with_reducible assumption|decide +kernel|(solve|simp only[bn]));exact U;exact U)|(apply Zd;exact U;(first|with_reducible assumption|decide +kernel|(solve|simp only[bn])))|refine Ya ?_|(apply Zr Za;(iterate 6 exact U);(first|exact Qt|rotate_left);(first|with_reducible assumption|decide +kernel|exact U);(first|exact Zk rfl|with_reducible assumption|decide +kernel|rotate_left)))
   all_goals exact Qe
  | false=>
  rw[n2]at bad hk
  cases n3:(!(((y.num:Int)==1)==((i:Int)==((l.length-1:Nat):Int)))) with
  | true=>
   rw[n3]at bad
   have e:=bad rfl
   subst e
   clear hno hyes bad hk hput hW7 hok hout hsn
   repeat'(first|(apply Zb (hR7);kernel_rfl;(iterate 4 exact U))|(apply Zb (hNy);kernel_rfl;(iterate 4 exact U))|rw[en]|(apply Zh Za;exact U)|(apply Zg Za;exact U)|(apply Zo Za;exact U)|(apply Ze;(iterate 3 exact U);(first|with_reducible assumption|decide +kernel|(solve|simp only[bn])))|(apply Zi;exact U;(first|with_reducible assumption|decide +kernel|(solve|simp only[bn]));exact U;exact U)|(apply Zd;exact U;(first|with_reducible assumption|decide +kernel|(solve|simp only[bn])))|refine Ya ?_|(apply Zr Za;(iterate 6 exact U);(first|exact Qt|rotate_left);(first|with_reducible assumption|decide +kernel|exact U);(first|exact Zk rfl|with_reducible assumption|decide +kernel|rotate_left)))
   all_goals exact Qe
  | false=>
  rw[n3]at hk
  obtain⟨hzw,hzr,hzl⟩:=hput hr
  replace hW7:=hW7 hr
  have hD:=Q9 (WG y) hzw (Qh hzr) (by omega)
  obtain⟨c1,t1',hp1⟩:=Ky _ hzw hzr
  have hLn:L++(c1::t1').map E.byte=(O (l.take (i+1))).map E.byte:=by rw[hL,ht1,hsn,hp1,List.map_append]
  have hpre2:∀ c ∈ l.take (i+1),ZU c=true:=fun c hc=>by
   rw[ht1]at hc
   rcases List.mem_append.1 hc with hc|hc
   ·exact hpre c hc
   ·simp at hc;subst hc;exact hr
  have hok2:∀ j c,j<i+1->l[j]?=some c->IV l j c=true:=fun j c hj hc=>by
   rcases Nat.lt_or_ge j i with h|h
   ·exact hok j c h hc
   ·obtain rfl:j=i:=by omega
    rw[hy]at hc
    cases hc
    exact hk
  rw[hp1]at hD hzl
  have hU1:=Ym (c1::t1')
  clear hno hyes bad hk hput hok hout hsn hzw hzr hp1
  generalize WG y=Z at *
  obtain⟨k2,n2',b2,l2⟩:=Z
  repeat'(first|(apply Zb (hR7);kernel_rfl;(iterate 4 exact U))|(apply Zb (hNy);kernel_rfl;(iterate 4 exact U))|(apply Zb (hW7);kernel_rfl;(iterate 4 exact U))|(apply Zb (hD);kernel_rfl;(iterate 4 exact U))|rw[en]|rw[ei]|(apply Zh Za;exact U)|(apply Zg Za;exact U)|(apply Zo Za;exact U)|(apply Ze;(iterate 3 exact U);(first|with_reducible assumption|decide +kernel|(solve|simp only[bn])))|(apply Zi;exact U;(first|with_reducible assumption|decide +kernel|(solve|simp only[bn]));exact U;exact U)|(apply Zd;exact U;(first|with_reducible assumption|decide +kernel|(solve|simp only[bn])))|(apply Zf;exact U;(first|with_reducible assumption|decide +kernel|(solve|simp only[bn])))|(apply ZS Za;(iterate 6 exact U);(first|with_reducible assumption|decide +kernel|exact U|rotate_left);exact U;exact U;(first|exact Zk rfl|with_reducible assumption|decide +kernel|rotate_left);(first|exact Zk rfl|with_reducible assumption|decide +kernel|rotate_left);(first|exact Qt|rotate_left);(first|exact Qt|rotate_left);(first|exact Qt|rotate_left);exact U;exact U)|(apply Zr Za;(iterate 6 exact U);(first|exact Qt|rotate_left);(first|with_reducible assumption|decide +kernel|exact U);(first|exact Zk rfl|with_reducible assumption|decide +kernel|rotate_left)))
  ·refine Lands.mk' (m:=f-1) (by omega) ⟨i+1,L.length+((c1::t1').map E.byte).length,L++(c1::t1').map E.byte,by omega,by rw[List.length_append],hLn,hpre2,hok2,rfl,rfl,rfl⟩ ?_ rfl rfl rfl rfl rfl rfl
   exact .cons rfl (.cons rfl (.cons rfl (.cons rfl .nil)))
  all_goals(first|rfl|(simp only[List.length_append,List.length_cons,List.length_nil,List.length_map,Zw];done)|(simp only[List.length_append,List.length_cons,List.length_nil,List.length_map,Zw]at *;(try unfold maxLen);(try simp only[Nat.add_mul]);omega))
 ·have hdl:decide ((i:Int)<((ZX l).length:Int))=false:=decide_eq_false (by omega)
  rw[List.take_of_length_le hge]at hL hol
  have hall:∀ j c,l[j]?=some c->IV l j c=true:=fun j c hc=>hok j c (by have:=(List.getElem?_eq_some_iff.1 hc).1;omega) hc
  have hoe:(O l).length=L.length:=by rw[hL,List.length_map]
  have bad:¬ (WZ l 6 0<=1/\WZ l 7 0<=1/\WZ l 10 0<=1/\(O l).length<=599)->DD=([],false):=fun hf=>hno fun h=>hf ⟨h.1.c6,h.1.c7,h.1.c10,h.2.2⟩
  replace hyes:WZ l 6 0<=1/\WZ l 7 0<=1/\WZ l 10 0<=1/\(O l).length<=599->DD=(O l++[255],true):=fun h=>hyes ⟨⟨h1,h8,hall,h.1,h.2.1,h.2.2.1⟩,hrp,h.2.2.2⟩
  clear hno hok hpre hout hsn
  generalize WZ l 6 0=m6 at *
  generalize WZ l 7 0=m7 at *
  generalize WZ l 10 0=m10 at *
  cases n6:decide ((m6:Int)>1) with
  | true=>
   have e:=bad fun h=>by have:=of_decide_eq_true n6;omega
   subst e
   clear hyes bad
   repeat'(first|(apply Zb (h6);kernel_rfl;(iterate 4 exact U))|(apply Zh Za;exact U)|(apply Zg Za;exact U)|(apply Zo Za;exact U)|(apply Zn;(iterate 3 exact U);(first|with_reducible assumption|decide +kernel|(solve|simp only[bn])))|(apply Zj;exact U;(first|with_reducible assumption|decide +kernel|(solve|simp only[bn]));exact U;exact U)|(apply Zd;exact U;(first|with_reducible assumption|decide +kernel|(solve|simp only[bn])))|(apply Zf;exact U;(first|with_reducible assumption|decide +kernel|(solve|simp only[bn]))))
   all_goals exact Qe
  | false=>
  cases n7:decide ((m7:Int)>1) with
  | true=>
   have e:=bad fun h=>by have:=of_decide_eq_true n7;omega
   subst e
   clear hyes bad
   repeat'(first|(apply Zb (h6);kernel_rfl;(iterate 4 exact U))|(apply Zb (h7);kernel_rfl;(iterate 4 exact U))|(apply Zh Za;exact U)|(apply Zg Za;exact U)|(apply Zo Za;exact U)|(apply Ze;(iterate 3 exact U);(first|with_reducible assumption|decide +kernel|(solve|simp only[bn])))|(apply Zn;(iterate 3 exact U);(first|with_reducible assumption|decide +kernel|(solve|simp only[bn])))|(apply Zj;exact U;(first|with_reducible assumption|decide +kernel|(solve|simp only[bn]));exact U;exact U)|(apply Zi;exact U;(first|with_reducible assumption|decide +kernel|(solve|simp only[bn]));exact U;exact U)|(apply Zd;exact U;(first|with_reducible assumption|decide +kernel|(solve|simp only[bn])))|(apply Zf;exact U;(first|with_reducible assumption|decide +kernel|(solve|simp only[bn]))))
   all_goals exact Qe
  | false=>
  cases n10:decide ((m10:Int)>1) with
  | true=>
   have e:=bad fun h=>by have:=of_decide_eq_true n10;omega
   subst e
   clear hyes bad
   repeat'(first|(apply Zb (h6);kernel_rfl;(iterate 4 exact U))|(apply Zb (h7);kernel_rfl;(iterate 4 exact U))|(apply Zb (h10);kernel_rfl;(iterate 4 exact U))|(apply Zh Za;exact U)|(apply Zg Za;exact U)|(apply Zo Za;exact U)|(apply Ze;(iterate 3 exact U);(first|with_reducible assumption|decide +kernel|(solve|simp only[bn])))|(apply Zn;(iterate 3 exact U);(first|with_reducible assumption|decide +kernel|(solve|simp only[bn])))|(apply Zj;exact U;(first|with_reducible assumption|decide +kernel|(solve|simp only[bn]));exact U;exact U)|(apply Zi;exact U;(first|with_reducible assumption|decide +kernel|(solve|simp only[bn]));exact U;exact U)|(apply Zd;exact U;(first|with_reducible assumption|decide +kernel|(solve|simp only[bn])))|(apply Zf;exact U;(first|with_reducible assumption|decide +kernel|(solve|simp only[bn]))))
   all_goals exact Qe
  | false=>
  cases nl:decide ((L.length:Int)>599) with
  | true=>
   have e:=bad fun h=>by have:=of_decide_eq_true nl;omega
   subst e
   clear hyes bad
   repeat'(first|(apply Zb (h6);kernel_rfl;(iterate 4 exact U))|(apply Zb (h7);kernel_rfl;(iterate 4 exact U))|(apply Zb (h10);kernel_rfl;(iterate 4 exact U))|(apply Zh Za;exact U)|(apply Zg Za;exact U)|(apply Zo Za;exact U)|(apply Ze;(iterate 3 exact U);(first|with_reducible assumption|decide +kernel|(solve|simp only[bn])))|(apply Zi;exact U;(first|with_reducible assumption|decide +kernel|(solve|simp only[bn]));exact U;exact U)|(apply Zd;exact U;(first|with_reducible assumption|decide +kernel|(solve|simp only[bn])))|(apply Zf;exact U;(first|with_reducible assumption|decide +kernel|(solve|simp only[bn])))|refine Zm Za U U U U ?_)
   all_goals exact Qe
  | false=>
  have q6:=of_decide_eq_false n6
  have q7:=of_decide_eq_false n7
  have q10:=of_decide_eq_false n10
  have ql:=of_decide_eq_false nl
  have e:=hyes ⟨by omega,by omega,by omega,by omega⟩
  subst e
  clear hyes bad
  have hEn:L++[E.int .u8 255]=(O l++[255]).map E.byte:=by rw[hL];simp
  repeat'(first|(apply Zb (h6);kernel_rfl;(iterate 4 exact U))|(apply Zb (h7);kernel_rfl;(iterate 4 exact U))|(apply Zb (h10);kernel_rfl;(iterate 4 exact U))|(apply Zh Za;exact U)|(apply Zg Za;exact U)|(apply Zo Za;exact U)|(apply Ze;(iterate 3 exact U);(first|with_reducible assumption|decide +kernel|(solve|simp only[bn])))|(apply Zi;exact U;(first|with_reducible assumption|decide +kernel|(solve|simp only[bn]));exact U;exact U)|(apply Zf;exact U;(first|with_reducible assumption|decide +kernel|(solve|simp only[bn])))|refine Zm Za U U U U ?_|refine ZO Za U U U U U U U U U U U U ?_|(apply ZS Za;(iterate 6 exact U);(first|with_reducible assumption|decide +kernel|exact U|rotate_left);exact U;exact U;(first|exact Zk rfl|with_reducible assumption|decide +kernel|rotate_left);(first|exact Zk rfl|with_reducible assumption|decide +kernel|rotate_left);(first|exact Qt|rotate_left);(first|exact Qt|rotate_left);(first|exact Qt|rotate_left);exact U;exact U))
  all_goals first|((apply Zp [];(apply Zc Za;exact U);(iterate 4 exact U)))|skip
  all_goals first|rfl|(exact congrArg (fun l=>D.tup [.sl .ext l,.bool true]) hEn)|(first|rfl|(simp only[List.length_append,List.length_cons,List.length_nil,List.length_map,Zw];done)|(simp only[List.length_append,List.length_cons,List.length_nil,List.length_map,Zw]at *;(try unfold maxLen);(try simp only[Nat.add_mul]);omega))
 all_goals(simp only[List.length_cons,List.length_nil,List.length_map]at hO0 hO0l ⊢;(try unfold maxLen);(try simp only[Nat.add_mul]);omega)
end Go.Proofs.YtmljabhmajehnaaGreatDoor
end
