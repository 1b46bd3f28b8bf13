/- Package hop: the blocks that are sent on, if one tells the previous name. -/
import Derived.Test.YtmljabhmajehnaaGreatDoorT31
import Derived.Test.YtmljabhmajehnaaGreatDoorT30
import Derived.Test.YtmljabhmajehnaaGreatDoorT26
import Derived.Test.YtmljabhmajehnaaGreatDoorT15
import Derived.Test.YtmljabhmajehnaaGreatDoorT29
set_option linter.unusedVariables false
set_option linter.unusedSimpArgs false
section
open Go.RowKit Go.Pl Go.Av
namespace Go.Proofs.YtmljabhmajehnaaGreatDoor
set_option maxHeartbeats 4000000
theorem RS [Known][KnownU8](fl:Nat)(sum:Int)(di ri xi:Bool)(dn ds rn rs xn xs t q life:Nat)(dh dd rh rd xh xd:List UInt8)(bl:List BlkV)(si:Bool)(sn ss:Nat)(sh sd:List UInt8)(since now e:Int)
  (hK:AP Tryz.prog 50 [.agg [.int .u64 (fl:Int),.int .i64 sum,.bool di,.int .u64 (dn:Int),.int .u64 (ds:Int),.str dh,.str dd,.bool ri,.int .u64 (rn:Int),.int .u64 (rs:Int),.str rh,.str rd,.bool xi,.int .u64 (xn:Int),.int .u64 (xs:Int),.str xh,.str xd,.int .u64 (t:Int),.int .u64 (q:Int),.int .u64 (life:Int),.sl .ext (ZU bl)],.int .u64 since,.int .u64 now] (.int .i64 e) [])
  (hO:AP Tryz.prog 11 [.agg [.int .u64 (fl:Int),.int .i64 sum,.bool di,.int .u64 (dn:Int),.int .u64 (ds:Int),.str dh,.str dd,.bool ri,.int .u64 (rn:Int),.int .u64 (rs:Int),.str rh,.str rd,.bool xi,.int .u64 (xn:Int),.int .u64 (xs:Int),.str xh,.str xd,.int .u64 (t:Int),.int .u64 (q:Int),.int .u64 (life:Int),.sl .ext (ZU bl)],.int .u64 since,.int .u64 now] (.tup [.bool false,.int .i64 e]) []) (t1:(e==3)=false)
  (hE:AP Tryz.prog 51 [.agg [.bool si,.int .u64 (sn:Int),.int .u64 (ss:Int),.str sh,.str sd]] (.bool true) []) (t2:((si==false)&&(((sn:Int)==0)&&(((ss:Int)==0)&&((sh==[])&&((sd==[])&&true)))))=false) (t3:(e != 0)=false)
  (hS:AP Tryz.prog 52 [.agg [.int .u64 (fl:Int),.int .i64 sum,.bool di,.int .u64 (dn:Int),.int .u64 (ds:Int),.str dh,.str dd,.bool ri,.int .u64 (rn:Int),.int .u64 (rs:Int),.str rh,.str rd,.bool xi,.int .u64 (xn:Int),.int .u64 (xs:Int),.str xh,.str xd,.int .u64 (t:Int),.int .u64 (q:Int),.int .u64 (life:Int),.sl .ext (ZU bl)]] (.bool false) [])
  (hbl:bl.length<=1000) (hok:∀ c ∈ bl,XD c) (hfl:fl<18446744073709551616)
  (c0:BlkV) (hF:AP Tryz.prog 12 [.agg [.int .u64 (fl:Int),.int .i64 sum,.bool di,.int .u64 (dn:Int),.int .u64 (ds:Int),.str dh,.str dd,.bool ri,.int .u64 (rn:Int),.int .u64 (rs:Int),.str rh,.str rd,.bool xi,.int .u64 (xn:Int),.int .u64 (xs:Int),.str xh,.str xd,.int .u64 (t:Int),.int .u64 (q:Int),.int .u64 (life:Int),.sl .ext (ZU bl)],.int .u64 6] (UP (some c0)) []) (d:D) (hd:onD (Ur ⟨fl,sum,⟨di,dn,ds,dh,dd⟩,⟨ri,rn,rs,rh,rd⟩,⟨xi,xn,xs,xh,xd⟩,t,q,life⟩ (onC ⟨si,sn,ss,sh,sd⟩ (IntKind.u64.wrap (now-since)) [] bl))=d) :
  AP Tryz.prog 14 [.agg [.int .u64 (fl:Int),.int .i64 sum,.bool di,.int .u64 (dn:Int),.int .u64 (ds:Int),.str dh,.str dd,.bool ri,.int .u64 (rn:Int),.int .u64 (rs:Int),.str rh,.str rd,.bool xi,.int .u64 (xn:Int),.int .u64 (xs:Int),.str xh,.str xd,.int .u64 (t:Int),.int .u64 (q:Int),.int .u64 (life:Int),.sl .ext (ZU bl)],.agg [.bool si,.int .u64 (sn:Int),.int .u64 (ss:Int),.str sh,.str sd],.int .u64 since,.int .u64 now] d []:=by
 have hlen:=Wn bl
 have hU:=Qx bl
 generalize hFq:onC ⟨si,sn,ss,sh,sd⟩ (IntKind.u64.wrap (now-since)) [] bl=F at hd
 obtain⟨cty0,cnum0,cfl0,csum0,cdata0⟩:=c0
 dsimp only[UP]at hF
 refine AP.ofA (Zk Tryz.func14 Z Tryz.ntmps14 Z Z ?_)
 repeat'(first|(apply Zb (hK);kernel_rfl;(iterate 4 exact Z))|(apply Zb (hO);kernel_rfl;(iterate 4 exact Z))|(apply Zb (hE);kernel_rfl;(iterate 4 exact Z))|(apply Zb (hS);kernel_rfl;(iterate 4 exact Z))|(apply Zb (hF);kernel_rfl;(iterate 4 exact Z))|(apply Zh Za;exact Z)|(apply Ze Za;exact Z)|(apply Zq Za;exact Z)|refine Zg Z Z Z Qt ?_|refine Zi Z Qt Z Z ?_|refine Zf Z Qt ?_|refine Zm Za Z Z Z Z ?_|refine Wo Za Z Z Z Z Qk Qk Z Z Z ?_)
 show AW _ _ _ _
 refine ZW (fun f tm bx fr=>∃(i c:Nat) (acc:List BlkV) (f0:Fr),f+i=bl.length/\c=(ZU acc).length/\(∀ c ∈ acc,XD c)/\acc.length<=i+1/\onC ⟨si,sn,ss,sh,sd⟩ (IntKind.u64.wrap (now-since)) acc (bl.drop i)=F/\tm=[(2,.int .u64 since),(3,.int .u64 now),(4,.ptr 0 0),(5,.ptr 1 0),(8,.ptr 2 0),(13,.ptr 3 0),(83,.sl .ext (ZU bl)),(84,.int .i64 ((ZU bl).length:Int)),(85,.int .i64 (i:Int))] /\
   ((acc=[]/\bx=[[.int .u64 (fl:Int),.int .i64 sum,.bool di,.int .u64 (dn:Int),.int .u64 (ds:Int),.str dh,.str dd,.bool ri,.int .u64 (rn:Int),.int .u64 (rs:Int),.str rh,.str rd,.bool xi,.int .u64 (xn:Int),.int .u64 (xs:Int),.str xh,.str xd,.int .u64 (t:Int),.int .u64 (q:Int),.int .u64 (life:Int),.sl .ext (ZU bl)],[.bool si,.int .u64 (sn:Int),.int .u64 (ss:Int),.str sh,.str sd],[.int .u64 0,.int .i64 0,.bool false,.int .u64 0,.int .u64 0,.str [],.str [],.bool false,.int .u64 0,.int .u64 0,.str [],.str [],.bool false,.int .u64 0,.int .u64 0,.str [],.str [],.int .u64 0,.int .u64 0,.int .u64 0,.sl .nil []],[.int .u64 (fl:Int),.int .i64 sum,.bool di,.int .u64 (dn:Int),.int .u64 (ds:Int),.str dh,.str dd,.bool ri,.int .u64 (rn:Int),.int .u64 (rs:Int),.str rh,.str rd,.bool xi,.int .u64 (xn:Int),.int .u64 (xs:Int),.str xh,.str xd,.int .u64 (t:Int),.int .u64 (q:Int),.int .u64 (life:Int),.sl .nil []]]/\fr=[]) \/
   (bx=[[.int .u64 (fl:Int),.int .i64 sum,.bool di,.int .u64 (dn:Int),.int .u64 (ds:Int),.str dh,.str dd,.bool ri,.int .u64 (rn:Int),.int .u64 (rs:Int),.str rh,.str rd,.bool xi,.int .u64 (xn:Int),.int .u64 (xs:Int),.str xh,.str xd,.int .u64 (t:Int),.int .u64 (q:Int),.int .u64 (life:Int),.sl .ext (ZU bl)],[.bool si,.int .u64 (sn:Int),.int .u64 (ss:Int),.str sh,.str sd],[.int .u64 0,.int .i64 0,.bool false,.int .u64 0,.int .u64 0,.str [],.str [],.bool false,.int .u64 0,.int .u64 0,.str [],.str [],.bool false,.int .u64 0,.int .u64 0,.str [],.str [],.int .u64 0,.int .u64 0,.int .u64 0,.sl .nil []],[.int .u64 (fl:Int),.int .i64 sum,.bool di,.int .u64 (dn:Int),.int .u64 (ds:Int),.str dh,.str dd,.bool ri,.int .u64 (rn:Int),.int .u64 (rs:Int),.str rh,.str rd,.bool xi,.int .u64 (xn:Int),.int .u64 (xs:Int),.str xh,.str xd,.int .u64 (t:Int),.int .u64 (q:Int),.int .u64 (life:Int),.sl (.own 1) (ZU acc)]]/\fr=[f0,⟨c,5,40⟩]))) (bl.length+1) (Lands.mk' (m:=bl.length) (Nat.lt_succ_self _) ⟨0,0,[],default,by omega,rfl,by simp,by simp,hFq,rfl,.inl ⟨rfl,rfl,rfl⟩⟩ ?_ rfl rfl rfl rfl rfl rfl) ?_
 ·exact .cons rfl (.cons rfl (.cons rfl (.cons rfl (.cons rfl (.cons rfl (.cons rfl (.cons rfl (.cons rfl .nil))))))))
 rintro f tm bx fr ⟨i,c,acc,f0,hf,hc,hab,hal,hq,rfl,hst⟩
 rcases Nat.lt_or_ge i bl.length with hlt|hge
 ·have hdl:decide ((i:Int)<((ZU bl).length:Int))=true:=decide_eq_true (by omega)
  obtain⟨z,hy⟩:∃ y,bl[i]?=some y:=⟨_,List.getElem?_eq_getElem hlt⟩
  have hzo:=hok z (List.mem_of_getElem? hy)
  have hG:=XA z ⟨si,sn,ss,sh,sd⟩ (IntKind.u64.wrap (now-since)) (Nat.le_trans hzo.2 (by omega)) (GS (Nat.le_trans hzo.2 (by omega)))
  have hco:=Jp ⟨si,sn,ss,sh,sd⟩ (IntKind.u64.wrap (now-since)) hzo
  have hdr:bl.drop i=z::bl.drop (i+1):=by
   rw[List.drop_eq_getElem_cons hlt];congr 1
   exact(List.getElem?_eq_some_iff.1 hy).2
  rw[hdr,onC]at hq
  have ei:IntKind.i64.wrap ((i:Int)+1)=((i+1:Nat):Int):=by rw[IntWalk.i64_in _ (by omega)];omega
  have hv:=W3 hy
  generalize YO z ⟨si,sn,ss,sh,sd⟩ (IntKind.u64.wrap (now-since))=r at *
  obtain⟨cb,ok⟩:=r
  obtain⟨zty,znum,zfl,zsum,zdata⟩:=z
  dsimp only at hq hco
  cases ok with
  | false=>
   replace hG:AP Tryz.prog 55 _ (.tup [.agg (bkC cb),.bool false]) []:=hG
   dsimp only at hq
   subst hq
   dsimp only[Ur]at hd
   subst hd
   rcases hst with⟨rfl,rfl,rfl⟩ | ⟨rfl,rfl⟩
   ·repeat'(first|(apply Zb (hG);kernel_rfl;(iterate 4 exact Z))|(apply Zh Za;exact Z)|(apply Ze Za;exact Z)|(apply Zq Za;exact Z)|refine Zd Z Qt ?_|(apply Zu Za;(iterate 6 exact Z);(first|exact Qt|rotate_left);(first|with_reducible assumption|decide +kernel|exact Z);(first|exact Zj rfl|with_reducible assumption|decide +kernel|rotate_left)))
    all_goals exact Qe
   ·repeat'(first|(apply Zb (hG);kernel_rfl;(iterate 4 exact Z))|(apply Zh Za;exact Z)|(apply Ze Za;exact Z)|(apply Zq Za;exact Z)|refine Zd Z Qt ?_|(apply Zu Za;(iterate 6 exact Z);(first|exact Qt|rotate_left);(first|with_reducible assumption|decide +kernel|exact Z);(first|exact Zj rfl|with_reducible assumption|decide +kernel|rotate_left)))
    all_goals exact Qe
  | true=>
   replace hG:AP Tryz.prog 55 _ (.tup [.agg (bkC cb),.bool true]) []:=hG
   dsimp only at hq
   have hab2:∀ c ∈ acc++[cb],XD c:=fun c hc=>by
    rcases List.mem_append.1 hc with hc|hc
    ·exact hab c hc
    ·simp at hc;subst hc;exact hco
   have hU5:=Qx acc
   have hUc:=Qx [cb]
   subst hc
   have hbk:=Wn acc
   rcases hst with⟨rfl,rfl,rfl⟩ | ⟨rfl,rfl⟩
   ·repeat'(first|(apply Zb (hG);kernel_rfl;(iterate 4 exact Z))|rw[ei]|refine ZZ Za Z Z Z Z Z Z (Zj rfl) (List.cons_ne_nil _ _) Z Qd Qd Z Z Z ?_|(apply Zh Za;exact Z)|(apply Ze Za;exact Z)|refine Zd Z Qt ?_|refine Zf Z Qt ?_|refine ZT Za Z Z Z Z Z Z Z Z Z Z Z Z ?_|(apply Zu Za;(iterate 6 exact Z);(first|exact Qt|rotate_left);(first|with_reducible assumption|decide +kernel|exact Z);(first|exact Zj rfl|with_reducible assumption|decide +kernel|rotate_left)))
    refine Lands.mk' (m:=f-1) (by omega) ⟨i+1,1,[cb],_,by omega,rfl,hab2,by simp,hq,rfl,.inr ⟨rfl,rfl⟩⟩ ?_ rfl rfl rfl rfl rfl rfl
    exact .cons rfl (.cons rfl (.cons rfl (.cons rfl (.cons rfl (.cons rfl (.cons rfl (.cons rfl (.cons rfl .nil))))))))
   ·have hs:ZU acc++[bkE cb]=ZU (acc++[cb]):=(List.map_append (f:=bkE) (l₁:=acc) (l₂:=[cb])).symm
    repeat'(first|(apply Zb (hG);kernel_rfl;(iterate 4 exact Z))|rw[ei]|(apply Zh Za;exact Z)|(apply Ze Za;exact Z)|refine Zd Z Qt ?_|refine Zf Z Qt ?_|refine ZT Za Z Z Z Z Z Z Z Z Z Z Z Z ?_|(apply Z1 Za;(iterate 6 exact Z);(first|with_reducible assumption|decide +kernel|exact Z|rotate_left);exact Z;exact Z;(first|exact Zj rfl|with_reducible assumption|decide +kernel|rotate_left);(first|exact Zj rfl|with_reducible assumption|decide +kernel|rotate_left);(first|exact Qt|rotate_left);(first|exact Qt|rotate_left);(first|exact Qt|rotate_left);exact Z;exact Z)|(apply Zu Za;(iterate 6 exact Z);(first|exact Qt|rotate_left);(first|with_reducible assumption|decide +kernel|exact Z);(first|exact Zj rfl|with_reducible assumption|decide +kernel|rotate_left)))
    ·refine Lands.mk' (m:=f-1) (by omega) ⟨i+1,(ZU acc).length+1,acc++[cb],f0,by omega,by rw[<- hs,List.length_append];rfl,hab2,by simp;omega,hq,rfl,.inr ⟨by rw[<- hs],rfl⟩⟩ ?_ rfl rfl rfl rfl rfl rfl
     exact .cons rfl (.cons rfl (.cons rfl (.cons rfl (.cons rfl (.cons rfl (.cons rfl (.cons rfl (.cons rfl .nil))))))))
    all_goals(first|rfl|(simp only[List.length_append,List.length_cons,List.length_nil,List.length_map,Zw];done)|(simp only[List.length_append,List.length_cons,List.length_nil,List.length_map,Zw]at *;(try unfold maxLen);(try simp only[Nat.add_mul]);omega))
 ·have hdl:decide ((i:Int)<((ZU bl).length:Int))=false:=decide_eq_false (by omega)
  have hqn:F=some acc:=by
   rw[<- hq,List.drop_eq_nil_of_le hge,onC]
  subst hqn
  dsimp only[Ur]at hd
  have hRt:=VF ⟨⟨fl,sum,⟨di,dn,ds,dh,dd⟩,⟨ri,rn,rs,rh,rd⟩,⟨xi,xn,xs,xh,xd⟩,t,q,life⟩,acc⟩ ⟨hfl,by show acc.length<=_;omega,hab⟩
  cases t13:ZP ⟨⟨fl,sum,⟨di,dn,ds,dh,dd⟩,⟨ri,rn,rs,rh,rd⟩,⟨xi,xn,xs,xh,xd⟩,t,q,life⟩,acc⟩ with
  | false=>
   rw[t13]at hRt hd
   dsimp only at hd
   subst hd
   rcases hst with⟨rfl,rfl,rfl⟩ | ⟨rfl,rfl⟩
   ·repeat'(first|(apply Zb (hRt);kernel_rfl;(iterate 4 exact Z))|(apply Zh Za;exact Z)|(apply Ze Za;exact Z)|(apply Zq Za;exact Z)|refine Zd Z Qt ?_|refine Zf Z Qt ?_)
    all_goals exact Qe
   ·repeat'(first|(apply Zb (hRt);kernel_rfl;(iterate 4 exact Z))|(apply Zh Za;exact Z)|(apply Ze Za;exact Z)|(apply Zq Za;exact Z)|refine Zd Z Qt ?_|refine Zf Z Qt ?_)
    all_goals exact Qe
  | true=>
   rw[t13]at hRt hd
   dsimp only at hd
   subst hd
   rcases hst with⟨rfl,rfl,rfl⟩ | ⟨rfl,rfl⟩
   ·repeat'(first|(apply Zb (hRt);kernel_rfl;(iterate 4 exact Z))|(apply Zh Za;exact Z)|(apply Ze Za;exact Z)|(apply Zq Za;exact Z)|refine Zf Z Qt ?_)
    all_goals exact Qe
   ·repeat'(first|(apply Zb (hRt);kernel_rfl;(iterate 4 exact Z))|(apply Zh Za;exact Z)|(apply Ze Za;exact Z)|(apply Zq Za;exact Z)|refine Zf Z Qt ?_)
    all_goals exact Qe
theorem Q7 (b:BunV)(since now:Int):(VO b since now).2=VH b since now:=by
 unfold VO
 split
 ·rfl
 ·rename_i h;simpa using(by simpa using h:VH b since now=0).symm
theorem Nq [Known][KnownU8](b:BunV)(hb:BunOk b)(h1000:b.bl.length<=1000)(self:EidV)(since now:Int):AP Tryz.prog 14 [.agg (bnC b),.agg (eC self),.int .u64 since,.int .u64 now] (onD (onH b self since now)) []:=by
 have hK:=GQ b hb since now
 have hO:=Id b hb since now
 rw[Q7]at hO
 have hE:=WY self
 have hS:=HO b hb
 have hN:=I6 b hb
 have hP:AP Tryz.prog 53 [.int .u64 (JJ b.bl:Int),.int .i64 0,.agg (eC self)] (K2 (ofV 6 (JJ b.bl) 0 (if ZJ self then Z8 self else .mk 0 0 [] []) (if ZJ self then 0 else 3))) []:=KC (JJ b.bl) 0 self
 have hF:=Q3 b 6 hb.len (fun c hc=>Nat.le_trans (hb.bl c hc).2 (by omega))
 have hpo:=Np b self
 have hfl:=hb.fl
 have hbl:∀ c ∈ b.bl,XD c:=hb.bl
 unfold onH Q5
 have hpe:(ofV 6 (JJ b.bl) 0 (if ZJ self then Z8 self else .mk 0 0 [] []) (if ZJ self then 0 else 3)).1=XC b self:=rfl
 generalize XC b self=pb at *
 generalize (ofV 6 (JJ b.bl) 0 (if ZJ self then Z8 self else .mk 0 0 [] []) (if ZJ self then 0 else 3))=pr at *
 subst hpe
 generalize JJ b.bl=nn at *
 generalize VH b since now=e at *
 generalize V8 b since now=ov at *
 generalize WN b=sp at *
 generalize ZJ self=er at *
 clear hb
 obtain⟨⟨fl,sum,⟨di,dn,ds,dh,dd⟩,⟨ri,rn,rs,rh,rd⟩,⟨xi,xn,xs,xh,xd⟩,t,q,life⟩,bl⟩:=b
 obtain⟨si,sn,ss,sh,sd⟩:=self
 dsimp only at *
 cases t1:(e==3) with
 | true=>exact RL (si:=si) (sn:=sn) (ss:=ss) (sh:=sh) (sd:=sd) (hK:=hK) (hO:=hO) (t1:=t1)
 | false=>
 cases er with
 | false=>exact RM (hK:=hK) (hO:=hO) (t1:=t1) (hE:=hE)
 | true=>
 cases t2:zE ⟨si,sn,ss,sh,sd⟩ with
 | true=>exact RN (hK:=hK) (hO:=hO) (t1:=t1) (hE:=hE) (t2:=t2)
 | false=>
 cases t3:(e != 0) with
 | true=>exact RO (hK:=hK) (hO:=hO) (t1:=t1) (hE:=hE) (t2:=t2) (t3:=t3)
 | false=>
 cases ov with
 | true=>exact RP (hK:=hK) (hO:=hO) (t1:=t1) (hE:=hE) (t2:=t2) (t3:=t3)
 | false=>
 cases sp with
 | true=>exact RQ (hK:=hK) (hO:=hO) (t1:=t1) (hE:=hE) (t2:=t2) (t3:=t3) (hS:=hS)
 | false=>
 obtain⟨pb,pe⟩:=pr
 cases hf:bl.find? (WO 6) with
 | none=>
  rw[hf]at hF
  exact RR (hK:=hK) (hO:=hO) (t1:=t1) (hE:=hE) (t2:=t2) (t3:=t3) (hS:=hS) (hbl:=h1000) (hok:=hbl) (hfl:=hfl) (hpre:=hpo) (hN:=hN) (hP:=hP) (hF:=hF) (hd:=rfl)
 | some c=>
  rw[hf]at hF
  exact RS (hK:=hK) (hO:=hO) (t1:=t1) (hE:=hE) (t2:=t2) (t3:=t3) (hS:=hS) (hbl:=h1000) (hok:=hbl) (hfl:=hfl) (hF:=hF) (hd:=rfl)
theorem Lw (c:BlkV):UQ c<=1099511627776:=by
 unfold UQ
 split
 ·omega
 ·rename_i h
  have h0:Wq c 7=0:=by simpa using h
  unfold Wq at h0
  split at h0
  ·simp at h0
  ·rename_i hty
   split at h0
   ·simp at h0
   ·rename_i hr
    have hty:(c.ty:Int)=7:=by simpa using hty
    unfold Yb at hr
    simp only[Bool.and_eq_true]at hr
    have hd:=hr.2.2.2.2
    unfold Xm at hd
    rw[Bool.and_eq_true]at hd
    have hk:=hd.1
    unfold T1 at hk
    rw[hty]at hk
    have hk:(JI c.data).2=true:=hk
    unfold JI at hk ⊢
    simp only[Bool.and_eq_true,decide_eq_true_eq]at hk
    dsimp only
    omega
theorem Mz (b:BunV):XO b<=1099511627776:=by
 unfold XO
 split
 ·exact Lw _
 ·omega
theorem Ii {b:BunV}(h:ZP b=true):b.p.life<=1099511627776/\b.p.t<=1099511627776:=by
 unfold ZP UN at h
 simp only[Bool.and_eq_true,beq_iff_eq]at h
 obtain⟨hr,_⟩:=YL (p:=b.p) (x:=(Ym b.p).1) (Prod.ext rfl h.2.1.1)
 obtain⟨_,_,_,_,h5,h6⟩:=VA hr
 exact⟨h6,(Ws.1 h5).2.1⟩
def Nr (t life past now:Nat):Nat:=if 0<t then(if now<t then life+(t-now) else life-(now-t)) else life-past
theorem Ns {t life old since now:Nat}(h1:t<=1099511627776)(h2:life<=1099511627776)(h3:old<=1099511627776)(h4:since<=now)(h5:now<=1099511627776) :
  KB t life (old:Int) (IntKind.u64.wrap ((now:Int)-(since:Int))) (now:Int)=(Nr t life (old+(now-since)) now:Int):=by
 have e1:IntKind.u64.wrap ((now:Int)-(since:Int))=(now:Int)-since:=IntWalk.u64_in _ (by omega)
 rw[e1]
 have e2:IntKind.u64.wrap ((old:Int)+((now:Int)-since))=(old:Int)+(now-since):=IntWalk.u64_in _ (by omega)
 unfold KB Nr
 rw[e2]
 split
 ·rename_i c1
  have c1:=of_decide_eq_true c1
  rw[if_pos (by omega)]
  split
  ·rename_i c2
   have c2:=of_decide_eq_true c2
   rw[if_pos (by omega),IntWalk.u64_in ((t:Int)-now) (by omega),IntWalk.u64_in _ (by omega)]
   omega
  ·rename_i c2
   have c2:=of_decide_eq_false c2
   have e3:IntKind.u64.wrap ((now:Int)-(t:Int))=(now:Int)-t:=IntWalk.u64_in _ (by omega)
   rw[if_neg (by omega),e3]
   split
   ·rename_i c3
    have c3:=of_decide_eq_true c3
    omega
   ·rename_i c3
    have c3:=of_decide_eq_false c3
    rw[IntWalk.u64_in _ (by omega)]
    omega
 ·rename_i c1
  have c1:=of_decide_eq_false c1
  rw[if_neg (by omega)]
  split
  ·rename_i c3
   have c3:=of_decide_eq_true c3
   omega
  ·rename_i c3
   have c3:=of_decide_eq_false c3
   rw[IntWalk.u64_in _ (by omega)]
   omega
theorem Nt {b:BunV}{since now:Nat}(h:ZP b=true)(h4:since<=now)(h5:now<=1099511627776):VO b since now=((Nr b.p.t b.p.life (XO b+(now-since)) now:Int),0):=by
 have ha:VH b since now=0:=by
  unfold VH
  rw[h]
  have c1:decide ((since:Int)>(now:Int))=false:=decide_eq_false (by omega)
  have c2:decide ((now:Int)>1099511627776)=false:=decide_eq_false (by omega)
  rw[c1,c2]
  rfl
 unfold VO
 rw[ha]
 obtain⟨h1,h2⟩:=Ii h
 have:=Ns (old:=XO b) h2 h1 (Mz b) h4 h5
 rw[show((0:Int) != 0)=false from rfl]
 dsimp only
 rw[this]
theorem Ij {b:BunV}{since now:Nat}(he:(VO b since now).2=0):ZP b=true/\since<=now:=by
 rw[Q7]at he
 unfold VH at he
 cases hr:ZP b with
 | false=>rw[hr]at he;simp at he
 | true=>
  rw[hr]at he
  dsimp only at he
  cases c:(decide ((since:Int)>(now:Int))||decide ((now:Int)>1099511627776)) with
  | true=>rw[c]at he;simp at he
  | false=>
   rw[Bool.or_eq_false_iff,decide_eq_false_iff_not]at c
   exact⟨rfl,by omega⟩
abbrev chB (self:EidV)(here:Int)(c:BlkV):BlkV:=(YO c self here).1
theorem GT (self:EidV)(here:Int):∀ {bl acc l:List BlkV},onC self here acc bl=some l->l=acc++bl.map (chB self here)/\∀ c ∈ bl,(YO c self here).2=true
 | [],acc,l,h=>by rw[onC]at h;cases h;simp
 | c::r,acc,l,h=>by
  rw[onC]at h
  cases hc:(YO c self here).2 with
  | false=>rw[hc]at h;cases h
  | true=>
   rw[hc]at h
   obtain⟨h1,h2⟩:=GT self here h
   refine⟨by rw[h1];simp[chB],fun y hy=>?_⟩
   rcases List.mem_cons.1 hy with rfl|hy
   ·exact hc
   ·exact h2 y hy
theorem XG {c:BlkV}{self:EidV}{here:Int}(h:(YO c self here).2=true) :
  (c.ty=6/\ZJ self=true/\chB self here c=⟨6,c.num,c.fl,c.sum,ZH (Z8 self)⟩) \/
  (c.ty=7/\chB self here c=⟨7,c.num,c.fl,c.sum,ZH (.mk 0 (WQ (UQ c:Int) here) [] [])⟩) \/
  (c.ty=10/\chB self here c=⟨10,c.num,c.fl,c.sum,ZH (Ut (Uu c) (WQ (U8 c:Int) 1))⟩) \/
  (c.ty ≠ 6/\c.ty ≠ 7/\c.ty ≠ 10/\chB self here c=c):=by
 unfold chB
 unfold YO at h ⊢
 cases t1:((c.ty:Int)==6) with
 | true=>
  rw[t1]at h
  have h0:(Xz c self).2=0:=by simpa[Q4]using h
  obtain⟨he,hr1,_,hp⟩:=U2 (p:=(Xz c self).1) (Prod.ext rfl h0)
  have hx:ZJ self=true:=by
   cases hx:ZJ self with
   | true=>rfl
   | false=>rw[hx]at he;simp at he
  rw[hx]at hp
  have hty : c.ty = 6 := by have : (c.ty : Int) = 6 := by simpa using t1
                            omega
  exact .inl ⟨hty,hx,by simp only[Q4];rw[hp];rfl⟩
 | false=>
 rw[t1]at h
 have n6:c.ty ≠ 6:=fun e=>by rw[e]at t1;simp at t1
 cases t2:((c.ty:Int)==7) with
 | true=>
  rw[t2]at h
  have h0:(ofV 7 c.num c.sum (.mk 0 (WQ (UQ c:Int) here) [] []) 0).2=0:=by simpa[Q4]using h
  obtain⟨_,_,_,hp⟩:=U2 (p:=(ofV 7 c.num c.sum (.mk 0 (WQ (UQ c:Int) here) [] []) 0).1) (Prod.ext rfl h0)
  have hty : c.ty = 7 := by have : (c.ty : Int) = 7 := by simpa using t2
                            omega
  exact .inr (.inl ⟨hty,by simp only[Q4];rw[hp]⟩)
 | false=>
 rw[t2]at h
 have n7:c.ty ≠ 7:=fun e=>by rw[e]at t2;simp at t2
 cases t3:((c.ty:Int)==10) with
 | true=>
  rw[t3]at h
  have h0:(ofV 10 c.num c.sum (Ut (Uu c) (WQ (U8 c:Int) 1)) 0).2=0:=by simpa[Q4]using h
  obtain⟨_,_,_,hp⟩:=U2 (p:=(ofV 10 c.num c.sum (Ut (Uu c) (WQ (U8 c:Int) 1)) 0).1) (Prod.ext rfl h0)
  have hty : c.ty = 10 := by have : (c.ty : Int) = 10 := by simpa using t3
                             omega
  exact .inr (.inr (.inl ⟨hty,by simp only[Q4];rw[hp]⟩))
 | false=>
  have n10:c.ty ≠ 10:=fun e=>by rw[e]at t3;simp at t3
  exact .inr (.inr (.inr ⟨n6,n7,n10,rfl⟩))
theorem MS {c:BlkV}{self:EidV}{here:Int}(h:(YO c self here).2=true):(chB self here c).ty=c.ty:=by
 rcases XG h with⟨e,_,h⟩ | ⟨e,h⟩ | ⟨e,h⟩ | ⟨_,_,_,h⟩<;>rw[h]<;>simp[e]
theorem Nu {c:BlkV}{k:Nat}(hr:Yb c=true)(ht:c.ty=k):Wq c k=0:=by
 unfold Wq
 rw[hr,ht]
 simp
theorem Ik {self:EidV}{here:Int}{k:Nat}:∀ {bl:List BlkV},(∀ c ∈ bl,(YO c self here).2=true)->(bl.map (chB self here)).find? (WO k)=(bl.find? (WO k)).map (chB self here)
 | [],_=>rfl
 | c::bl,h=>by
  have ht:=MS (h c (List.mem_cons_self ..))
  have ih:=Ik (k:=k) (fun y hy=>h y (List.mem_cons_of_mem c hy))
  have e:WO k (chB self here c)=WO k c:=by unfold WO;rw[ht]
  rw[List.map_cons,List.find?_cons,List.find?_cons,e]
  cases WO k c with
  | true=>rfl
  | false=>exact ih
theorem GU {k:Nat}{c:BlkV}(h:WO k c=true):c.ty=k:=by
 have:(c.ty:Int)=(k:Int):=by simpa[WO]using h
 omega
structure Sent (b out:BunV) (sf:EidV) (since now:Nat):Prop where
 right:ZP out=true
 p:out.p=b.p
 bl:out.bl=Q5 b sf++b.bl.map (chB sf (IntKind.u64.wrap ((now:Int)-(since:Int))))
 ch:∀ c ∈ b.bl,(YO c sf (IntKind.u64.wrap ((now:Int)-(since:Int)))).2=true
 was:ZP b=true
 le:since<=now
 top:now<=1099511627776
 er:ZJ sf=true
 ze:zE sf=false
 over:V8 b since now=false
 spent:WN b=false
theorem Nv {p:PriV}{o:Option (List BlkV)}{out:BunV}(h:Ur p o=(out,0)):∃ l,o=some l/\ZP ⟨p,l⟩=true/\out=⟨p,l⟩:=by
 unfold Ur at h
 cases o with
 | none=>simp at h
 | some l=>
  dsimp only at h
  cases hr:ZP ⟨p,l⟩ with
  | false=>rw[hr]at h;simp at h
  | true=>rw[hr]at h;simp at h;exact⟨l,rfl,hr,h.symm⟩
theorem MA {b out:BunV}{self:EidV}{since now:Nat}(h:onH b self since now=(out,0)):Sent b out self since now:=by
 unfold onH at h
 cases c1:((VH b since now==3)||(!ZJ self||zE self)) with
 | true=>rw[c1]at h;simp at h
 | false=>
 rw[c1]at h
 dsimp only at h
 cases c2:(VH b since now != 0) with
 | true=>
  rw[c2]at h
  dsimp only at h
  have c2:VH b since now ≠ 0:=by simpa using c2
  simp at h;exact(c2 h.2).elim
 | false=>
 rw[c2]at h
 dsimp only at h
 cases c3:V8 b since now with
 | true=>rw[c3]at h;simp at h
 | false=>
 rw[c3]at h
 dsimp only at h
 cases c4:WN b with
 | true=>rw[c4]at h;simp at h
 | false=>
 rw[c4]at h
 dsimp only at h
 obtain⟨l,hl,hr,rfl⟩:=Nv h
 obtain⟨m1,m2⟩:=GT _ _ hl
 simp only[Bool.or_eq_false_iff,Bool.not_eq_false']at c1
 have ha:VH b since now=0:=by simpa using c2
 have hR:(VO b since now).2=0:=by rw[Q7];exact ha
 obtain⟨w1,w2⟩:=Ij hR
 have top:now<=1099511627776:=by
  unfold VH at ha
  rw[w1]at ha
  dsimp only at ha
  cases c:(decide ((since:Int)>(now:Int))||decide ((now:Int)>1099511627776)) with
  | true=>rw[c]at ha;simp at ha
  | false=>
   rw[Bool.or_eq_false_iff,decide_eq_false_iff_not,decide_eq_false_iff_not]at c
   omega
 exact⟨hr,rfl,m1,m2,w1,w2,top,c1.2.1,c1.2.2,c3,c4⟩
theorem HS {p:PriV}{o:Option (List BlkV)}:Ur p o=(bn0,3)\/∃ l,Ur p o=(⟨p,l⟩,0):=by
 unfold Ur
 repeat' split
 ·exact .inl rfl
 ·exact .inr ⟨_,rfl⟩
 ·exact .inl rfl
theorem Nw {b:BunV}(hb:BunOk b){out:BunV}{self:EidV}{since now:Nat}(h:Sent b out self since now):BunOk out:=by
 refine⟨by rw[h.p];exact hb.fl,by have:=(Yi (Bool.and_eq_true_iff.1 h.right).1).1;omega,fun c hc=>?_⟩
 rw[h.bl]at hc
 rcases List.mem_append.1 hc with hc|hc
 ·unfold Q5 at hc
  split at hc
  ·simp at hc
  ·simp at hc;subst hc;exact Np b self
 ·obtain⟨y,hy,rfl⟩:=List.mem_map.1 hc
  exact Jp self _ (hb.bl y hy)
theorem I7 {b out:BunV}{self:EidV}{since now:Nat}(h:Sent b out self since now){c:BlkV}(hc:c ∈ b.bl):Yb (chB self (IntKind.u64.wrap ((now:Int)-(since:Int))) c)=true:=
 (Yi (Bool.and_eq_true_iff.1 h.right).1).2 _ (by rw[h.bl];exact List.mem_append_right _ (List.mem_map_of_mem hc))
theorem Lx {z:It}(hw:wfI z):(WP z).1.fl<18446744073709551616:=by
 have hsub:=UL z 3
 have hws:wfs z.l:=by obtain⟨k,n,b,l⟩:=z;exact hw.2.2.2
 unfold WP
 generalize VM z 3=o at *
 have h0:bk0.fl<18446744073709551616:=by decide
 unfold O7
 split
 ·exact h0
 ·split
  ·rename_i heq
   rw[heq]at hsub
   split
   ·exact h0
   ·split
    ·exact h0
    ·split
     ·exact h0
     ·exact GO (Yr hws _ (hsub _ (List.mem_cons_of_mem _ (List.mem_cons_of_mem _ (List.mem_cons_self ..)))))
  ·exact h0
theorem KE:∀ {l:List It} {bl:List BlkV},wfs l->Wg l=.ok bl->∀ c ∈ bl,c.fl<18446744073709551616
 | [],bl,_,h,c,hc=>by rw[Wg]at h;cases h;simp at hc
 | y::r,bl,hw,h,c,hc=>by
  rw[Wg]at h
  split at h
  ·cases h
  ·split at h
   ·cases h
   ·rename_i l hr
    cases h
    rcases List.mem_cons.1 hc with rfl|hc
    ·exact Lx hw.1
    ·exact KE hw.2 hr c hc
theorem MB {x:List UInt8}(hx:x.length<=3000){c:BunV}(h:VD x=(c,0)):BunOk c:=by
 have hr:=Xt h
 unfold ZP at hr
 rw[Bool.and_eq_true]at hr
 obtain⟨h8,hb⟩:=Yi hr.1
 have key:c.p.fl<18446744073709551616/\∀ y ∈ c.bl,y.fl<18446744073709551616:=by
  unfold VD at h
  split at h
  ·simp at h
  ·rcases Km x (by omega) with⟨e,he,hi,_⟩ | ⟨y,n,hi,hw,_⟩
   ·rw[hi]at h
    have te:((e:Int) != 0)=true:=by simpa using he
    dsimp only at h
    rw[te]at h
    simp only[Prod.mk.injEq]at h
    exact absurd h.2 (by omega)
   ·rw[hi]at h
    dsimp only at h
    rw[show(((0:Nat):Int) != 0)=false from rfl]at h
    dsimp only at h
    split at h
    ·simp at h
    ·unfold Ib at h
     obtain⟨k,n2,b,l⟩:=y
     have hws:wfs l:=hw.2.2.2
     dsimp only at h
     split at h
     ·simp at h
     ·split at h
      ·simp at h
      ·split at h
       ·rename_i t
        simp only[Prod.mk.injEq]at h
        rw[h.2]at t
        cases t
       ·split at h
        ·rename_i e he
         simp only[Prod.mk.injEq]at h
         exact absurd h.2 (Qw he)
        ·rename_i bl he
         split at h
         ·simp at h
         ·simp only[Prod.mk.injEq,and_true]at h
          subst h
          exact⟨MR hws.1,KE hws.2 he⟩
 exact⟨key.1,by omega,fun y hy=>⟨key.2 y hy,Nat.le_trans (Xv (hb y hy)) (by omega)⟩⟩
theorem MC (a b:List UInt8):(a==b)=(b==a):=by
 rw[Bool.eq_iff_iff,beq_iff_eq,beq_iff_eq];exact eq_comm
theorem I8 [Known][KnownU8](x:List UInt8)(hx:x.length<=3000):AP Tryz.prog 43 [byE x] (.bool (JO x)) []:=by
 have hR:=KD x hx
 unfold JO
 rcases hr:VD x with⟨c,e⟩
 rw[hr]at hR
 dsimp only[bnR]at hR ⊢
 by_cases he:e=0
 case neg=>
  have te:(e != 0)=true:=by simpa using he
  have te2:(e==0)=false:=by simpa using he
  rw[te2,Bool.false_and]
  obtain⟨⟨fl,sum,⟨di,dn,ds,dh,dd⟩,⟨ri,rn,rs,rh,rd⟩,⟨xi,xn,xs,xh,xd⟩,t,q,life⟩,bl⟩:=c
  try dsimp only at *
  refine AP.ofA (Zk Tryz.func43 Z Tryz.ntmps43 Z Z ?_)
  repeat'(first|(apply Zb (hR);kernel_rfl;(iterate 4 exact Z))|(apply Zh Za;exact Z)|(apply Ze Za;exact Z)|(apply Zq Za;exact Z)|refine Zd Z Qt ?_)
  all_goals exact Qe
 subst he
 have hW:=Um c (MB hx hr)
 unfold V7 at hW
 rw[Xt hr]at hW
 have hE:=KW x (Y6 c)
 rw[show((0:Int)==0)=true from rfl,Bool.true_and,MC]
 clear hr
 generalize Y6 c=pb at *
 obtain⟨⟨fl,sum,⟨di,dn,ds,dh,dd⟩,⟨ri,rn,rs,rh,rd⟩,⟨xi,xn,xs,xh,xd⟩,t,q,life⟩,bl⟩:=c
 try dsimp only at *
 refine AP.ofA (Zk Tryz.func43 Z Tryz.ntmps43 Z Z ?_)
 repeat'(first|(apply Zb (hR);kernel_rfl;(iterate 4 exact Z))|(apply Zb (hW);kernel_rfl;(iterate 4 exact Z))|(apply Zb (hE);kernel_rfl;(iterate 4 exact Z))|(apply Zh Za;exact Z)|(apply Ze Za;exact Z)|refine Zg Z Z Z Qt ?_|refine Zl Z Qt Z Z ?_|refine Zf Z Qt ?_)
 all_goals exact Qe
def Il (b:BunV):List UInt8:=match b.bl[b.bl.length-1]? with
 | some c=>c.data
 | none=>[]
theorem Nx [Known](b:BunV)(hb:BunOk b):AP Tryz.prog 10 [.agg (bnC b)] (byE (Il b)) []:=by
 have hlen:=Wn b.bl
 have hU:=Qx b.bl
 unfold Il
 obtain⟨_,hl,hbl⟩:=hb
 cases hlast:b.bl[b.bl.length-1]? with
 | none=>
  have h0:b.bl.length=0:=by have:=List.getElem?_eq_none_iff.1 hlast;omega
  have t1:(((ZU b.bl).length:Int)==0)=true:=by rw[hlen,h0];rfl
  obtain⟨⟨fl,sum,⟨di,dn,ds,dh,dd⟩,⟨ri,rn,rs,rh,rd⟩,⟨xi,xn,xs,xh,xd⟩,t,q,life⟩,bl⟩:=b
  try dsimp only at *
  refine AP.ofA (Zk Tryz.func10 Z Tryz.ntmps10 Z Z ?_)
  repeat'(first|(apply Zh Za;exact Z)|(apply Ze Za;exact Z)|(apply Zq Za;exact Z)|refine Zd Z Qt ?_|refine Zm Za Z Z Z Z ?_)
  all_goals exact Qe
 | some c=>
 have hlt:=(List.getElem?_eq_some_iff.1 hlast).1
 have hv:=W3 hlast
 rw[show((b.bl.length-1:Nat):Int)=(b.bl.length:Int)-1 from by omega]at hv
 have t1:(((ZU b.bl).length:Int)==0)=false:=by rw[hlen];exact beq_eq_false_iff_ne.2 (by omega)
 have en:IntKind.i64.wrap (((ZU b.bl).length:Int)-1)=(b.bl.length:Int)-1:=by rw[IntWalk.i64_in _ (by omega)];omega
 have i0:(0:Int)<=(b.bl.length:Int)-1:=by omega
 have hC:=WW c.data (by have:=(hbl c (List.mem_of_getElem? hlast)).2;omega)
 obtain⟨⟨fl,sum,⟨di,dn,ds,dh,dd⟩,⟨ri,rn,rs,rh,rd⟩,⟨xi,xn,xs,xh,xd⟩,t,q,life⟩,bl⟩:=b
 try dsimp only at *
 refine AP.ofA (Zk Tryz.func10 Z Tryz.ntmps10 Z Z ?_)
 repeat'(first|rw[en]|(apply Zb (hC);kernel_rfl;(iterate 4 exact Z))|(apply Zh Za;exact Z)|(apply Ze Za;exact Z)|(apply Zq Za;exact Z)|refine Zf Z Qt ?_|refine Zm Za Z Z Z Z ?_|(apply Zu Za;(iterate 6 exact Z);(first|exact Qt|rotate_left);(first|with_reducible assumption|decide +kernel|exact Z);(first|exact Zj rfl|with_reducible assumption|decide +kernel|rotate_left)))
 all_goals exact Qe
theorem Im {self:EidV}(h:ZJ self=true):(V4 (ZH (Z8 self))).1=self:=by
 unfold V4
 dsimp only
 rw[IR (Vx h) (Va h)]
 dsimp only
 rw[VN h (Va h)]
theorem HT {b out:BunV}{self:EidV}{since now:Nat}(h:Sent b out self since now):∃ c,out.bl.find? (WO 6)=some c/\Wq c 6=0/\(V4 c.data).1=self:=by
 have hall:=(Yi (Bool.and_eq_true_iff.1 h.right).1).2
 cases hf:b.bl.find? (WO 6) with
 | some c=>
  have hm:=List.mem_of_find?_eq_some hf
  have ht:=GU (List.find?_some hf)
  have e:out.bl.find? (WO 6)=some (chB self (IntKind.u64.wrap ((now:Int)-(since:Int))) c):=by
   rw[h.bl]
   unfold Q5
   rw[hf]
   show(b.bl.map _).find? _=_
   rw[Ik h.ch,hf]
   rfl
  refine⟨_,e,Nu (I7 h hm) ((MS (h.ch c hm)).trans ht),?_⟩
  rcases XG (h.ch c hm) with⟨_,_,h1⟩ | ⟨e,_⟩ | ⟨e,_⟩ | ⟨e,_⟩
  ·rw[h1];exact Im h.er
  ·omega
  ·omega
  ·exact(e ht).elim
 | none=>
  have hb:out.bl=XC b self::b.bl.map (chB self (IntKind.u64.wrap ((now:Int)-(since:Int)))):=by
   rw[h.bl]
   unfold Q5
   rw[hf]
   rfl
  have hr:=hall (XC b self) (by rw[hb];exact List.mem_cons_self ..)
  have hp:XC b self=⟨6,JJ b.bl,0,0,ZH (Z8 self)⟩:=by
   unfold XC at hr ⊢
   rw[h.er]at hr ⊢
   rcases IZ (kind:=6) (ZN:=JJ b.bl) (sum:=0) (x:=if true=true then Z8 self else .mk 0 0 [] []) (e:=if true=true then 0 else 3) with h1|h1
   ·obtain⟨_,_,_,hp⟩:=U2 (p:=(ofV 6 (JJ b.bl) 0 (if true=true then Z8 self else .mk 0 0 [] []) (if true=true then 0 else 3)).1) (Prod.ext rfl h1)
    rw[hp];rfl
   ·rw[h1]at hr
    exact absurd hr (by decide)
  refine⟨XC b self,?_,Nu hr (by rw[hp]),by rw[hp];exact Im h.er⟩
  rw[hb,List.find?_cons,show WO 6 (XC b self)=true from by rw[hp];rfl]
theorem Ny {b out:BunV}{self:EidV}{since now:Nat}(h:Sent b out self since now):Il out=Il b:=by
 have hfit:=(Bool.and_eq_true_iff.1 h.was).1
 unfold XN at hfit
 rw[List.getLast?_eq_getElem?]at hfit
 unfold Il
 cases hl:b.bl[b.bl.length-1]? with
 | none=>rw[hl]at hfit;cases hfit
 | some c=>
  rw[hl]at hfit
  simp only[Bool.and_eq_true,beq_iff_eq]at hfit
  have hty:c.ty=1:=hfit.2.1
  have hlt:=(List.getElem?_eq_some_iff.1 hl).1
  have hm:=List.mem_of_getElem? hl
  have hch:chB self (IntKind.u64.wrap ((now:Int)-(since:Int))) c=c:=by
   rcases XG (h.ch c hm) with⟨e,_⟩ | ⟨e,_⟩ | ⟨e,_⟩ | ⟨_,_,_,e⟩
   ·omega
   ·omega
   ·omega
   ·exact e
  have e:out.bl[out.bl.length-1]?=some c:=by
   rw[h.bl,List.length_append,List.length_map,List.getElem?_append_right (by omega),show(Q5 b self).length+b.bl.length-1-(Q5 b self).length=b.bl.length-1 from by omega,List.getElem?_map,hl]
   exact congrArg some hch
  rw[e]
theorem Nz {b:BunV}{since now:Nat}(h:ZP b=true)(h4:since<=now)(h5:now<=1099511627776):VH b since now=0:=by
 rw[<- Q7,Nt h h4 h5]
theorem Ly {b:BunV}{self:EidV}{since now:Int}(ha:VH b since now=0)(ho:V8 b since now=false)(hs:WN b=false):onH b self since now=(bn0,3)\/∃ out,onH b self since now=(out,0):=by
 unfold onH
 rw[ha,ho,hs]
 split
 ·exact .inl rfl
 ·rw[show((0:Int) != 0)=false from rfl]
  dsimp only
  rcases HS (p:=b.p) (o:=onC self (IntKind.u64.wrap (now-since)) (Q5 b self) b.bl) with h|⟨l,h⟩
  ·exact .inl h
  ·exact .inr ⟨_,h⟩
theorem MD {b:BunV}{self:EidV}{since now:Int}(ha:VH b since now=0)(ho:V8 b since now=false)(hs:WN b=true):onH b self since now=match(!ZJ self||zE self) with
  | true=>(bn0,3)
  | false=>(bn0,19):=by
 unfold onH
 rw[ha,ho,hs]
 rw[show((0:Int)==3)=false from rfl,Bool.false_or]
 cases(!ZJ self||zE self)<;>rfl
structure OnWay (b:BunV) (L i now:Nat):Prop where
 ok:BunOk b
 right:ZP b=true
 over:V8 b now now=false
 hops:∃ c,b.bl.find? (WO 10)=some c/\Uu c=L/\U8 c=i/\Wq c 10=0
theorem NA {b:BunV}{s n:Nat}{self:EidV}(hr:ZP b=true)(h1:s<=n)(h2:n<=1099511627776)(hE:ZJ self=true)(hz:zE self=false) :
  (V8 b s n=true/\onH b self s n=(bn0,18))\/(V8 b s n=false/\WN b=true/\onH b self s n=(bn0,19))\/(V8 b s n=false/\WN b=false/\(onH b self s n=(bn0,3)\/∃ out,onH b self s n=(out,0))):=by
 have ha:=Nz hr h1 h2
 cases ho:V8 b s n with
 | true=>
  left
  refine⟨rfl,?_⟩
  unfold onH
  rw[ha,ho,hE,hz]
  rfl
 | false=>
  cases hs:WN b with
  | true=>
   right;left
   refine⟨rfl,rfl,?_⟩
   rw[MD ha ho hs,hE,hz]
   rfl
  | false=>exact .inr (.inr ⟨rfl,rfl,Ly ha ho hs⟩)
abbrev ME (i:Nat):EidV:=⟨true,i+1,0,[],[]⟩
theorem HV {i:Nat}(h:i<60):ZJ (ME i)=true:=by
 have hz:isZ (ME i)=false:=rfl
 rw[Xe hz rfl]
 simp
 omega
def twB:BunV:=⟨⟨0,0,YU,YU,YU,0,0,9⟩,[⟨1,1,0,0,[120]⟩]⟩
def twS:EidV:=⟨false,0,0,[97],[]⟩
theorem Lz:BunOk twB:=⟨by decide,by decide,by decide⟩
def twC:BunV:=⟨⟨0,0,YU,YU,YU,0,0,9⟩,[⟨6,2,0,0,[130,1,100,47,47,97,47]⟩,⟨1,1,0,0,[120]⟩]⟩
theorem I9:BunOk twC:=⟨by decide,by decide,by decide⟩
theorem tw1:onH twB twS 0 3=(twC,0):=by kernel_rfl
theorem tw2:ZP twC=true:=by kernel_rfl
theorem Io [Known][KnownU8](b:BunV)(hfl:b.p.fl<18446744073709551616)(hl:b.bl.length<=1000000)(hd:∀ c ∈ b.bl,c.fl<18446744073709551616/\c.data.length<=140737488351232):AP Tryz.prog 8 [.agg (bnC b)] (.bool (ZP b)) []:=by
 cases hf:XN b.bl with
 | true=>exact VF b ⟨hfl,hl,fun c hc=>⟨(hd c hc).1,by have:=Xv ((Yi hf).2 c hc);omega⟩⟩
 | false=>
  have hF:=Nd b.bl hl (fun c hc=>(hd c hc).2)
  rw[hf]at hF
  have hr:ZP b=false:=by unfold ZP;rw[hf];rfl
  rw[hr]
  have hW:AP Tryz.prog 15 [.agg (bnC b)] (.tup [.sl .ext [],.int .i64 3]) []:=by
   clear hd hr hf hl
   obtain⟨⟨fl,sum,⟨di,dn,ds,dh,dd⟩,⟨ri,rn,rs,rh,rd⟩,⟨xi,xn,xs,xh,xd⟩,t,q,life⟩,bl⟩:=b
   dsimp only at *
   refine AP.ofA (Zk Tryz.func15 Z Tryz.ntmps15 Z Z ?_)
   repeat'(first|(apply Zb (hF);kernel_rfl;(iterate 4 exact Z))|(apply Zh Za;exact Z)|(apply Ze Za;exact Z)|(apply Zq Za;exact Z)|(apply Zd;exact Z;(first|with_reducible assumption|decide +kernel|(solve|simp only[bn]))))
   all_goals exact Qe
  clear hd hr hf hl hF
  obtain⟨⟨fl,sum,⟨di,dn,ds,dh,dd⟩,⟨ri,rn,rs,rh,rd⟩,⟨xi,xn,xs,xh,xd⟩,t,q,life⟩,bl⟩:=b
  dsimp only at *
  refine AP.ofA (Zk Tryz.func8 Z Tryz.ntmps8 Z Z ?_)
  repeat'(first|(apply Zb (hW);kernel_rfl;(iterate 4 exact Z))|(apply Zh Za;exact Z)|(apply Ze Za;exact Z))
  all_goals exact Qe
theorem Ga [Known][KnownU8]:AP Tryz.prog 9 [] (.bool true) []:=by
 have h1:=Nq twB Lz (by decide) twS 0 3
 rw[tw1]at h1
 have h2:=Um twC I9
 unfold V7 at h2
 rw[tw2]at h2
 have h3:=I8 (Y6 twC) (Nat.le_trans (Xw tw2) (by decide))
 rw[HF tw2 (KA I9.fl I9.bl)]at h3
 replace h2:AP Tryz.prog 15 [.agg (bnC twC)] (.tup [byE (Y6 twC),.int .i64 0]) []:=h2
 generalize Y6 twC=P at *
 refine AP.ofA (Zk Tryz.func9 Z Tryz.ntmps9 Z Z ?_)
 repeat'(first|(apply Zb (h1);kernel_rfl;(iterate 4 exact Z))|(apply Zb (h2);kernel_rfl;(iterate 4 exact Z))|(apply Zb (h3);kernel_rfl;(iterate 4 exact Z))|(apply Zh Za;exact Z)|(apply Ze Za;exact Z)|(apply Zg;(iterate 3 exact Z);(first|with_reducible assumption|decide +kernel|(solve|simp only[bn])))|(apply Zl;exact Z;(first|with_reducible assumption|decide +kernel|(solve|simp only[bn]));exact Z;exact Z)|refine Zm Za Z Z Z Z ?_|refine LM Za Z Z Z Z Z Z Z Z Z Z Z Z ?_|refine ZT Za Z Z Z Z Z Z Z Z Z Z Z Z ?_)
 all_goals exact Qe
end Go.Proofs.YtmljabhmajehnaaGreatDoor
end
