/- Package hop: the blocks that are sent on, if one tells the previous name. -/
import Derived.Test.YtmljabhmajehnaaGreatDoorO43
import Derived.Test.YtmljabhmajehnaaGreatDoorO42
import Derived.Test.YtmljabhmajehnaaGreatDoorO38
import Derived.Test.YtmljabhmajehnaaGreatDoorO37
set_option linter.unusedVariables false
set_option linter.unusedSimpArgs false
section
open Go.RowKit Go.Pl Go.Av
namespace Go.Proofs.YtmljabhmajehnaaGreatDoor
set_option maxHeartbeats 4000000
theorem F0 [Known][KnownU8](fl:Nat)(sum:Int)(di ri xi:Bool)(dn ds rn rs xn xs t q life:Nat)(dh dd rh rd xh xd:List UInt8)(bl:List BlkV)(si:Bool)(sn ss:Nat)(sh sd:List UInt8)(since now e:Int)
  (hK:AP Tryz.prog 50 [.agg [.int .u64 (fl:Int),.int .i64 sum,.bool di,.int .u64 (dn:Int),.int .u64 (ds:Int),.str dh,.str dd,.bool ri,.int .u64 (rn:Int),.int .u64 (rs:Int),.str rh,.str rd,.bool xi,.int .u64 (xn:Int),.int .u64 (xs:Int),.str xh,.str xd,.int .u64 (t:Int),.int .u64 (q:Int),.int .u64 (life:Int),.sl .ext (ZP bl)],.int .u64 since,.int .u64 now] (.int .i64 e) [])
  (hO:AP Tryz.prog 11 [.agg [.int .u64 (fl:Int),.int .i64 sum,.bool di,.int .u64 (dn:Int),.int .u64 (ds:Int),.str dh,.str dd,.bool ri,.int .u64 (rn:Int),.int .u64 (rs:Int),.str rh,.str rd,.bool xi,.int .u64 (xn:Int),.int .u64 (xs:Int),.str xh,.str xd,.int .u64 (t:Int),.int .u64 (q:Int),.int .u64 (life:Int),.sl .ext (ZP bl)],.int .u64 since,.int .u64 now] (.tup [.bool false,.int .i64 e]) []) (t1:(e==3)=false)
  (hE:AP Tryz.prog 51 [.agg [.bool si,.int .u64 (sn:Int),.int .u64 (ss:Int),.str sh,.str sd]] (.bool true) []) (t2:((si==false)&&(((sn:Int)==0)&&(((ss:Int)==0)&&((sh==[])&&((sd==[])&&true)))))=false) (t3:(e != 0)=false)
  (hS:AP Tryz.prog 52 [.agg [.int .u64 (fl:Int),.int .i64 sum,.bool di,.int .u64 (dn:Int),.int .u64 (ds:Int),.str dh,.str dd,.bool ri,.int .u64 (rn:Int),.int .u64 (rs:Int),.str rh,.str rd,.bool xi,.int .u64 (xn:Int),.int .u64 (xs:Int),.str xh,.str xd,.int .u64 (t:Int),.int .u64 (q:Int),.int .u64 (life:Int),.sl .ext (ZP bl)]] (.bool false) [])
  (hbl:bl.length<=1000) (hok:∀ c ∈ bl,UB c) (hfl:fl<18446744073709551616)
  (c0:BlkV) (hF:AP Tryz.prog 12 [.agg [.int .u64 (fl:Int),.int .i64 sum,.bool di,.int .u64 (dn:Int),.int .u64 (ds:Int),.str dh,.str dd,.bool ri,.int .u64 (rn:Int),.int .u64 (rs:Int),.str rh,.str rd,.bool xi,.int .u64 (xn:Int),.int .u64 (xs:Int),.str xh,.str xd,.int .u64 (t:Int),.int .u64 (q:Int),.int .u64 (life:Int),.sl .ext (ZP bl)],.int .u64 6] (QV (some c0)) []) (d:D) (hd:onD (Vk ⟨fl,sum,⟨di,dn,ds,dh,dd⟩,⟨ri,rn,rs,rh,rd⟩,⟨xi,xn,xs,xh,xd⟩,t,q,life⟩ (onC ⟨si,sn,ss,sh,sd⟩ (IntKind.u64.wrap (now-since)) [] bl))=d) :
  AP Tryz.prog 14 [.agg [.int .u64 (fl:Int),.int .i64 sum,.bool di,.int .u64 (dn:Int),.int .u64 (ds:Int),.str dh,.str dd,.bool ri,.int .u64 (rn:Int),.int .u64 (rs:Int),.str rh,.str rd,.bool xi,.int .u64 (xn:Int),.int .u64 (xs:Int),.str xh,.str xd,.int .u64 (t:Int),.int .u64 (q:Int),.int .u64 (life:Int),.sl .ext (ZP bl)],.agg [.bool si,.int .u64 (sn:Int),.int .u64 (ss:Int),.str sh,.str sd],.int .u64 since,.int .u64 now] d []:=by
 have hlen:=Yx bl
 have hU:=Vl bl
 generalize hFq:onC ⟨si,sn,ss,sh,sd⟩ (IntKind.u64.wrap (now-since)) [] bl=F at hd
 obtain⟨cty0,cnum0,cfl0,csum0,cdata0⟩:=c0
 dsimp only[QV]at hF
 refine AP.ofA (Zl Tryz.func14 U Tryz.ntmps14 U U ?_)
 repeat'(first|(apply Zb (hK);kernel_rfl;(iterate 4 exact U))|(apply Zb (hO);kernel_rfl;(iterate 4 exact U))|(apply Zb (hE);kernel_rfl;(iterate 4 exact U))|(apply Zb (hS);kernel_rfl;(iterate 4 exact U))|(apply Zb (hF);kernel_rfl;(iterate 4 exact U))|(apply Zh Za;exact U)|(apply Zg Za;exact U)|(apply Zo Za;exact U)|refine Ze U U U Qt ?_|refine Zi U Qt U U ?_|refine Zf U Qt ?_|refine Zm Za U U U U ?_|refine W1 Za U U U U Qk Qk U U U ?_)
 show AW _ _ _ _
 refine ZJ (fun f tm bx fr=>∃(i c:Nat) (acc:List BlkV) (f0:Fr),f+i=bl.length/\c=(ZP acc).length/\(∀ c ∈ acc,UB c)/\acc.length<=i+1/\onC ⟨si,sn,ss,sh,sd⟩ (IntKind.u64.wrap (now-since)) acc (bl.drop i)=F/\tm=[(2,.int .u64 since),(3,.int .u64 now),(4,.ptr 0 0),(5,.ptr 1 0),(8,.ptr 2 0),(13,.ptr 3 0),(83,.sl .ext (ZP bl)),(84,.int .i64 ((ZP bl).length:Int)),(85,.int .i64 (i:Int))] /\
   ((acc=[]/\bx=[[.int .u64 (fl:Int),.int .i64 sum,.bool di,.int .u64 (dn:Int),.int .u64 (ds:Int),.str dh,.str dd,.bool ri,.int .u64 (rn:Int),.int .u64 (rs:Int),.str rh,.str rd,.bool xi,.int .u64 (xn:Int),.int .u64 (xs:Int),.str xh,.str xd,.int .u64 (t:Int),.int .u64 (q:Int),.int .u64 (life:Int),.sl .ext (ZP bl)],[.bool si,.int .u64 (sn:Int),.int .u64 (ss:Int),.str sh,.str sd],[.int .u64 0,.int .i64 0,.bool false,.int .u64 0,.int .u64 0,.str [],.str [],.bool false,.int .u64 0,.int .u64 0,.str [],.str [],.bool false,.int .u64 0,.int .u64 0,.str [],.str [],.int .u64 0,.int .u64 0,.int .u64 0,.sl .nil []],[.int .u64 (fl:Int),.int .i64 sum,.bool di,.int .u64 (dn:Int),.int .u64 (ds:Int),.str dh,.str dd,.bool ri,.int .u64 (rn:Int),.int .u64 (rs:Int),.str rh,.str rd,.bool xi,.int .u64 (xn:Int),.int .u64 (xs:Int),.str xh,.str xd,.int .u64 (t:Int),.int .u64 (q:Int),.int .u64 (life:Int),.sl .nil []]]/\fr=[]) \/
   (bx=[[.int .u64 (fl:Int),.int .i64 sum,.bool di,.int .u64 (dn:Int),.int .u64 (ds:Int),.str dh,.str dd,.bool ri,.int .u64 (rn:Int),.int .u64 (rs:Int),.str rh,.str rd,.bool xi,.int .u64 (xn:Int),.int .u64 (xs:Int),.str xh,.str xd,.int .u64 (t:Int),.int .u64 (q:Int),.int .u64 (life:Int),.sl .ext (ZP bl)],[.bool si,.int .u64 (sn:Int),.int .u64 (ss:Int),.str sh,.str sd],[.int .u64 0,.int .i64 0,.bool false,.int .u64 0,.int .u64 0,.str [],.str [],.bool false,.int .u64 0,.int .u64 0,.str [],.str [],.bool false,.int .u64 0,.int .u64 0,.str [],.str [],.int .u64 0,.int .u64 0,.int .u64 0,.sl .nil []],[.int .u64 (fl:Int),.int .i64 sum,.bool di,.int .u64 (dn:Int),.int .u64 (ds:Int),.str dh,.str dd,.bool ri,.int .u64 (rn:Int),.int .u64 (rs:Int),.str rh,.str rd,.bool xi,.int .u64 (xn:Int),.int .u64 (xs:Int),.str xh,.str xd,.int .u64 (t:Int),.int .u64 (q:Int),.int .u64 (life:Int),.sl (.own 1) (ZP acc)]]/\fr=[f0,⟨c,5,40⟩]))) (bl.length+1) (Lands.mk' (m:=bl.length) (Nat.lt_succ_self _) ⟨0,0,[],default,by omega,rfl,by simp,by simp,hFq,rfl,.inl ⟨rfl,rfl,rfl⟩⟩ ?_ rfl rfl rfl rfl rfl rfl) ?_
 ·exact .cons rfl (.cons rfl (.cons rfl (.cons rfl (.cons rfl (.cons rfl (.cons rfl (.cons rfl (.cons rfl .nil))))))))
 rintro f tm bx fr ⟨i,c,acc,f0,hf,hc,hab,hal,hq,rfl,hst⟩
 rcases Nat.lt_or_ge i bl.length with hlt|hge
 ·have hdl:decide ((i:Int)<((ZP bl).length:Int))=true:=decide_eq_true (by omega)
  obtain⟨z,hy⟩:∃ y,bl[i]?=some y:=⟨_,List.getElem?_eq_getElem hlt⟩
  have hzo:=hok z (List.mem_of_getElem? hy)
  have hG:=Og z ⟨si,sn,ss,sh,sd⟩ (IntKind.u64.wrap (now-since)) (Nat.le_trans hzo.2 (by omega)) (Kq (Nat.le_trans hzo.2 (by omega)))
  have hco:=Ip ⟨si,sn,ss,sh,sd⟩ (IntKind.u64.wrap (now-since)) hzo
  have hdr:bl.drop i=z::bl.drop (i+1):=by
   rw[List.drop_eq_getElem_cons hlt];congr 1
   exact(List.getElem?_eq_some_iff.1 hy).2
  rw[hdr,onC]at hq
  have ei:IntKind.i64.wrap ((i:Int)+1)=((i+1:Nat):Int):=by rw[IntWalk.i64_in _ (by omega)];omega
  have hv:=Yy hy
  generalize Wi z ⟨si,sn,ss,sh,sd⟩ (IntKind.u64.wrap (now-since))=r at *
  obtain⟨cb,ok⟩:=r
  obtain⟨zty,znum,zfl,zsum,zdata⟩:=z
  dsimp only at hq hco
  cases ok with
  | false=>
   replace hG:AP Tryz.prog 55 _ (.tup [.agg (bkC cb),.bool false]) []:=hG
   dsimp only at hq
   subst hq
   dsimp only[Vk]at hd
   subst hd
   rcases hst with⟨rfl,rfl,rfl⟩ | ⟨rfl,rfl⟩
   ·repeat'(first|(apply Zb (hG);kernel_rfl;(iterate 4 exact U))|(apply Zh Za;exact U)|(apply Zg Za;exact U)|(apply Zo Za;exact U)|refine Zd U Qt ?_|(apply Zu Za;(iterate 6 exact U);(first|exact Qt|rotate_left);(first|with_reducible assumption|decide +kernel|exact U);(first|exact Zj rfl|with_reducible assumption|decide +kernel|rotate_left)))
    all_goals exact Qe
   ·repeat'(first|(apply Zb (hG);kernel_rfl;(iterate 4 exact U))|(apply Zh Za;exact U)|(apply Zg Za;exact U)|(apply Zo Za;exact U)|refine Zd U Qt ?_|(apply Zu Za;(iterate 6 exact U);(first|exact Qt|rotate_left);(first|with_reducible assumption|decide +kernel|exact U);(first|exact Zj rfl|with_reducible assumption|decide +kernel|rotate_left)))
    all_goals exact Qe
  | true=>
   replace hG:AP Tryz.prog 55 _ (.tup [.agg (bkC cb),.bool true]) []:=hG
   dsimp only at hq
   have hab2:∀ c ∈ acc++[cb],UB c:=fun c hc=>by
    rcases List.mem_append.1 hc with hc|hc
    ·exact hab c hc
    ·simp at hc;subst hc;exact hco
   have hU5:=Vl acc
   have hUc:=Vl [cb]
   subst hc
   have hbk:=Yx acc
   rcases hst with⟨rfl,rfl,rfl⟩ | ⟨rfl,rfl⟩
   ·repeat'(first|(apply Zb (hG);kernel_rfl;(iterate 4 exact U))|rw[ei]|refine ZT Za U U U U U U (Zj rfl) (List.cons_ne_nil _ _) U Qd Qd U U U ?_|(apply Zh Za;exact U)|(apply Zg Za;exact U)|refine Zd U Qt ?_|refine Zf U Qt ?_|refine ZO Za U U U U U U U U U U U U ?_|(apply Zu Za;(iterate 6 exact U);(first|exact Qt|rotate_left);(first|with_reducible assumption|decide +kernel|exact U);(first|exact Zj rfl|with_reducible assumption|decide +kernel|rotate_left)))
    refine Lands.mk' (m:=f-1) (by omega) ⟨i+1,1,[cb],_,by omega,rfl,hab2,by simp,hq,rfl,.inr ⟨rfl,rfl⟩⟩ ?_ rfl rfl rfl rfl rfl rfl
    exact .cons rfl (.cons rfl (.cons rfl (.cons rfl (.cons rfl (.cons rfl (.cons rfl (.cons rfl (.cons rfl .nil))))))))
   ·have hs:ZP acc++[bkE cb]=ZP (acc++[cb]):=(List.map_append (f:=bkE) (l₁:=acc) (l₂:=[cb])).symm
    repeat'(first|(apply Zb (hG);kernel_rfl;(iterate 4 exact U))|rw[ei]|(apply Zh Za;exact U)|(apply Zg Za;exact U)|refine Zd U Qt ?_|refine Zf U Qt ?_|refine ZO Za U U U U U U U U U U U U ?_|(apply ZR Za;(iterate 6 exact U);(first|with_reducible assumption|decide +kernel|exact U|rotate_left);exact U;exact U;(first|exact Zj rfl|with_reducible assumption|decide +kernel|rotate_left);(first|exact Zj rfl|with_reducible assumption|decide +kernel|rotate_left);(first|exact Qt|rotate_left);(first|exact Qt|rotate_left);(first|exact Qt|rotate_left);exact U;exact U)|(apply Zu Za;(iterate 6 exact U);(first|exact Qt|rotate_left);(first|with_reducible assumption|decide +kernel|exact U);(first|exact Zj rfl|with_reducible assumption|decide +kernel|rotate_left)))
    ·refine Lands.mk' (m:=f-1) (by omega) ⟨i+1,(ZP acc).length+1,acc++[cb],f0,by omega,by rw[<- hs,List.length_append];rfl,hab2,by simp;omega,hq,rfl,.inr ⟨by rw[<- hs],rfl⟩⟩ ?_ rfl rfl rfl rfl rfl rfl
     exact .cons rfl (.cons rfl (.cons rfl (.cons rfl (.cons rfl (.cons rfl (.cons rfl (.cons rfl (.cons rfl .nil))))))))
    all_goals(first|rfl|(simp only[List.length_append,List.length_cons,List.length_nil,List.length_map,Zv];done)|(simp only[List.length_append,List.length_cons,List.length_nil,List.length_map,Zv]at *;(try unfold maxLen);(try simp only[Nat.add_mul]);omega))
 ·have hdl:decide ((i:Int)<((ZP bl).length:Int))=false:=decide_eq_false (by omega)
  have hqn:F=some acc:=by
   rw[<- hq,List.drop_eq_nil_of_le hge,onC]
  subst hqn
  dsimp only[Vk]at hd
  have hRt:=JL ⟨⟨fl,sum,⟨di,dn,ds,dh,dd⟩,⟨ri,rn,rs,rh,rd⟩,⟨xi,xn,xs,xh,xd⟩,t,q,life⟩,acc⟩ ⟨hfl,by show acc.length<=_;omega,hab⟩
  cases t13:Yb ⟨⟨fl,sum,⟨di,dn,ds,dh,dd⟩,⟨ri,rn,rs,rh,rd⟩,⟨xi,xn,xs,xh,xd⟩,t,q,life⟩,acc⟩ with
  | false=>
   rw[t13]at hRt hd
   dsimp only at hd
   subst hd
   rcases hst with⟨rfl,rfl,rfl⟩ | ⟨rfl,rfl⟩
   ·repeat'(first|(apply Zb (hRt);kernel_rfl;(iterate 4 exact U))|(apply Zh Za;exact U)|(apply Zg Za;exact U)|(apply Zo Za;exact U)|refine Zd U Qt ?_|refine Zf U Qt ?_)
    all_goals exact Qe
   ·repeat'(first|(apply Zb (hRt);kernel_rfl;(iterate 4 exact U))|(apply Zh Za;exact U)|(apply Zg Za;exact U)|(apply Zo Za;exact U)|refine Zd U Qt ?_|refine Zf U Qt ?_)
    all_goals exact Qe
  | true=>
   rw[t13]at hRt hd
   dsimp only at hd
   subst hd
   rcases hst with⟨rfl,rfl,rfl⟩ | ⟨rfl,rfl⟩
   ·repeat'(first|(apply Zb (hRt);kernel_rfl;(iterate 4 exact U))|(apply Zh Za;exact U)|(apply Zg Za;exact U)|(apply Zo Za;exact U)|refine Zf U Qt ?_)
    all_goals exact Qe
   ·repeat'(first|(apply Zb (hRt);kernel_rfl;(iterate 4 exact U))|(apply Zh Za;exact U)|(apply Zg Za;exact U)|(apply Zo Za;exact U)|refine Zf U Qt ?_)
    all_goals exact Qe
theorem I4 (b:BunV)(since now:Int):(Vz b since now).2=VV b since now:=by
 unfold Vz
 split
 ·rfl
 ·rename_i h;simpa using(by simpa using h:VV b since now=0).symm
theorem TK [Known][KnownU8](b:BunV)(hb:BunOk b)(h1000:b.bl.length<=1000)(self:EidV)(since now:Int):AP Tryz.prog 14 [.agg (bnC b),.agg (eC self),.int .u64 since,.int .u64 now] (onD (onH b self since now)) []:=by
 have hK:=NH b hb since now
 have hO:=Oc b hb since now
 rw[I4]at hO
 have hE:=VI self
 have hS:=MP b hb
 have hN:=Od b hb
 have hP:AP Tryz.prog 53 [.int .u64 (Qx b.bl:Int),.int .i64 0,.agg (eC self)] (Tl (ofV 6 (Qx b.bl) 0 (if ZE self then ZW self else .mk 0 0 [] []) (if ZE self then 0 else 3))) []:=Io (Qx b.bl) 0 self
 have hF:=IZ b 6 hb.len (fun c hc=>Nat.le_trans (hb.bl c hc).2 (by omega))
 have hpo:=Dh b self
 have hfl:=hb.fl
 have hbl:∀ c ∈ b.bl,UB c:=hb.bl
 unfold onH X9
 have hpe:(ofV 6 (Qx b.bl) 0 (if ZE self then ZW self else .mk 0 0 [] []) (if ZE self then 0 else 3)).1=HJ b self:=rfl
 generalize HJ b self=pb at *
 generalize (ofV 6 (Qx b.bl) 0 (if ZE self then ZW self else .mk 0 0 [] []) (if ZE self then 0 else 3))=pr at *
 subst hpe
 generalize Qx b.bl=nn at *
 generalize VV b since now=e at *
 generalize QW b since now=ov at *
 generalize UA b=sp at *
 generalize ZE self=er at *
 clear hb
 obtain⟨⟨fl,sum,⟨di,dn,ds,dh,dd⟩,⟨ri,rn,rs,rh,rd⟩,⟨xi,xn,xs,xh,xd⟩,t,q,life⟩,bl⟩:=b
 obtain⟨si,sn,ss,sh,sd⟩:=self
 dsimp only at *
 cases t1:(e==3) with
 | true=>exact FT (si:=si) (sn:=sn) (ss:=ss) (sh:=sh) (sd:=sd) (hK:=hK) (hO:=hO) (t1:=t1)
 | false=>
 cases er with
 | false=>exact FU (hK:=hK) (hO:=hO) (t1:=t1) (hE:=hE)
 | true=>
 cases t2:zE ⟨si,sn,ss,sh,sd⟩ with
 | true=>exact FV (hK:=hK) (hO:=hO) (t1:=t1) (hE:=hE) (t2:=t2)
 | false=>
 cases t3:(e != 0) with
 | true=>exact FW (hK:=hK) (hO:=hO) (t1:=t1) (hE:=hE) (t2:=t2) (t3:=t3)
 | false=>
 cases ov with
 | true=>exact FX (hK:=hK) (hO:=hO) (t1:=t1) (hE:=hE) (t2:=t2) (t3:=t3)
 | false=>
 cases sp with
 | true=>exact FY (hK:=hK) (hO:=hO) (t1:=t1) (hE:=hE) (t2:=t2) (t3:=t3) (hS:=hS)
 | false=>
 obtain⟨pb,pe⟩:=pr
 cases hf:bl.find? (Wt 6) with
 | none=>
  rw[hf]at hF
  exact FZ (hK:=hK) (hO:=hO) (t1:=t1) (hE:=hE) (t2:=t2) (t3:=t3) (hS:=hS) (hbl:=h1000) (hok:=hbl) (hfl:=hfl) (hpre:=hpo) (hN:=hN) (hP:=hP) (hF:=hF) (hd:=rfl)
 | some c=>
  rw[hf]at hF
  exact F0 (hK:=hK) (hO:=hO) (t1:=t1) (hE:=hE) (t2:=t2) (t3:=t3) (hS:=hS) (hbl:=h1000) (hok:=hbl) (hfl:=hfl) (hF:=hF) (hd:=rfl)
theorem Di (c:BlkV):Jm c<=1099511627776:=by
 unfold Jm
 split
 ·omega
 ·rename_i h
  have h0:VK c 7=0:=by simpa using h
  unfold VK at h0
  split at h0
  ·simp at h0
  ·rename_i hty
   split at h0
   ·simp at h0
   ·rename_i hr
    have hty:(c.ty:Int)=7:=by simpa using hty
    unfold ZH at hr
    simp only[Bool.and_eq_true]at hr
    have hd:=hr.2.2.2.2
    unfold J5 at hd
    rw[Bool.and_eq_true]at hd
    have hk:=hd.1
    unfold KV at hk
    rw[hty]at hk
    have hk:(Qn c.data).2=true:=hk
    unfold Qn at hk ⊢
    simp only[Bool.and_eq_true,decide_eq_true_eq]at hk
    dsimp only
    omega
theorem NI (b:BunV):Kf b<=1099511627776:=by
 unfold Kf
 split
 ·exact Di _
 ·omega
theorem HK {b:BunV}(h:Yb b=true):b.p.life<=1099511627776/\b.p.t<=1099511627776:=by
 unfold Yb QP at h
 simp only[Bool.and_eq_true,beq_iff_eq]at h
 obtain⟨hr,_⟩:=WE (p:=b.p) (x:=(Wz b.p).1) (Prod.ext rfl h.2.1.1)
 obtain⟨_,_,_,_,h5,h6⟩:=Vy hr
 exact⟨h6,(WS.1 h5).2.1⟩
def RM (t life past now:Nat):Nat:=if 0<t then(if now<t then life+(t-now) else life-(now-t)) else life-past
theorem RN {t life old since now:Nat}(h1:t<=1099511627776)(h2:life<=1099511627776)(h3:old<=1099511627776)(h4:since<=now)(h5:now<=1099511627776) :
  Im t life (old:Int) (IntKind.u64.wrap ((now:Int)-(since:Int))) (now:Int)=(RM t life (old+(now-since)) now:Int):=by
 have e1:IntKind.u64.wrap ((now:Int)-(since:Int))=(now:Int)-since:=IntWalk.u64_in _ (by omega)
 rw[e1]
 have e2:IntKind.u64.wrap ((old:Int)+((now:Int)-since))=(old:Int)+(now-since):=IntWalk.u64_in _ (by omega)
 unfold Im RM
 rw[e2]
 split
 ·rename_i c1
  have c1:=of_decide_eq_true c1
  rw[if_pos (by omega)]
  split
  ·rename_i c2
   have c2:=of_decide_eq_true c2
   rw[if_pos (by omega),IntWalk.u64_in ((t:Int)-now) (by omega),IntWalk.u64_in _ (by omega)]
   omega
  ·rename_i c2
   have c2:=of_decide_eq_false c2
   have e3:IntKind.u64.wrap ((now:Int)-(t:Int))=(now:Int)-t:=IntWalk.u64_in _ (by omega)
   rw[if_neg (by omega),e3]
   split
   ·rename_i c3
    have c3:=of_decide_eq_true c3
    omega
   ·rename_i c3
    have c3:=of_decide_eq_false c3
    rw[IntWalk.u64_in _ (by omega)]
    omega
 ·rename_i c1
  have c1:=of_decide_eq_false c1
  rw[if_neg (by omega)]
  split
  ·rename_i c3
   have c3:=of_decide_eq_true c3
   omega
  ·rename_i c3
   have c3:=of_decide_eq_false c3
   rw[IntWalk.u64_in _ (by omega)]
   omega
theorem Ju {c:BlkV}(h:ZH c=true):KV c.ty c.data=true:=by
 unfold ZH J5 at h
 simp only[Bool.and_eq_true]at h
 exact h.2.2.2.2.1
theorem NJ {c:BlkV}(hr:ZH c=true)(ht:c.ty=7):Ke c.data=Jm c:=by
 have hk:=Ju hr
 unfold KV at hk
 rw[ht]at hk
 have hk:(Qn c.data).2=true:=hk
 unfold Ke Jm VK
 rw[hk,hr,ht]
 rfl
theorem V5 {b:BunV}(h:Yb b=true):∀ c ∈ b.bl,ZH c=true:=fun c hc=>by
 obtain⟨i,hi⟩:=List.getElem?_of_mem hc
 exact(Up.1 (((XK b).1 h).1.ok i c hi)).1
theorem Iq {b:BunV}{since now:Nat}(h:VV b since now=0):Yb b=true/\since<=now/\now<=1099511627776:=by
 unfold VV at h
 split at h
 ·cases h
 ·rename_i hr
  split at h
  ·cases h
  ·rename_i h2
   simp only[Bool.or_eq_false_iff,decide_eq_false_iff_not]at h2
   exact⟨hr,by omega,by omega⟩
theorem Dj {b:BunV}{since now:Nat}(hr:Yb b=true)(h1:since<=now)(h2:now<=1099511627776):atD b since now=if 0<b.p.t then(now:Int) else((Kf b+(now-since):Nat):Int):=by
 have e1:IntKind.u64.wrap ((now:Int)-(since:Int))=(now:Int)-since:=IntWalk.u64_in _ (by omega)
 have ha:=NI b
 unfold atD
 cases h:((b.p.t:Int)==0) with
 | false=>
  have h:¬ ((b.p.t:Int)=0):=by simpa using h
  rw[if_pos (by omega)]
 | true=>
  have h:((b.p.t:Int)=0):=by simpa using h
  rw[if_neg (by omega)]
  dsimp only
  rw[e1]
  unfold Kf at ha ⊢
  cases hf:b.bl.find? (Wt 7) with
  | none=>simp only;omega
  | some c=>
   have hty:c.ty=7:=by
    have h:=List.find?_some hf
    have h:(c.ty:Int)=7:=by simpa[Wt]using h
    omega
   have e:=NJ (V5 hr c (List.mem_of_find?_eq_some hf)) hty
   rw[hf]at ha
   simp only at ha ⊢
   rw[e,IntWalk.u64_in _ (by omega)]
   omega
theorem RO (b:BunV)(since now:Nat):Oh b since now=Vz b since now:=by
 unfold Oh Vz
 cases h:(VV b since now != 0) with
 | true=>rfl
 | false=>
  have h0:VV b since now=0:=by simpa using h
  obtain⟨hr,h1,h2⟩:=Iq h0
  obtain⟨p1,p2⟩:=HK hr
  have ha:=NI b
  have e:=RN (t:=b.p.t) (life:=b.p.life) (old:=Kf b) p2 p1 ha h1 h2
  have e2:IntKind.u64.wrap ((b.p.t:Int)+(b.p.life:Int))=((b.p.t+b.p.life:Nat):Int):=by rw[IntWalk.u64_in _ (by omega)];omega
  dsimp only
  rw[e,e2,Dj hr h1 h2,h0]
  unfold RM
  by_cases ht:0<b.p.t
  ·simp only[if_pos ht]
   rcases Nat.lt_or_ge now b.p.t with c2|c2
   ·rw[if_pos c2,decide_eq_false (by omega)]
    dsimp only
    rw[IntWalk.u64_in _ (by omega)]
    congr 1;omega
   ·rw[if_neg (by omega)]
    rcases Nat.lt_or_ge now (b.p.t+b.p.life) with c3|c3
    ·rw[decide_eq_false (by omega)]
     dsimp only
     rw[IntWalk.u64_in _ (by omega)]
     congr 1;omega
    ·rw[decide_eq_true (by omega)]
     dsimp only
     congr 1;omega
  ·simp only[if_neg ht]
   rcases Nat.lt_or_ge (Kf b+(now-since)) (b.p.t+b.p.life) with c3|c3
   ·rw[decide_eq_false (by omega)]
    dsimp only
    rw[IntWalk.u64_in _ (by omega)]
    congr 1;omega
   ·rw[decide_eq_true (by omega)]
    dsimp only
    congr 1;omega
abbrev WU (c:BlkV)(d:List UInt8):BlkV:=⟨c.ty,c.num,c.fl,c.sum,d⟩
def MQ (c:BlkV)(self:EidV)(here:Int):Option It:=match((c.ty:Int)==6) with
 | true=>some (ZW self)
 | false=>match((c.ty:Int)==7) with
  | true=>some (.mk 0 (Vj (Ke c.data:Int) here) [] [])
  | false=>match((c.ty:Int)==10) with
   | true=>some (VZ (WF c.data).1 (Vj ((WF c.data).2:Int) 1))
   | false=>none
def WV (c:BlkV)(self:EidV)(here:Int):BlkV × Bool:=match MQ c self here with
 | some x=>(WU c (ZN x),ZH (WU c (ZN x)))
 | none=>(c,true)
theorem RP {c:BlkV}{self:EidV}{here:Int}{x:It}(hE:ZE self=true)(hL:(WF c.data).1<18446744073709551616)(h:MQ c self here=some x):wfI x/\ZB x=true/\(ZN x).length<=3000:=by
 unfold MQ at h
 split at h
 ·cases h
  exact⟨W7 hE,Vh hE,by have:=WD hE;omega⟩
 ·split at h
  ·cases h
   have:=Xa (Ke c.data:Int) here
   exact⟨Tm this,O1 _,by have:=Yv (Vj (Ke c.data:Int) here);omega⟩
  ·split at h
   ·cases h
    have h1:=Xa ((WF c.data).2:Int) 1
    exact⟨BX hL h1,O2 _ _,by have:=V3 (WF c.data).1 (Vj ((WF c.data).2:Int) 1);omega⟩
   ·cases h
theorem Oj [Known][KnownU8](c:BlkV)(self:EidV)(here:Int)(hE:ZE self=true)(hc:UB c)(hL:(WF c.data).1<18446744073709551616):AP Tryz.prog 91 [.agg (bkC c),.agg (eC self),.int .u64 here] (chD (WV c self here)) []:=by
 have hA:=IW c.data (Nat.le_trans hc.2 (by omega))
 have hH:=J7 c.data (Nat.le_trans hc.2 (by omega))
 have hW:=Wh self hE
 have hok:=fun x=>RP (c:=c) (self:=self) (here:=here) (x:=x) hE hL
 unfold WV
 have hd:MQ c self here=match((c.ty:Int)==6) with
  | true=>some (ZW self)
  | false=>match((c.ty:Int)==7) with
   | true=>some (.mk 0 (Vj (Ke c.data:Int) here) [] [])
   | false=>match((c.ty:Int)==10) with
    | true=>some (VZ (WF c.data).1 (Vj ((WF c.data).2:Int) 1))
    | false=>none:=rfl
 have ea:=J9 (Ke c.data:Int) here
 have eh:=J9 ((WF c.data).2:Int) 1
 generalize (Qn c.data).2=oka at *
 generalize (Wg c.data).2.2=okh at *
 generalize (WF c.data).1=h1 at *
 generalize (WF c.data).2=h2 at *
 generalize Ke c.data=ag at *
 generalize Vj (ag:Int) here=a64 at *
 generalize Vj (h2:Int) 1=b64 at *
 cases t1:((c.ty:Int)==6) with
 | true=>
  rw[t1]at hd
  rw[hd]at hok ⊢
  obtain⟨hxw,hxr,hxl⟩:=hok _ rfl
  have hP:=Vi (ZW self) hxw (VL hxr) (by omega)
  have hR:=Jh (WU c (ZN (ZW self))) hc.1 (by show(ZN (ZW self)).length<=_;omega)
  dsimp only
  clear hok hd hc hxw hxr hxl
  generalize ZH (WU c (ZN (ZW self)))=r at *
  generalize ZN (ZW self)=P at *
  generalize ZW self=X at *
  obtain⟨xk,xn,xb,xl⟩:=X
  obtain⟨ty,num,fl,sum,data⟩:=c
  obtain⟨si,sn,ss,sh,sd⟩:=self
  dsimp only[WU]at *
  refine AP.ofA (Zl Tryz.func91 U Tryz.ntmps91 U U ?_)
  repeat'(first|(apply Zb (hW);kernel_rfl;(iterate 4 exact U))|(apply Zb (hP);kernel_rfl;(iterate 4 exact U))|(apply Zb (hR);kernel_rfl;(iterate 4 exact U))|(apply Zh Za;exact U)|(apply Zg Za;exact U)|(apply Zd;exact U;(first|with_reducible assumption|decide +kernel|(solve|simp only[bn])))|(apply Zq 3 ZF;decide +kernel;kernel_rfl;kernel_rfl;kernel_rfl;exact U;exact U)|(apply Zt;(iterate 4 exact U))|exact AE.nil _ _ _ _|(apply Zw;exact U)|(apply Zz;exact U;exact U;decide +kernel;exact U)|(apply ZA;exact U)|exact AO.nil _ _ _|(apply Zs;(decide +kernel))|exact AOs.nil|exact ZI rfl rfl)
  all_goals exact Qe
 | false=>
 rw[t1]at hd
 cases t2:((c.ty:Int)==7) with
 | true=>
  rw[t2]at hd
  rw[hd]at hok ⊢
  obtain⟨hxw,hxr,hxl⟩:=hok _ rfl
  have hP:=Vi (.mk 0 a64 [] []) hxw (VL hxr) (by omega)
  have hR:=Jh (WU c (ZN (.mk 0 a64 [] []))) hc.1 (by show(ZN (.mk 0 a64 [] [])).length<=_;omega)
  dsimp only
  clear hok hd hc hxw hxr hxl hW
  generalize ZH (WU c (ZN (.mk 0 a64 [] [])))=r at *
  generalize ZN (.mk 0 a64 [] [])=P at *
  obtain⟨ty,num,fl,sum,data⟩:=c
  obtain⟨si,sn,ss,sh,sd⟩:=self
  dsimp only[WU]at *
  refine AP.ofA (Zl Tryz.func91 U Tryz.ntmps91 U U ?_)
  repeat'(first|(apply Zb (hA);kernel_rfl;(iterate 4 exact U))|rw[ea]|(apply Zb (hP);kernel_rfl;(iterate 4 exact U))|(apply Zb (hR);kernel_rfl;(iterate 4 exact U))|(apply Zh Za;exact U)|(apply Zg Za;exact U)|(apply Zd;exact U;(first|with_reducible assumption|decide +kernel|(solve|simp only[bn])))|(apply Zf;exact U;(first|with_reducible assumption|decide +kernel|(solve|simp only[bn])))|(apply Zq 3 ZF;decide +kernel;kernel_rfl;kernel_rfl;kernel_rfl;exact U;exact U)|(apply Zt;(iterate 4 exact U))|exact AE.nil _ _ _ _|(apply Zw;exact U)|(apply Zz;exact U;exact U;decide +kernel;exact U)|(apply ZA;exact U)|exact AO.nil _ _ _|(apply Zs;(decide +kernel))|exact AOs.nil|exact ZI rfl rfl)
  all_goals exact Qe
 | false=>
 rw[t2]at hd
 cases t3:((c.ty:Int)==10) with
 | true=>
  rw[t3]at hd
  rw[hd]at hok ⊢
  obtain⟨hxw,hxr,hxl⟩:=hok _ rfl
  have hP:=Vi (VZ h1 b64) hxw (VL hxr) (by omega)
  have hR:=Jh (WU c (ZN (VZ h1 b64))) hc.1 (by show(ZN (VZ h1 b64)).length<=_;omega)
  dsimp only
  clear hok hd hc hxw hxr hxl hW
  generalize ZH (WU c (ZN (VZ h1 b64)))=r at *
  generalize ZN (VZ h1 b64)=P at *
  obtain⟨ty,num,fl,sum,data⟩:=c
  obtain⟨si,sn,ss,sh,sd⟩:=self
  dsimp only[WU]at *
  refine AP.ofA (Zl Tryz.func91 U Tryz.ntmps91 U U ?_)
  repeat'(first|(apply Zb (hH);kernel_rfl;(iterate 4 exact U))|rw[eh]|(apply Zb (hP);kernel_rfl;(iterate 4 exact U))|(apply Zb (hR);kernel_rfl;(iterate 4 exact U))|(apply Zh Za;exact U)|(apply Zg Za;exact U)|(apply Zd;exact U;(first|with_reducible assumption|decide +kernel|(solve|simp only[bn])))|(apply Zf;exact U;(first|with_reducible assumption|decide +kernel|(solve|simp only[bn])))|refine ZO Za U U U U U U U U U U U U ?_|(apply Zq 3 ZF;decide +kernel;kernel_rfl;kernel_rfl;kernel_rfl;exact U;exact U)|(apply Zt;(iterate 4 exact U))|exact AE.nil _ _ _ _|(apply Zw;exact U)|(apply Zz;exact U;exact U;decide +kernel;exact U)|(apply ZA;exact U)|exact AO.nil _ _ _|(apply Zs;(decide +kernel))|exact AOs.nil|exact ZI rfl rfl)
  all_goals exact Qe
 | false=>
  rw[t3]at hd
  rw[hd]
  dsimp only
  clear hok hd hc hW
  obtain⟨ty,num,fl,sum,data⟩:=c
  obtain⟨si,sn,ss,sh,sd⟩:=self
  try dsimp only at *
  refine AP.ofA (Zl Tryz.func91 U Tryz.ntmps91 U U ?_)
  repeat'(first|(apply Zg Za;exact U)|(apply Zo Za;exact U)|(apply Zf;exact U;(first|with_reducible assumption|decide +kernel|(solve|simp only[bn]))))
  all_goals exact Qe
theorem I5 {c:BlkV}(hr:ZH c=true)(ht:c.ty=10):(WF c.data).1=Qo c/\(WF c.data).2=J8 c/\J8 c<=Qo c:=by
 have hk:=Ju hr
 unfold KV at hk
 rw[ht]at hk
 have hk:(Wg c.data).2.2=true:=hk
 have hle:(Wg c.data).2.1<=(Wg c.data).1:=by
  unfold Wg at hk ⊢
  generalize (Yl c.data 0).1=x at *
  generalize Wq c.data=s at *
  unfold Jt at hk ⊢
  repeat'(first|split at hk|(dsimp only at hk))
  all_goals first|(simp at hk;done)|skip
  all_goals simp_all
 unfold WF Qo J8 VK
 rw[hk,hr,ht]
 exact⟨rfl,rfl,hle⟩
theorem Fa {c:BlkV}(h:ZH c=true)(d:List UInt8):ZH (WU c d)=ZH ⟨c.ty,c.num,0,c.sum,d⟩:=by
 have hf:(bits .andNot .u64 (c.fl:Int) 23==0)=true:=by
  unfold ZH at h
  simp only[Bool.and_eq_true]at h
  exact h.2.1
 unfold ZH
 dsimp only
 rw[hf]
 rfl
theorem TL {c:BlkV}{k:Nat}{x:It}(ht:c.ty=k)(hr:ZH c=true)(hx:ZB x=true):(WU c (ZN x),ZH (WU c (ZN x))).2=(Of (ofV k c.num c.sum x 0) c.fl).2/\((Of (ofV k c.num c.sum x 0) c.fl).2=true->(WU c (ZN x),ZH (WU c (ZN x)))=Of (ofV k c.num c.sum x 0) c.fl):=by
 rw[Fa hr,ht]
 unfold ofV
 rw[hx,show((0:Int) != 0)=false from rfl]
 dsimp only
 cases h:ZH ⟨k,c.num,0,c.sum,ZN x⟩ with
 | true=>exact⟨rfl,fun _=>by unfold Of WU;rw[ht];rfl⟩
 | false=>exact⟨rfl,fun h=>by cases h⟩
theorem Dk {c:BlkV}{self:EidV}{here:Int}(hE:ZE self=true)(hr:ZH c=true)(hL:Qo c<18446744073709551616):(WV c self here).2=(Wi c self here).2/\((Wi c self here).2=true->WV c self here=Wi c self here):=by
 unfold WV MQ Wi I0
 rw[hE]
 cases t1:((c.ty:Int)==6) with
 | true=>
  have ht : c.ty = 6 := by have : (c.ty : Int) = 6 := by simpa using t1
                           omega
  exact TL ht hr (Vh hE)
 | false=>
 cases t2:((c.ty:Int)==7) with
 | true=>
  have ht : c.ty = 7 := by have : (c.ty : Int) = 7 := by simpa using t2
                           omega
  dsimp only
  rw[NJ hr ht]
  exact TL ht hr (O1 _)
 | false=>
 cases t3:((c.ty:Int)==10) with
 | true=>
  have ht : c.ty = 10 := by have : (c.ty : Int) = 10 := by simpa using t3
                            omega
  dsimp only
  rw[(I5 hr ht).1,(I5 hr ht).2.1]
  exact TL ht hr (O2 _ _)
 | false=>exact⟨rfl,fun _=>rfl⟩
structure Hold (p:Prop):Prop where
 h:p
theorem RQ {p:Prop}(h:Hold p):p:=h.h
theorem S6 [Known](b:BunV)(self:EidV)(s n m e κ res:Int)
  (hL:AP Tryz.prog 86 [.agg (bnC b),.int .u64 s,.int .u64 n] (.tup [.int .u64 m,.int .i64 e]) [])
  (hK:AP Tryz.prog 87 [.agg (eC self)] (.int .i64 κ) [])
  (h:((e==3)=true/\res=3)\/((e==3)=false/\decide (κ<1)=true/\res=3)\/((e==3)=false/\decide (κ<1)=false/\(e != 0)=true/\res=e)\/((e==3)=false/\decide (κ<1)=false/\(e != 0)=false/\(m==0)=true/\res=18)) :
  AP Tryz.prog 42 [.agg (bnC b),.agg (eC self),.int .u64 s,.int .u64 n] (.tup [.agg [.int .u64 0,.int .i64 0,.bool false,.int .u64 0,.int .u64 0,.str [],.str [],.bool false,.int .u64 0,.int .u64 0,.str [],.str [],.bool false,.int .u64 0,.int .u64 0,.str [],.str [],.int .u64 0,.int .u64 0,.int .u64 0,.sl .ext []],.int .i64 res]) []:=by
 obtain⟨⟨fl,sum,⟨di,dn,ds,dh,dd⟩,⟨ri,rn,rs,rh,rd⟩,⟨xi,xn,xs,xh,xd⟩,t,q,life⟩,l⟩:=b
 obtain⟨si,sn,ss,sh,sd⟩:=self
 try dsimp only at *
 rcases h with⟨t1,rfl⟩ | ⟨t1,t2,rfl⟩ | ⟨t1,t2,t3,rfl⟩ | ⟨t1,t2,t3,t4,rfl⟩
 all_goals
  refine AP.ofA (Zl Tryz.func42 U Tryz.ntmps42 U U ?_)
  repeat'(first|(apply Zb (hL);kernel_rfl;(iterate 4 exact U))|(apply Zb (hK);kernel_rfl;(iterate 4 exact U))|(apply Zh Za;exact U)|(apply Zg Za;exact U)|(apply Zo Za;exact U)|(apply Ze;(iterate 3 exact U);(first|with_reducible assumption|decide +kernel|(solve|simp only[bn])))|(apply Zn;(iterate 3 exact U);(first|with_reducible assumption|decide +kernel|(solve|simp only[bn])))|(apply Zk;exact U;(first|with_reducible assumption|decide +kernel|(solve|simp only[bn]));exact U;exact U)|(apply Zi;exact U;(first|with_reducible assumption|decide +kernel|(solve|simp only[bn]));exact U;exact U)|(apply Zd;exact U;(first|with_reducible assumption|decide +kernel|(solve|simp only[bn])))|(apply Zf;exact U;(first|with_reducible assumption|decide +kernel|(solve|simp only[bn]))))
  all_goals exact Qe
theorem Fb [Known](b:BunV)(self:EidV)(s n m κ k0 x0 y0:Int)(ok0:Bool)(c0:BlkV)
  (hL:AP Tryz.prog 86 [.agg (bnC b),.int .u64 s,.int .u64 n] (.tup [.int .u64 m,.int .i64 0]) [])
  (hK:AP Tryz.prog 87 [.agg (eC self)] (.int .i64 κ) []) (t2:decide (κ<1)=false) (t4:(m==0)=false)
  (hT:AP Tryz.prog 37 [.agg (bnC b),.int .u64 10] (.int .i64 k0) []) (ta:decide (k0 ≥ 0)=true) (ha:0<=k0) (hc:b.bl[k0.toNat]?=some c0)
  (hH:AP Tryz.prog 88 [byE c0.data] (.tup [.int .u64 x0,.int .u64 y0,.bool ok0]) []) (t5:(x0==y0)=true) :
  AP Tryz.prog 42 [.agg (bnC b),.agg (eC self),.int .u64 s,.int .u64 n] (.tup [.agg [.int .u64 0,.int .i64 0,.bool false,.int .u64 0,.int .u64 0,.str [],.str [],.bool false,.int .u64 0,.int .u64 0,.str [],.str [],.bool false,.int .u64 0,.int .u64 0,.str [],.str [],.int .u64 0,.int .u64 0,.int .u64 0,.sl .ext []],.int .i64 19]) []:=by
 have hU:=Vl b.bl
 have hv:=Yy hc
 rw[show((k0.toNat:Nat):Int)=k0 from by omega]at hv
 obtain⟨⟨fl,sum,⟨di,dn,ds,dh,dd⟩,⟨ri,rn,rs,rh,rd⟩,⟨xi,xn,xs,xh,xd⟩,t,q,life⟩,l⟩:=b
 obtain⟨si,sn,ss,sh,sd⟩:=self
 try dsimp only at *
 refine AP.ofA (Zl Tryz.func42 U Tryz.ntmps42 U U ?_)
 repeat'(first|(apply Zb (hL);kernel_rfl;(iterate 4 exact U))|(apply Zb (hK);kernel_rfl;(iterate 4 exact U))|(apply Zb (hT);kernel_rfl;(iterate 4 exact U))|(apply Zb (hH);kernel_rfl;(iterate 4 exact U))|(apply Zh Za;exact U)|(apply Zg Za;exact U)|(apply Zo Za;exact U)|(apply Ze;(iterate 3 exact U);(first|with_reducible assumption|decide +kernel|(solve|simp only[bn])))|(apply Zi;exact U;(first|with_reducible assumption|decide +kernel|(solve|simp only[bn]));exact U;exact U)|(apply Zd;exact U;(first|with_reducible assumption|decide +kernel|(solve|simp only[bn])))|(apply Zf;exact U;(first|with_reducible assumption|decide +kernel|(solve|simp only[bn])))|(apply Zu Za;(iterate 6 exact U);(first|exact Qt|rotate_left);(first|with_reducible assumption|decide +kernel|exact U);(first|exact Zj rfl|with_reducible assumption|decide +kernel|rotate_left)))
 all_goals exact Qe
def XM (self:EidV)(here:Int):List BlkV->List BlkV->Option (List BlkV)
 | acc,[]=>some acc
 | acc,c::r=>match(WV c self here).2 with
  | false=>none
  | true=>XM self here (acc++[(WV c self here).1]) r
theorem TM {self:EidV}{here:Int}(hE:ZE self=true):∀(l acc:List BlkV),(∀ c ∈ l,ZH c=true/\Qo c<18446744073709551616)->XM self here acc l=onC self here acc l
 | [],acc,_=>rfl
 | c::l,acc,h=>by
  obtain⟨h1,h2⟩:=Dk (here:=here) hE (h c (List.mem_cons_self ..)).1 (h c (List.mem_cons_self ..)).2
  have ih:=TM (here:=here) hE l
  rw[XM,onC,h1]
  cases hc:(Wi c self here).2 with
  | false=>rfl
  | true=>
   dsimp only
   rw[h2 hc]
   exact ih _ fun c hc=>h c (List.mem_cons_of_mem _ hc)
theorem RR {c:BlkV}(self:EidV)(here:Int)(hE:ZE self=true)(h:UB c)(hL:(WF c.data).1<18446744073709551616):UB (WV c self here).1:=by
 unfold WV
 cases hx:MQ c self here with
 | none=>exact h
 | some x=>exact⟨h.1,(RP hE hL hx).2.2⟩
end Go.Proofs.YtmljabhmajehnaaGreatDoor
end
