/- Package hop: the blocks that are sent on, if one tells the previous name. -/
import Derived.Test.YtakblclkflnnpaaGreatDoorH43
import Derived.Test.YtakblclkflnnpaaGreatDoorH42
import Derived.Test.YtakblclkflnnpaaGreatDoorH27
import Derived.Test.YtakblclkflnnpaaGreatDoorH16
import Derived.Test.YtakblclkflnnpaaGreatDoorH01
import Derived.Test.YtakblclkflnnpaaGreatDoorH07
import Derived.Test.YtakblclkflnnpaaGreatDoorH11
set_option linter.unusedVariables false
set_option linter.unusedSimpArgs false
section
open Go.RowKit Go.Pl Go.Av
namespace Go.Proofs.YtakblclkflnnpaaGreatDoor
set_option maxHeartbeats 4000000
theorem Zuf [Known][KnownU8](fl:Nat)(sum:Int)(di ri xi:Bool)(dn ds rn rs xn xs t q life:Nat)(dh dd rh rd xh xd:List UInt8)(bl:List BlkV)(si:Bool)(sn ss:Nat)(sh sd:List UInt8)(since now e:Int)
  (hK:AP Tryz.prog 126 [.agg [.int .u64 (fl:Int),.int .i64 sum,.bool di,.int .u64 (dn:Int),.int .u64 (ds:Int),.str dh,.str dd,.bool ri,.int .u64 (rn:Int),.int .u64 (rs:Int),.str rh,.str rd,.bool xi,.int .u64 (xn:Int),.int .u64 (xs:Int),.str xh,.str xd,.int .u64 (t:Int),.int .u64 (q:Int),.int .u64 (life:Int),.sl .ext (Zbj bl)],.int .u64 since,.int .u64 now] (.int .i64 e) [])
  (hO:AP Tryz.prog 75 [.agg [.int .u64 (fl:Int),.int .i64 sum,.bool di,.int .u64 (dn:Int),.int .u64 (ds:Int),.str dh,.str dd,.bool ri,.int .u64 (rn:Int),.int .u64 (rs:Int),.str rh,.str rd,.bool xi,.int .u64 (xn:Int),.int .u64 (xs:Int),.str xh,.str xd,.int .u64 (t:Int),.int .u64 (q:Int),.int .u64 (life:Int),.sl .ext (Zbj bl)],.int .u64 since,.int .u64 now] (.tup [.bool false,.int .i64 e]) []) (t1:(e==3)=false)
  (hE:AP Tryz.prog 91 [.agg [.bool si,.int .u64 (sn:Int),.int .u64 (ss:Int),.str sh,.str sd]] (.bool true) []) (t2:((si==false)&&(((sn:Int)==0)&&(((ss:Int)==0)&&((sh==[])&&((sd==[])&&true)))))=false) (t3:(e != 0)=false)
  (hS:AP Tryz.prog 132 [.agg [.int .u64 (fl:Int),.int .i64 sum,.bool di,.int .u64 (dn:Int),.int .u64 (ds:Int),.str dh,.str dd,.bool ri,.int .u64 (rn:Int),.int .u64 (rs:Int),.str rh,.str rd,.bool xi,.int .u64 (xn:Int),.int .u64 (xs:Int),.str xh,.str xd,.int .u64 (t:Int),.int .u64 (q:Int),.int .u64 (life:Int),.sl .ext (Zbj bl)]] (.bool false) [])
  (hbl:bl.length<=1000) (hok:∀ c ∈ bl,Zoe c) (hfl:fl<18446744073709551616)
  (c0:BlkV) (hF:AP Tryz.prog 67 [.agg [.int .u64 (fl:Int),.int .i64 sum,.bool di,.int .u64 (dn:Int),.int .u64 (ds:Int),.str dh,.str dd,.bool ri,.int .u64 (rn:Int),.int .u64 (rs:Int),.str rh,.str rd,.bool xi,.int .u64 (xn:Int),.int .u64 (xs:Int),.str xh,.str xd,.int .u64 (t:Int),.int .u64 (q:Int),.int .u64 (life:Int),.sl .ext (Zbj bl)],.int .u64 6] (ZgM (some c0)) []) (d:D) (hd:onD (ZjW ⟨fl,sum,⟨di,dn,ds,dh,dd⟩,⟨ri,rn,rs,rh,rd⟩,⟨xi,xn,xs,xh,xd⟩,t,q,life⟩ (onC ⟨si,sn,ss,sh,sd⟩ (IntKind.u64.wrap (now-since)) [] bl))=d) :
  AP Tryz.prog 78 [.agg [.int .u64 (fl:Int),.int .i64 sum,.bool di,.int .u64 (dn:Int),.int .u64 (ds:Int),.str dh,.str dd,.bool ri,.int .u64 (rn:Int),.int .u64 (rs:Int),.str rh,.str rd,.bool xi,.int .u64 (xn:Int),.int .u64 (xs:Int),.str xh,.str xd,.int .u64 (t:Int),.int .u64 (q:Int),.int .u64 (life:Int),.sl .ext (Zbj bl)],.agg [.bool si,.int .u64 (sn:Int),.int .u64 (ss:Int),.str sh,.str sd],.int .u64 since,.int .u64 now] d []:=by
 have hlen:=Zb5 bl
 have hU:=ZgW bl
 generalize hFq:onC ⟨si,sn,ss,sh,sd⟩ (IntKind.u64.wrap (now-since)) [] bl=F at hd
 obtain⟨cty0,cnum0,cfl0,csum0,cdata0⟩:=c0
 dsimp only[ZgM]at hF
 refine AP.ofA (Zam Tryz.func78 U Tryz.ntmps78 U U ?_)
 repeat'(first|(apply Zaa (hK);kernel_rfl;(iterate 4 exact U))|(apply Zaa (hO);kernel_rfl;(iterate 4 exact U))|(apply Zaa (hE);kernel_rfl;(iterate 4 exact U))|(apply Zaa (hS);kernel_rfl;(iterate 4 exact U))|(apply Zaa (hF);kernel_rfl;(iterate 4 exact U))|(apply Zai Zab;exact U)|(apply Zag Zab;exact U)|(apply Zau Zab;exact U)|refine Zae U U U Qt ?_|refine Zah U Qt U U ?_|refine Zaf U Qt ?_|refine Zan Zab U U U U ?_|refine Zdr Zab U U U U Qk Qk U U U ?_)
 show AW _ _ _ _
 refine ZaB (fun f tm bx fr=>∃(i c:Nat) (acc:List BlkV) (f0:Fr),f+i=bl.length/\c=(Zbj acc).length/\(∀ c ∈ acc,Zoe c)/\acc.length<=i+1/\onC ⟨si,sn,ss,sh,sd⟩ (IntKind.u64.wrap (now-since)) acc (bl.drop i)=F/\tm=[(2,.int .u64 since),(3,.int .u64 now),(4,.ptr 0 0),(5,.ptr 1 0),(8,.ptr 2 0),(13,.ptr 3 0),(83,.sl .ext (Zbj bl)),(84,.int .i64 ((Zbj bl).length:Int)),(85,.int .i64 (i:Int))] /\
   ((acc=[]/\bx=[[.int .u64 (fl:Int),.int .i64 sum,.bool di,.int .u64 (dn:Int),.int .u64 (ds:Int),.str dh,.str dd,.bool ri,.int .u64 (rn:Int),.int .u64 (rs:Int),.str rh,.str rd,.bool xi,.int .u64 (xn:Int),.int .u64 (xs:Int),.str xh,.str xd,.int .u64 (t:Int),.int .u64 (q:Int),.int .u64 (life:Int),.sl .ext (Zbj bl)],[.bool si,.int .u64 (sn:Int),.int .u64 (ss:Int),.str sh,.str sd],[.int .u64 0,.int .i64 0,.bool false,.int .u64 0,.int .u64 0,.str [],.str [],.bool false,.int .u64 0,.int .u64 0,.str [],.str [],.bool false,.int .u64 0,.int .u64 0,.str [],.str [],.int .u64 0,.int .u64 0,.int .u64 0,.sl .nil []],[.int .u64 (fl:Int),.int .i64 sum,.bool di,.int .u64 (dn:Int),.int .u64 (ds:Int),.str dh,.str dd,.bool ri,.int .u64 (rn:Int),.int .u64 (rs:Int),.str rh,.str rd,.bool xi,.int .u64 (xn:Int),.int .u64 (xs:Int),.str xh,.str xd,.int .u64 (t:Int),.int .u64 (q:Int),.int .u64 (life:Int),.sl .nil []]]/\fr=[]) \/
   (bx=[[.int .u64 (fl:Int),.int .i64 sum,.bool di,.int .u64 (dn:Int),.int .u64 (ds:Int),.str dh,.str dd,.bool ri,.int .u64 (rn:Int),.int .u64 (rs:Int),.str rh,.str rd,.bool xi,.int .u64 (xn:Int),.int .u64 (xs:Int),.str xh,.str xd,.int .u64 (t:Int),.int .u64 (q:Int),.int .u64 (life:Int),.sl .ext (Zbj bl)],[.bool si,.int .u64 (sn:Int),.int .u64 (ss:Int),.str sh,.str sd],[.int .u64 0,.int .i64 0,.bool false,.int .u64 0,.int .u64 0,.str [],.str [],.bool false,.int .u64 0,.int .u64 0,.str [],.str [],.bool false,.int .u64 0,.int .u64 0,.str [],.str [],.int .u64 0,.int .u64 0,.int .u64 0,.sl .nil []],[.int .u64 (fl:Int),.int .i64 sum,.bool di,.int .u64 (dn:Int),.int .u64 (ds:Int),.str dh,.str dd,.bool ri,.int .u64 (rn:Int),.int .u64 (rs:Int),.str rh,.str rd,.bool xi,.int .u64 (xn:Int),.int .u64 (xs:Int),.str xh,.str xd,.int .u64 (t:Int),.int .u64 (q:Int),.int .u64 (life:Int),.sl (.own 1) (Zbj acc)]]/\fr=[f0,⟨c,5,58⟩]))) (bl.length+1) (Lands.mk' (m:=bl.length) (Nat.lt_succ_self _) ⟨0,0,[],default,by omega,rfl,by simp,by simp,hFq,rfl,.inl ⟨rfl,rfl,rfl⟩⟩ ?_ rfl rfl rfl rfl rfl rfl) ?_
 ·exact .cons rfl (.cons rfl (.cons rfl (.cons rfl (.cons rfl (.cons rfl (.cons rfl (.cons rfl (.cons rfl .nil))))))))
 rintro f tm bx fr ⟨i,c,acc,f0,hf,hc,hab,hal,hq,rfl,hst⟩
 rcases Nat.lt_or_ge i bl.length with hlt|hge
 ·have hdl:decide ((i:Int)<((Zbj bl).length:Int))=true:=decide_eq_true (by omega)
  obtain⟨z,hy⟩:∃ y,bl[i]?=some y:=⟨_,List.getElem?_eq_getElem hlt⟩
  have hzo:=hok z (List.mem_of_getElem? hy)
  have hG:=Zhq z ⟨si,sn,ss,sh,sd⟩ (IntKind.u64.wrap (now-since)) (Nat.le_trans hzo.2 (by omega)) (Zod (Nat.le_trans hzo.2 (by omega)))
  have hco:=Zi9 ⟨si,sn,ss,sh,sd⟩ (IntKind.u64.wrap (now-since)) hzo
  have hdr:bl.drop i=z::bl.drop (i+1):=by
   rw[List.drop_eq_getElem_cons hlt];congr 1
   exact(List.getElem?_eq_some_iff.1 hy).2
  rw[hdr,onC]at hq
  have ei:IntKind.i64.wrap ((i:Int)+1)=((i+1:Nat):Int):=by rw[IntWalk.i64_in _ (by omega)];omega
  have hv:=Zcc hy
  generalize Zeb z ⟨si,sn,ss,sh,sd⟩ (IntKind.u64.wrap (now-since))=r at *
  obtain⟨cb,ok⟩:=r
  obtain⟨zty,znum,zfl,zsum,zdata⟩:=z
  dsimp only at hq hco
  cases ok with
  | false=>
   replace hG:AP Tryz.prog 133 _ (.tup [.agg (bkC cb),.bool false]) []:=hG
   dsimp only at hq
   subst hq
   dsimp only[ZjW]at hd
   subst hd
   rcases hst with⟨rfl,rfl,rfl⟩ | ⟨rfl,rfl⟩
   ·repeat'(first|(apply Zaa (hG);kernel_rfl;(iterate 4 exact U))|(apply Zai Zab;exact U)|(apply Zag Zab;exact U)|(apply Zau Zab;exact U)|refine Zad U Qt ?_|(apply Zat Zab;(iterate 6 exact U);(first|exact Qt|rotate_left);(first|with_reducible assumption|decide +kernel|exact U);(first|exact Zaj rfl|with_reducible assumption|decide +kernel|rotate_left)))
    all_goals exact Qe
   ·repeat'(first|(apply Zaa (hG);kernel_rfl;(iterate 4 exact U))|(apply Zai Zab;exact U)|(apply Zag Zab;exact U)|(apply Zau Zab;exact U)|refine Zad U Qt ?_|(apply Zat Zab;(iterate 6 exact U);(first|exact Qt|rotate_left);(first|with_reducible assumption|decide +kernel|exact U);(first|exact Zaj rfl|with_reducible assumption|decide +kernel|rotate_left)))
    all_goals exact Qe
  | true=>
   replace hG:AP Tryz.prog 133 _ (.tup [.agg (bkC cb),.bool true]) []:=hG
   dsimp only at hq
   have hab2:∀ c ∈ acc++[cb],Zoe c:=fun c hc=>by
    rcases List.mem_append.1 hc with hc|hc
    ·exact hab c hc
    ·simp at hc;subst hc;exact hco
   have hU5:=ZgW acc
   have hUc:=ZgW [cb]
   subst hc
   have hbk:=Zb5 acc
   rcases hst with⟨rfl,rfl,rfl⟩ | ⟨rfl,rfl⟩
   ·repeat'(first|(apply Zaa (hG);kernel_rfl;(iterate 4 exact U))|rw[ei]|refine ZaO Zab U U U U U U (Zaj rfl) (List.cons_ne_nil _ _) U Qd Qd U U U ?_|(apply Zai Zab;exact U)|(apply Zag Zab;exact U)|refine Zad U Qt ?_|refine Zaf U Qt ?_|refine ZaL Zab U U U U U U U U U U U U ?_|(apply Zat Zab;(iterate 6 exact U);(first|exact Qt|rotate_left);(first|with_reducible assumption|decide +kernel|exact U);(first|exact Zaj rfl|with_reducible assumption|decide +kernel|rotate_left)))
    refine Lands.mk' (m:=f-1) (by omega) ⟨i+1,1,[cb],_,by omega,rfl,hab2,by simp,hq,rfl,.inr ⟨rfl,rfl⟩⟩ ?_ rfl rfl rfl rfl rfl rfl
    exact .cons rfl (.cons rfl (.cons rfl (.cons rfl (.cons rfl (.cons rfl (.cons rfl (.cons rfl (.cons rfl .nil))))))))
   ·have hs:Zbj acc++[bkE cb]=Zbj (acc++[cb]):=(List.map_append (f:=bkE) (l₁:=acc) (l₂:=[cb])).symm
    repeat'(first|(apply Zaa (hG);kernel_rfl;(iterate 4 exact U))|rw[ei]|(apply Zai Zab;exact U)|(apply Zag Zab;exact U)|refine Zad U Qt ?_|refine Zaf U Qt ?_|refine ZaL Zab U U U U U U U U U U U U ?_|(apply ZaF Zab;(iterate 6 exact U);(first|with_reducible assumption|decide +kernel|exact U|rotate_left);exact U;exact U;(first|exact Zaj rfl|with_reducible assumption|decide +kernel|rotate_left);(first|exact Zaj rfl|with_reducible assumption|decide +kernel|rotate_left);(first|exact Qt|rotate_left);(first|exact Qt|rotate_left);(first|exact Qt|rotate_left);exact U;exact U)|(apply Zat Zab;(iterate 6 exact U);(first|exact Qt|rotate_left);(first|with_reducible assumption|decide +kernel|exact U);(first|exact Zaj rfl|with_reducible assumption|decide +kernel|rotate_left)))
    ·refine Lands.mk' (m:=f-1) (by omega) ⟨i+1,(Zbj acc).length+1,acc++[cb],f0,by omega,by rw[<- hs,List.length_append];rfl,hab2,by simp;omega,hq,rfl,.inr ⟨by rw[<- hs],rfl⟩⟩ ?_ rfl rfl rfl rfl rfl rfl
     exact .cons rfl (.cons rfl (.cons rfl (.cons rfl (.cons rfl (.cons rfl (.cons rfl (.cons rfl (.cons rfl .nil))))))))
    all_goals(first|rfl|(simp only[List.length_append,List.length_cons,List.length_nil,List.length_map,Zaq];done)|(simp only[List.length_append,List.length_cons,List.length_nil,List.length_map,Zaq]at *;(try unfold maxLen);(try simp only[Nat.add_mul]);omega))
 ·have hdl:decide ((i:Int)<((Zbj bl).length:Int))=false:=decide_eq_false (by omega)
  have hqn:F=some acc:=by
   rw[<- hq,List.drop_eq_nil_of_le hge,onC]
  subst hqn
  dsimp only[ZjW]at hd
  have hRt:=Zft ⟨⟨fl,sum,⟨di,dn,ds,dh,dd⟩,⟨ri,rn,rs,rh,rd⟩,⟨xi,xn,xs,xh,xd⟩,t,q,life⟩,acc⟩ ⟨hfl,by show acc.length<=_;omega,hab⟩
  cases t13:Zbw ⟨⟨fl,sum,⟨di,dn,ds,dh,dd⟩,⟨ri,rn,rs,rh,rd⟩,⟨xi,xn,xs,xh,xd⟩,t,q,life⟩,acc⟩ with
  | false=>
   rw[t13]at hRt hd
   dsimp only at hd
   subst hd
   rcases hst with⟨rfl,rfl,rfl⟩ | ⟨rfl,rfl⟩
   ·repeat'(first|(apply Zaa (hRt);kernel_rfl;(iterate 4 exact U))|(apply Zai Zab;exact U)|(apply Zag Zab;exact U)|(apply Zau Zab;exact U)|refine Zad U Qt ?_|refine Zaf U Qt ?_)
    all_goals exact Qe
   ·repeat'(first|(apply Zaa (hRt);kernel_rfl;(iterate 4 exact U))|(apply Zai Zab;exact U)|(apply Zag Zab;exact U)|(apply Zau Zab;exact U)|refine Zad U Qt ?_|refine Zaf U Qt ?_)
    all_goals exact Qe
  | true=>
   rw[t13]at hRt hd
   dsimp only at hd
   subst hd
   rcases hst with⟨rfl,rfl,rfl⟩ | ⟨rfl,rfl⟩
   ·repeat'(first|(apply Zaa (hRt);kernel_rfl;(iterate 4 exact U))|(apply Zai Zab;exact U)|(apply Zag Zab;exact U)|(apply Zau Zab;exact U)|refine Zaf U Qt ?_)
    all_goals exact Qe
   ·repeat'(first|(apply Zaa (hRt);kernel_rfl;(iterate 4 exact U))|(apply Zai Zab;exact U)|(apply Zag Zab;exact U)|(apply Zau Zab;exact U)|refine Zaf U Qt ?_)
    all_goals exact Qe
theorem Zrf (b:BunV)(since now:Int):(ZdM b since now).2=ZgP b since now:=by
 unfold ZdM
 split
 ·rfl
 ·rename_i h;simpa using(by simpa using h:ZgP b since now=0).symm
theorem Zp1 [Known][KnownU8](b:BunV)(hb:BunOk b)(h1000:b.bl.length<=1000)(self:EidV)(since now:Int):AP Tryz.prog 78 [.agg (bnC b),.agg (eC self),.int .u64 since,.int .u64 now] (onD (onH b self since now)) []:=by
 have hK:=Zn8 b hb since now
 have hO:=ZfV b hb since now
 rw[Zrf]at hO
 have hE:=Zc2 self
 have hS:=Zob b hb
 have hN:=Zfu b hb
 have hP:AP Tryz.prog 42 [.int .u64 (ZlX b.bl:Int),.int .i64 0,.agg (eC self)] (ZqN (ofV 6 (ZlX b.bl) 0 (if ZaH self then Zbg self else .mk 0 0 [] []) (if ZaH self then 0 else 3))) []:=Zi7 (ZlX b.bl) 0 self
 have hF:=ZjT b 6 hb.len (fun c hc=>Nat.le_trans (hb.bl c hc).2 (by omega))
 have hpo:=Zsn b self
 have hfl:=hb.fl
 have hbl:∀ c ∈ b.bl,Zoe c:=hb.bl
 unfold onH Zsm
 have hpe:(ofV 6 (ZlX b.bl) 0 (if ZaH self then Zbg self else .mk 0 0 [] []) (if ZaH self then 0 else 3)).1=Zsl b self:=rfl
 generalize Zsl b self=pb at *
 generalize (ofV 6 (ZlX b.bl) 0 (if ZaH self then Zbg self else .mk 0 0 [] []) (if ZaH self then 0 else 3))=pr at *
 subst hpe
 generalize ZlX b.bl=nn at *
 generalize ZgP b since now=e at *
 generalize ZjV b since now=ov at *
 generalize Zk8 b=sp at *
 generalize ZaH self=er at *
 clear hb
 obtain⟨⟨fl,sum,⟨di,dn,ds,dh,dd⟩,⟨ri,rn,rs,rh,rd⟩,⟨xi,xn,xs,xh,xd⟩,t,q,life⟩,bl⟩:=b
 obtain⟨si,sn,ss,sh,sd⟩:=self
 dsimp only at *
 cases t1:(e==3) with
 | true=>exact Zt8 (si:=si) (sn:=sn) (ss:=ss) (sh:=sh) (sd:=sd) (hK:=hK) (hO:=hO) (t1:=t1)
 | false=>
 cases er with
 | false=>exact Zt9 (hK:=hK) (hO:=hO) (t1:=t1) (hE:=hE)
 | true=>
 cases t2:zE ⟨si,sn,ss,sh,sd⟩ with
 | true=>exact Zua (hK:=hK) (hO:=hO) (t1:=t1) (hE:=hE) (t2:=t2)
 | false=>
 cases t3:(e != 0) with
 | true=>exact Zub (hK:=hK) (hO:=hO) (t1:=t1) (hE:=hE) (t2:=t2) (t3:=t3)
 | false=>
 cases ov with
 | true=>exact Zuc (hK:=hK) (hO:=hO) (t1:=t1) (hE:=hE) (t2:=t2) (t3:=t3)
 | false=>
 cases sp with
 | true=>exact Zud (hK:=hK) (hO:=hO) (t1:=t1) (hE:=hE) (t2:=t2) (t3:=t3) (hS:=hS)
 | false=>
 obtain⟨pb,pe⟩:=pr
 cases hf:bl.find? (ZfL 6) with
 | none=>
  rw[hf]at hF
  exact Zue (hK:=hK) (hO:=hO) (t1:=t1) (hE:=hE) (t2:=t2) (t3:=t3) (hS:=hS) (hbl:=h1000) (hok:=hbl) (hfl:=hfl) (hpre:=hpo) (hN:=hN) (hP:=hP) (hF:=hF) (hd:=rfl)
 | some c=>
  rw[hf]at hF
  exact Zuf (hK:=hK) (hO:=hO) (t1:=t1) (hE:=hE) (t2:=t2) (t3:=t3) (hS:=hS) (hbl:=h1000) (hok:=hbl) (hfl:=hfl) (hF:=hF) (hd:=rfl)
theorem Zso (c:BlkV):Zjg c<=1099511627776:=by
 unfold Zjg
 split
 ·omega
 ·rename_i h
  have h0:ZfR c 7=0:=by simpa using h
  unfold ZfR at h0
  split at h0
  ·simp at h0
  ·rename_i hty
   split at h0
   ·simp at h0
   ·rename_i hr
    have hty:(c.ty:Int)=7:=by simpa using hty
    unfold ZaN at hr
    simp only[Bool.and_eq_true]at hr
    have hd:=hr.2.2.2.2
    unfold ZhQ at hd
    rw[Bool.and_eq_true]at hd
    have hk:=hd.1
    unfold ZlF at hk
    rw[hty]at hk
    have hk:(Zh4 c.data).2=true:=hk
    unfold Zh4 at hk ⊢
    simp only[Bool.and_eq_true,decide_eq_true_eq]at hk
    dsimp only
    omega
theorem Zof (b:BunV):Zl6 b<=1099511627776:=by
 unfold Zl6
 split
 ·exact Zso _
 ·omega
theorem ZjX {b:BunV}(h:Zbw b=true):b.p.life<=1099511627776/\b.p.t<=1099511627776:=by
 unfold Zbw Zgv at h
 simp only[Bool.and_eq_true,beq_iff_eq]at h
 obtain⟨hr,_⟩:=Zb4 (p:=b.p) (x:=(Zcy b.p).1) (Prod.ext rfl h.2.1.1)
 obtain⟨_,_,_,_,h5,h6⟩:=ZcQ hr
 exact⟨h6,(Zco.1 h5).2.1⟩
def Zrg (t life past now:Nat):Nat:=if 0<t then(if now<t then life+(t-now) else life-(now-t)) else life-past
theorem ZpD {t life old since now:Nat}(h1:t<=1099511627776)(h2:life<=1099511627776)(h3:old<=1099511627776)(h4:since<=now)(h5:now<=1099511627776) :
  ZlW t life (old:Int) (IntKind.u64.wrap ((now:Int)-(since:Int))) (now:Int)=(Zrg t life (old+(now-since)) now:Int):=by
 have e1:IntKind.u64.wrap ((now:Int)-(since:Int))=(now:Int)-since:=IntWalk.u64_in _ (by omega)
 rw[e1]
 have e2:IntKind.u64.wrap ((old:Int)+((now:Int)-since))=(old:Int)+(now-since):=IntWalk.u64_in _ (by omega)
 unfold ZlW Zrg
 rw[e2]
 split
 ·rename_i c1
  have c1:=of_decide_eq_true c1
  rw[if_pos (by omega)]
  split
  ·rename_i c2
   have c2:=of_decide_eq_true c2
   rw[if_pos (by omega),IntWalk.u64_in ((t:Int)-now) (by omega),IntWalk.u64_in _ (by omega)]
   omega
  ·rename_i c2
   have c2:=of_decide_eq_false c2
   have e3:IntKind.u64.wrap ((now:Int)-(t:Int))=(now:Int)-t:=IntWalk.u64_in _ (by omega)
   rw[if_neg (by omega),e3]
   split
   ·rename_i c3
    have c3:=of_decide_eq_true c3
    omega
   ·rename_i c3
    have c3:=of_decide_eq_false c3
    rw[IntWalk.u64_in _ (by omega)]
    omega
 ·rename_i c1
  have c1:=of_decide_eq_false c1
  rw[if_neg (by omega)]
  split
  ·rename_i c3
   have c3:=of_decide_eq_true c3
   omega
  ·rename_i c3
   have c3:=of_decide_eq_false c3
   rw[IntWalk.u64_in _ (by omega)]
   omega
theorem Zh0 {c:BlkV}(h:ZaN c=true):ZlF c.ty c.data=true:=by
 unfold ZaN ZhQ at h
 simp only[Bool.and_eq_true]at h
 exact h.2.2.2.2.1
theorem Zrh {c:BlkV}(hr:ZaN c=true)(ht:c.ty=7):Zrp c.data=Zjg c:=by
 have hk:=Zh0 hr
 unfold ZlF at hk
 rw[ht]at hk
 have hk:(Zh4 c.data).2=true:=hk
 unfold Zrp Zjg ZfR
 rw[hk,hr,ht]
 rfl
theorem Zja {b:BunV}(h:Zbw b=true):∀ c ∈ b.bl,ZaN c=true:=fun c hc=>by
 obtain⟨i,hi⟩:=List.getElem?_of_mem hc
 exact(ZdJ.1 (((ZgL b).1 h).1.ok i c hi)).1
theorem Zog {b:BunV}{since now:Nat}(h:ZgP b since now=0):Zbw b=true/\since<=now/\now<=1099511627776:=by
 unfold ZgP at h
 split at h
 ·cases h
 ·rename_i hr
  split at h
  ·cases h
  ·rename_i h2
   simp only[Bool.or_eq_false_iff,decide_eq_false_iff_not]at h2
   exact⟨hr,by omega,by omega⟩
theorem Zsp {b:BunV}{since now:Nat}(hr:Zbw b=true)(h1:since<=now)(h2:now<=1099511627776):atD b since now=if 0<b.p.t then(now:Int) else((Zl6 b+(now-since):Nat):Int):=by
 have e1:IntKind.u64.wrap ((now:Int)-(since:Int))=(now:Int)-since:=IntWalk.u64_in _ (by omega)
 have ha:=Zof b
 unfold atD
 cases h:((b.p.t:Int)==0) with
 | false=>
  have h:¬ ((b.p.t:Int)=0):=by simpa using h
  rw[if_pos (by omega)]
 | true=>
  have h:((b.p.t:Int)=0):=by simpa using h
  rw[if_neg (by omega)]
  dsimp only
  rw[e1]
  unfold Zl6 at ha ⊢
  cases hf:b.bl.find? (ZfL 7) with
  | none=>simp only;omega
  | some c=>
   have hty:c.ty=7:=by
    have h:=List.find?_some hf
    have h:(c.ty:Int)=7:=by simpa[ZfL]using h
    omega
   have e:=Zrh (Zja hr c (List.mem_of_find?_eq_some hf)) hty
   rw[hf]at ha
   simp only at ha ⊢
   rw[e,IntWalk.u64_in _ (by omega)]
   omega
theorem ZpE (b:BunV)(since now:Nat):Zi8 b since now=ZdM b since now:=by
 unfold Zi8 ZdM
 cases h:(ZgP b since now != 0) with
 | true=>rfl
 | false=>
  have h0:ZgP b since now=0:=by simpa using h
  obtain⟨hr,h1,h2⟩:=Zog h0
  obtain⟨p1,p2⟩:=ZjX hr
  have ha:=Zof b
  have e:=ZpD (t:=b.p.t) (life:=b.p.life) (old:=Zl6 b) p2 p1 ha h1 h2
  have e2:IntKind.u64.wrap ((b.p.t:Int)+(b.p.life:Int))=((b.p.t+b.p.life:Nat):Int):=by rw[IntWalk.u64_in _ (by omega)];omega
  dsimp only
  rw[e,e2,Zsp hr h1 h2,h0]
  unfold Zrg
  by_cases ht:0<b.p.t
  ·simp only[if_pos ht]
   rcases Nat.lt_or_ge now b.p.t with c2|c2
   ·rw[if_pos c2,decide_eq_false (by omega)]
    dsimp only
    rw[IntWalk.u64_in _ (by omega)]
    congr 1;omega
   ·rw[if_neg (by omega)]
    rcases Nat.lt_or_ge now (b.p.t+b.p.life) with c3|c3
    ·rw[decide_eq_false (by omega)]
     dsimp only
     rw[IntWalk.u64_in _ (by omega)]
     congr 1;omega
    ·rw[decide_eq_true (by omega)]
     dsimp only
     congr 1;omega
  ·simp only[if_neg ht]
   rcases Nat.lt_or_ge (Zl6 b+(now-since)) (b.p.t+b.p.life) with c3|c3
   ·rw[decide_eq_false (by omega)]
    dsimp only
    rw[IntWalk.u64_in _ (by omega)]
    congr 1;omega
   ·rw[decide_eq_true (by omega)]
    dsimp only
    congr 1;omega
def Zlb (p:PriV):Bool:=decide (IntKind.i64.wrap (IntKind.i64.wrap (IntKind.i64.wrap ((p.dest.h.length:Int)+(p.dest.d.length:Int))+(p.rep.h.length:Int))+(p.rep.d.length:Int))>300)||decide (IntKind.i64.wrap ((p.src.h.length:Int)+(p.src.d.length:Int))>300)
theorem Zoh [Known](p:PriV):AP Tryz.prog 12 [.agg (prC p)] (.bool (Zlb p)) []:=by
 have hI:=Znq p.src p.t p.q
 unfold Zlb
 obtain⟨fl,sum,⟨di,dn,ds,dh,dd⟩,⟨ri,rn,rs,rh,rd⟩,⟨xi,xn,xs,xh,xd⟩,t,q,life⟩:=p
 try dsimp only at *
 generalize (IntKind.i64.wrap ((xh.length:Int)+(xd.length:Int)))=w2 at *
 cases t1:decide (IntKind.i64.wrap (IntKind.i64.wrap (IntKind.i64.wrap ((dh.length:Int)+(dd.length:Int))+(rh.length:Int))+(rd.length:Int))>300)<;>cases t2:decide (w2>300)
 all_goals
  rw[t2]at hI
  refine AP.ofA (Zam Tryz.func12 U Tryz.ntmps12 U U ?_)
  repeat'(first|(apply Zaa (hI);kernel_rfl;(iterate 4 exact U))|(apply Zai Zab;exact U)|(apply Zag Zab;exact U)|refine Zae U U U Qt ?_|refine Zal U U U Qt ?_|refine Zak U Qt U U ?_|refine Zah U Qt U U ?_|refine Zbk Zab U U U U ?_)
  all_goals exact Qe
def Zsq (l:List BlkV):Bool:=l.any fun c=>decide ((c.data.length:Int)>400)
def ZgN (b:BunV):Bool:=decide ((b.bl.length:Int)>20)||(Zlb b.p||Zsq b.bl)
theorem Zlc {b:BunV}(h:ZgN b=false):b.bl.length<=20/\∀ c ∈ b.bl,c.data.length<=400:=by
 unfold ZgN Zsq at h
 simp only[Bool.or_eq_false_iff,decide_eq_false_iff_not,List.any_eq_false,decide_eq_true_eq]at h
 refine⟨by omega,fun c hc=>?_⟩
 have:=h.2.2 c hc
 omega
theorem Zoi [Known](b:BunV):AP Tryz.prog 57 [.agg (bnC b)] (.bool (ZgN b)) []:=by
 have hG:=Zoh b.p
 have hlen:=Zb5 b.bl
 unfold ZgN
 cases t0:decide ((b.bl.length:Int)>20) with
 | true=>
  have t1:decide (((Zbj b.bl).length:Int)>20)=true:=by rw[hlen];exact t0
  obtain⟨⟨fl,sum,⟨di,dn,ds,dh,dd⟩,⟨ri,rn,rs,rh,rd⟩,⟨xi,xn,xs,xh,xd⟩,t,q,life⟩,bl⟩:=b
  try dsimp only at *
  refine AP.ofA (Zam Tryz.func57 U Tryz.ntmps57 U U ?_)
  repeat'(first|(apply Zai Zab;exact U)|(apply Zag Zab;exact U)|(apply Zau Zab;exact U)|refine Zal U U U Qt ?_|refine Zak U Qt U U ?_|refine Zad U Qt ?_|refine Zan Zab U U U U ?_)
  all_goals exact Qe
 | false=>
 have h20:=of_decide_eq_false t0
 have t1:decide (((Zbj b.bl).length:Int)>20)=false:=by rw[hlen];exact t0
 generalize Zlb b.p=gp at *
 cases gp with
 | true=>
  obtain⟨⟨fl,sum,⟨di,dn,ds,dh,dd⟩,⟨ri,rn,rs,rh,rd⟩,⟨xi,xn,xs,xh,xd⟩,t,q,life⟩,bl⟩:=b
  try dsimp only at *
  refine AP.ofA (Zam Tryz.func57 U Tryz.ntmps57 U U ?_)
  repeat'(first|(apply Zaa (hG);kernel_rfl;(iterate 4 exact U))|(apply Zai Zab;exact U)|(apply Zag Zab;exact U)|(apply Zau Zab;exact U)|refine Zae U U U Qt ?_|refine Zah U Qt U U ?_|refine Zad U Qt ?_|refine Zan Zab U U U U ?_)
  all_goals exact Qe
 | false=>
 rw[Bool.false_or,Bool.false_or]
 obtain⟨⟨fl,sum,⟨di,dn,ds,dh,dd⟩,⟨ri,rn,rs,rh,rd⟩,⟨xi,xn,xs,xh,xd⟩,t,q,life⟩,bl⟩:=b
 try dsimp only at *
 have hU:=ZgW bl
 generalize hF:Zsq bl=F
 refine AP.ofA (Zam Tryz.func57 U Tryz.ntmps57 U U ?_)
 repeat'(first|(apply Zaa (hG);kernel_rfl;(iterate 4 exact U))|(apply Zai Zab;exact U)|(apply Zag Zab;exact U)|(apply Zau Zab;exact U)|refine Zae U U U Qt ?_|refine Zah U Qt U U ?_|refine Zaf U Qt ?_|refine Zan Zab U U U U ?_)
 show AW _ _ _ _
 refine ZaB (fun f tm bx fr=>∃(i:Nat),f+i=bl.length/\Zsq (bl.drop i)=F/\tm=[(1,.ptr 0 0),(3,.int .i64 (i:Int))]/\bx=[[.int .u64 (fl:Int),.int .i64 sum,.bool di,.int .u64 (dn:Int),.int .u64 (ds:Int),.str dh,.str dd,.bool ri,.int .u64 (rn:Int),.int .u64 (rs:Int),.str rh,.str rd,.bool xi,.int .u64 (xn:Int),.int .u64 (xs:Int),.str xh,.str xd,.int .u64 (t:Int),.int .u64 (q:Int),.int .u64 (life:Int),.sl .ext (Zbj bl)]]/\fr=[]) (bl.length+1) (Lands.mk' (m:=bl.length) (Nat.lt_succ_self _) ⟨0,by omega,hF,rfl,rfl,rfl⟩ ?_ rfl rfl rfl rfl rfl rfl) ?_
 ·exact .cons rfl (.cons rfl .nil)
 rintro f tm bx fr ⟨i,hf,hq,rfl,rfl,rfl⟩
 rcases Nat.lt_or_ge i bl.length with hlt|hge
 ·have hdl:decide ((i:Int)<((Zbj bl).length:Int))=true:=decide_eq_true (by omega)
  obtain⟨c,hy⟩:∃ y,bl[i]?=some y:=⟨_,List.getElem?_eq_getElem hlt⟩
  have hv:=Zcc hy
  have hdr:bl.drop i=c::bl.drop (i+1):=by
   rw[List.drop_eq_getElem_cons hlt];congr 1
   exact(List.getElem?_eq_some_iff.1 hy).2
  rw[hdr]at hq
  replace hq:(decide ((c.data.length:Int)>400)||Zsq (bl.drop (i+1)))=F:=hq
  have hcl:((c.data.map E.byte).length:Int)=(c.data.length:Int):=by rw[List.length_map]
  have ei:IntKind.i64.wrap ((i:Int)+1)=((i+1:Nat):Int):=by rw[IntWalk.i64_in _ (by omega)];omega
  rw[<- hcl]at hq
  cases hb:decide (((c.data.map E.byte).length:Int)>400) with
  | true=>
   rw[hb,Bool.true_or]at hq
   subst hq
   repeat'(first|(apply Zai Zab;exact U)|(apply Zag Zab;exact U)|(apply Zau Zab;exact U)|refine Zad U Qt ?_|refine Za2 ?_|refine Zan Zab U U U U ?_|(apply Zat Zab;(iterate 6 exact U);(first|exact Qt|rotate_left);(first|with_reducible assumption|decide +kernel|exact U);(first|exact Zaj rfl|with_reducible assumption|decide +kernel|rotate_left)))
   all_goals exact Qe
  | false=>
   rw[hb,Bool.false_or]at hq
   repeat'(first|rw[ei]|(apply Zai Zab;exact U)|(apply Zag Zab;exact U)|(apply Zau Zab;exact U)|refine Zad U Qt ?_|refine Zaf U Qt ?_|refine Zan Zab U U U U ?_|(apply Zat Zab;(iterate 6 exact U);(first|exact Qt|rotate_left);(first|with_reducible assumption|decide +kernel|exact U);(first|exact Zaj rfl|with_reducible assumption|decide +kernel|rotate_left)))
   refine Lands.mk' (m:=f-1) (by omega) ⟨i+1,by omega,hq,rfl,rfl,rfl⟩ ?_ rfl rfl rfl rfl rfl rfl
   exact .cons rfl (.cons rfl .nil)
 ·have hdl:decide ((i:Int)<((Zbj bl).length:Int))=false:=decide_eq_false (by omega)
  rw[List.drop_eq_nil_of_le hge]at hq
  replace hq:false=F:=hq
  subst hq
  repeat'(first|(apply Zai Zab;exact U)|(apply Zag Zab;exact U)|(apply Zau Zab;exact U)|refine Zaf U Qt ?_|refine Zan Zab U U U U ?_)
  all_goals exact Qe
abbrev hiC:List D:=[.int .u64 0,.int .i64 0,.bool false,.int .u64 0,.int .u64 0,.str [],.str [],.bool false,.int .u64 0,.int .u64 0,.str [],.str [],.bool false,.int .u64 0,.int .u64 0,.str [],.str [],.int .u64 0,.int .u64 0,.int .u64 0,.sl .ext [.agg [.int .u64 1,.int .u64 1,.int .u64 0,.int .i64 0,.sl [.int .u8 104,.int .u8 105]]]]
theorem fh7 [Known]:AP Tryz.prog 118 [.sl .ext [.int .u8 104,.int .u8 105]] (.agg hiC) []:=by
 refine AP.ofA (Zam Tryz.func118 U Tryz.ntmps118 U U ?_)
 repeat'(first|(apply Zai Zab;exact U)|(apply Zag Zab;exact U)|refine ZaL Zab U U U U U U U U U U U U ?_)
 all_goals exact Qe
def gB:BunV:=⟨⟨0,0,Zdj,Zdj,Zdj,5,0,10⟩,[⟨1,1,0,0,[104,105]⟩]⟩
def gS:EidV:=⟨false,0,0,[97],[]⟩
def gC:BunV:=⟨⟨0,0,Zdj,Zdj,Zdj,5,0,10⟩,[⟨6,2,0,0,[130,1,100,47,47,97,47]⟩,⟨1,1,0,0,[104,105]⟩]⟩
theorem ga1:ZjV gB 0 14=false:=by kernel_rfl
theorem ga2:ZjV gB 0 15=true:=by kernel_rfl
theorem ga3:ZdM gB 0 14=(1,0):=by kernel_rfl
theorem ga4:ZdM gB 0 15=(0,0):=by kernel_rfl
theorem ga5:ZdM gB 0 3=(12,0):=by kernel_rfl
theorem ga6:ZdM gB 4 3=(0,1):=by kernel_rfl
theorem ga7:onH gB gS 0 9=(gC,0):=by kernel_rfl
theorem ga8:onH gB gS 0 15=(bn0,18):=by kernel_rfl
theorem ga9:ZlX gC.bl=3:=by kernel_rfl
theorem Zl0:BunOk gB:=⟨by decide,by decide,by decide⟩
theorem Ztl:BunOk gC:=⟨by decide,by decide,by decide⟩
theorem Zl1 [Known][KnownU8]:AP Tryz.prog 72 [] (.bool true) []:=by
 have h1:=fh7
 have h2:=ZfV gB Zl0 0 14
 rw[ga1,ga3]at h2
 have h3:=ZfV gB Zl0 0 15
 rw[ga2,ga4]at h3
 have h4:=ZfU gB Zl0 0 3
 rw[ga5]at h4
 have h5:=Zp1 gB Zl0 (by decide) gS 0 9
 rw[ga7]at h5
 have h6:=Zp1 gB Zl0 (by decide) gS 0 15
 rw[ga8]at h6
 have h7:=ZfU gB Zl0 4 3
 rw[ga6]at h7
 have h8:=Zfu gC Ztl
 rw[ga9]at h8
 refine AP.ofA (Zam Tryz.func72 U Tryz.ntmps72 U U ?_)
 repeat'(first|(apply Zaa (h1);kernel_rfl;(iterate 4 exact U))|(apply Zaa (h2);kernel_rfl;(iterate 4 exact U))|(apply Zaa (h3);kernel_rfl;(iterate 4 exact U))|(apply Zaa (h4);kernel_rfl;(iterate 4 exact U))|(apply Zaa (h5);kernel_rfl;(iterate 4 exact U))|(apply Zaa (h6);kernel_rfl;(iterate 4 exact U))|(apply Zaa (h7);kernel_rfl;(iterate 4 exact U))|(apply Zaa (h8);kernel_rfl;(iterate 4 exact U))|(apply Zai Zab;exact U)|(apply Zag Zab;exact U)|refine Zae U U U Qt ?_|refine Zak U Qt U U ?_|refine Zan Zab U U U U ?_|refine ZsM Zab U U U U U U U U U U U U ?_)
 all_goals exact Qe
theorem Zug [Known](b:BunV)(s n:Nat)
  (hA:AP Tryz.prog 72 [] (.bool true) [])
  (hG:AP Tryz.prog 57 [.agg (bnC b)] (.bool true) []) :
  AP Tryz.prog 10 [.agg (bnC b),.int .u64 (s:Int),.int .u64 (n:Int)] (.bool true) []:=by
 obtain⟨⟨fl,sum,⟨di,dn,ds,dh,dd⟩,⟨ri,rn,rs,rh,rd⟩,⟨xi,xn,xs,xh,xd⟩,t,q,life⟩,bl⟩:=b
 try dsimp only at *
 refine AP.ofA (Zam Tryz.func10 U Tryz.ntmps10 U U ?_)
 repeat'(first|(apply Zaa (hA);kernel_rfl;(iterate 4 exact U))|(apply Zaa (hG);kernel_rfl;(iterate 4 exact U))|(apply Zai Zab;exact U)|(apply Zag Zab;exact U)|(apply Zau Zab;exact U)|(apply Zad;exact U;(first|with_reducible assumption|decide +kernel|(solve|simp only[bn]))))
 all_goals exact Qe
theorem Zuh [Known](b:BunV)(s n:Nat)(m e:Int)(ov:Bool)(nu:Nat)
  (hA:AP Tryz.prog 72 [] (.bool true) [])
  (hG:AP Tryz.prog 57 [.agg (bnC b)] (.bool false) [])
  (hS:AP Tryz.prog 63 [.agg (bnC b)] (.agg (bnC b)) [])
  (hL:AP Tryz.prog 73 [.agg (bnC b),.int .u64 (s:Int),.int .u64 (n:Int)] (.tup [.int .u64 m,.int .i64 e]) [])
  (hD:AP Tryz.prog 74 [.agg (bnC b),.int .u64 (s:Int),.int .u64 (n:Int)] (.tup [.int .u64 m,.int .i64 e]) [])
  (hO:AP Tryz.prog 75 [.agg (bnC b),.int .u64 (s:Int),.int .u64 (n:Int)] (.tup [.bool ov,.int .i64 e]) [])
  (hN:AP Tryz.prog 76 [.agg (bnC b)] (.int .u64 (nu:Int)) [])
  (hM:AP Tryz.prog 77 [.agg (bnC b)] (.int .u64 (nu:Int)) [])
  (y1:(m==m)=true) (y2:(e==e)=true) (y3:((nu:Int)==(nu:Int))=true) (hov:ov=((e==0)&&(m==0))) :
  AP Tryz.prog 10 [.agg (bnC b),.int .u64 (s:Int),.int .u64 (n:Int)] (.bool true) []:=by
 obtain⟨⟨fl,sum,⟨di,dn,ds,dh,dd⟩,⟨ri,rn,rs,rh,rd⟩,⟨xi,xn,xs,xh,xd⟩,t,q,life⟩,bl⟩:=b
 try dsimp only at *
 cases t1:(e==0) with
 | true=>
  rw[t1,Bool.true_and]at hov
  have t2:(ov==(m==0))=true:=by rw[hov];simp
  clear hov
  refine AP.ofA (Zam Tryz.func10 U Tryz.ntmps10 U U ?_)
  repeat'(first|(apply Zaa (hA);kernel_rfl;(iterate 4 exact U))|(apply Zaa (hG);kernel_rfl;(iterate 4 exact U))|(apply Zaa (hS);kernel_rfl;(iterate 4 exact U))|(apply Zaa (hL);kernel_rfl;(iterate 4 exact U))|(apply Zaa (hD);kernel_rfl;(iterate 4 exact U))|(apply Zaa (hO);kernel_rfl;(iterate 4 exact U))|(apply Zaa (hN);kernel_rfl;(iterate 4 exact U))|(apply Zaa (hM);kernel_rfl;(iterate 4 exact U))|(apply Zai Zab;exact U)|(apply Zag Zab;exact U)|(apply Zau Zab;exact U)|(apply Zae;(iterate 3 exact U);(first|with_reducible assumption|decide +kernel|(solve|simp only[bn])))|(apply Zak;exact U;(first|with_reducible assumption|decide +kernel|(solve|simp only[bn]));exact U;exact U)|(apply Zaf;exact U;(first|with_reducible assumption|decide +kernel|(solve|simp only[bn])))|(apply Zao 30 ZaQ;decide +kernel;kernel_rfl;kernel_rfl;kernel_rfl;exact U;exact U)|(apply Zas;(iterate 4 exact U))|exact AE.nil _ _ _ _|(apply Zaw;exact U)|(apply Zay;exact U;exact U;decide +kernel;exact U)|(apply Zaz;exact U)|exact AO.nil _ _ _|(apply Zar;(decide +kernel))|exact AOs.nil|exact ZaJ rfl rfl)
  all_goals(apply Zav [];(apply Zac Zab;exact U);(iterate 4 exact U))
  all_goals first|rfl|(rw[y3];done)
 | false=>
  rw[t1,Bool.false_and]at hov
  subst hov
  refine AP.ofA (Zam Tryz.func10 U Tryz.ntmps10 U U ?_)
  repeat'(first|(apply Zaa (hA);kernel_rfl;(iterate 4 exact U))|(apply Zaa (hG);kernel_rfl;(iterate 4 exact U))|(apply Zaa (hS);kernel_rfl;(iterate 4 exact U))|(apply Zaa (hL);kernel_rfl;(iterate 4 exact U))|(apply Zaa (hD);kernel_rfl;(iterate 4 exact U))|(apply Zaa (hO);kernel_rfl;(iterate 4 exact U))|(apply Zaa (hN);kernel_rfl;(iterate 4 exact U))|(apply Zaa (hM);kernel_rfl;(iterate 4 exact U))|(apply Zai Zab;exact U)|(apply Zag Zab;exact U)|(apply Zau Zab;exact U)|(apply Zae;(iterate 3 exact U);(first|with_reducible assumption|decide +kernel|(solve|simp only[bn])))|(apply Zap;(iterate 3 exact U);(first|with_reducible assumption|decide +kernel|(solve|simp only[bn])))|(apply Zak;exact U;(first|with_reducible assumption|decide +kernel|(solve|simp only[bn]));exact U;exact U)|(apply Zah;exact U;(first|with_reducible assumption|decide +kernel|(solve|simp only[bn]));exact U;exact U)|(apply Zaf;exact U;(first|with_reducible assumption|decide +kernel|(solve|simp only[bn])))|(apply Zao 30 ZaQ;decide +kernel;kernel_rfl;kernel_rfl;kernel_rfl;exact U;exact U)|(apply Zas;(iterate 4 exact U))|exact AE.nil _ _ _ _|(apply Zaw;exact U)|(apply Zay;exact U;exact U;decide +kernel;exact U)|(apply Zaz;exact U)|exact AO.nil _ _ _|(apply Zar;(decide +kernel))|exact AOs.nil|exact ZaJ rfl rfl)
  all_goals(apply Zav [];(apply Zac Zab;exact U);(iterate 4 exact U))
  all_goals first|rfl|(rw[y3];done)
theorem ZjY [Known][KnownU8](b:BunV)(s n:Nat)(hfb:b.p.fl<18446744073709551616/\∀ c ∈ b.bl,c.fl<18446744073709551616)(hf:Fit b.p.dest/\Fit b.p.rep/\Fit b.p.src):AP Tryz.prog 10 [.agg (bnC b),.int .u64 (s:Int),.int .u64 (n:Int)] (.bool true) []:=by
 have hA:=Zl1
 have hG:=Zoi b
 cases g1:ZgN b with
 | true=>
  rw[g1]at hG
  exact Zug b s n hA hG
 | false=>
 rw[g1]at hG
 have hb:BunOk b:=⟨hfb.1,by have:=(Zlc g1).1;omega,fun c hc=>⟨hfb.2 c hc,Nat.le_trans ((Zlc g1).2 c hc) (by omega)⟩⟩
 have hD:=ZpC b hb hf.1 hf.2.1 hf.2.2 (s:Int) (n:Int)
 rw[ZpE]at hD
 exact Zuh b s n (ZdM b s n).1 (ZdM b s n).2 (ZjV b s n) (ZlX b.bl) hA hG (Zsg b hb.len) (ZfU b hb s n) hD (ZfV b hb s n) (Zfu b hb) (ZlZ b hb) (by simp) (by simp) (by simp) rfl
end Go.Proofs.YtakblclkflnnpaaGreatDoor
end
section
open Go.RowKit Go.Pl
namespace Go.Pl
def Zld {α:Type}(P:Program)(fs:Array Field)(i o:Nat)(R:Rep α):Prop:=
 ∀(H:Type) (enc:TypeId × Value->H) (W:World) (spare:Nat->Bool) (held:Bool) (n:Nat) (cs:List Value) (xs:List (DataW H × List MemPlace)),cs.length=o+R.n->xs.length=fs.size ->
  (∀(j:Nat) (f:Field),fs[j]?=some f->DataW.trod enc P W 0 spare held n f.type ((cs.drop f.offset).take (P.cellsOf f.type))=xs[j]?)->∃ x,R.ok W (· < W.heap.size) (cs.drop o) x
variable {P:Program} {t:TypeId} {fs:Array Field}
theorem Zjb {α:Type}{R:Rep α}{i o:Nat}{f:Field}(hf:fs[i]?=some f)(ho:f.offset=o)(hc:P.cellsOf f.type=R.n)(h:Zcr P f.type R){H:Type}{enc:TypeId × Value->H}{W:World}{spare:Nat->Bool}{held:Bool}{n:Nat}{cs:List Value}{xs:List (DataW H × List MemPlace)}(hl:xs.length=fs.size)
  (hg:∀(j:Nat) (f:Field),fs[j]?=some f->DataW.trod enc P W 0 spare held n f.type ((cs.drop f.offset).take (P.cellsOf f.type))=xs[j]?):∃ x,R.ok W (· < W.heap.size) ((cs.drop o).take R.n) x:=by
 have e:=hg i f hf
 rw[ho,hc]at e
 have hi:i<xs.length:=by
  rw[hl]
  exact(Array.getElem?_eq_some_iff.1 hf).1
 exact h H enc W spare held n _ _ (e.trans (List.getElem?_eq_getElem hi))
theorem Zfv {α:Type}{R:Rep α}{i o:Nat}{f:Field}(hf:fs[i]?=some f)(ho:f.offset=o)(hc:P.cellsOf f.type=R.n)(h:Zcr P f.type R):Zld P fs i o R:=by
 intro H enc W spare held n cs xs hcl hl hg
 obtain⟨x,hx⟩:=Zjb hf ho hc h hl hg
 rw[List.take_of_length_le (by rw[List.length_drop];omega)]at hx
 exact⟨x,hx⟩
theorem ZbD {α β:Type}{R:Rep α}{R':Rep β}{i o:Nat}{f:Field}(hf:fs[i]?=some f)(ho:f.offset=o)(hc:P.cellsOf f.type=R.n)(h:Zcr P f.type R)(h':Zld P fs (i+1) (o+R.n) R'):Zld P fs i o (R.prod R'):=by
 intro H enc W spare held n cs xs hcl hl hg
 obtain⟨x,hx⟩:=Zjb hf ho hc h hl hg
 have hn:(R.prod R').n=R.n+R'.n:=rfl
 obtain⟨x',hx'⟩:=h' H enc W spare held n cs xs (by rw[hn]at hcl;omega) hl hg
 refine⟨(x,x'),(cs.drop o).take R.n,(cs.drop o).drop R.n,(List.take_append_drop _ _).symm,hx,?_⟩
 rw[List.drop_drop]
 exact hx'
theorem Zec {α:Type}{R:Rep α}(hs:P.underlying t=some (.struct fs))(hc:P.cellsOf t=R.n)(h:Zld P fs 0 0 R):Zcr P t R:=by
 intro H enc W spare held fuel cs y hy
 obtain⟨xs,n,_,_,hl,hxl,hg⟩:=DataW.trod_struct hs hy
 exact h H enc W spare held n cs xs (by omega) hxl hg
end Go.Pl
end
section
open Go.RowKit Go.Pl Go.Av
namespace Go.Proofs.YtakblclkflnnpaaGreatDoor
set_option maxHeartbeats 4000000
abbrev RPr:Rep (Nat × Int × XE × XE × (XE × Nat × Nat) × Nat):=Rep.u64.prod (Rep.i64.prod (RE.prod (RE.prod (Go.Pl.RI.prod Rep.u64))))
theorem Zsr:Zcr Tryz.prog 28 RPr:=
 Zec Tryz.underlying28 (by kernel_rfl) (ZbD rfl rfl (by kernel_rfl) (Zcs Tryz.underlying22) (ZbD rfl rfl (by kernel_rfl) (Zh6 Tryz.underlying3)
  (ZbD rfl rfl (by kernel_rfl) ZqR (ZbD rfl rfl (by kernel_rfl) ZqR (ZbD rfl rfl (by kernel_rfl) Zs7 (Zfv rfl rfl (by kernel_rfl) (Zcs Tryz.underlying22)))))))
abbrev XPr:=Nat × Int × XE × XE × (XE × Nat × Nat) × Nat
def XPr.v (x:XPr):PriV:=⟨x.1,x.2.1,x.2.2.1.v,x.2.2.2.1.v,x.2.2.2.2.1.1.v,x.2.2.2.2.1.2.1,x.2.2.2.2.1.2.2,x.2.2.2.2.2⟩
end Go.Proofs.YtakblclkflnnpaaGreatDoor
end
