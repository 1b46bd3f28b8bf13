/- The document's answers for names: kinds. -/
import Derived.Test.YtmljabhmajehnaaGreatDoorR19
import Derived.Lib.ItoaNum
import Derived.Test.YtmljabhmajehnaaGreatDoorR17
import Derived.Test.YtmljabhmajehnaaGreatDoorR10
import Derived.Lib.ParseIntBCases
set_option linter.unusedVariables false
set_option linter.unusedSimpArgs false
section
open Go.RowKit Go.Pl Go.Av
namespace Go.Proofs.YtmljabhmajehnaaGreatDoor
set_option maxHeartbeats 4000000
theorem GL {x:EidV}(hi:x.i=true):ZQ x=true ↔ x.h=[]/\x.d=[]/\1<=(x.n:Int)/\(x.n:Int)<=4294967295/\(x.s:Int)<=4294967295:=by
 have hz:isZ x=false:=by simp[isZ,hi]
 rw[KG hz hi]
 simp[hi,and_assoc]
theorem LB {x:EidV}(hi:x.i=false):isZ x=true ↔ (x.n:Int)=0/\(x.s:Int)=0/\x.h=[]/\x.d=[]:=by
 simp[isZ,hi]
theorem GM {x:EidV}(hi:x.i=false)(hz:isZ x=false):ZQ x=true ↔ (x.n:Int)=0/\(x.s:Int)=0/\(x.h.length:Int) ≥ 1/\(x.h.length:Int)<=16/\(x.d.length:Int)<=24/\x.h.all (okB 45)=true/\x.d.all (okB 47)=true:=by
 rw[KH hz hi]
 simp only[Bool.and_eq_true,beq_iff_eq,decide_eq_true_eq,and_true,true_and,and_assoc,hi,beq_self_eq_true]
def Y8 (x:EidV):Int:=if x.i then(if ZQ x then 1 else -1) else if isZ x then 0 else if ZQ x then 2 else -1
theorem Jb (x:EidV):decide (Y8 x ≥ 0)=ZQ x:=by
 unfold Y8
 cases hi:x.i with
 | true=>cases ZQ x<;>rfl
 | false=>
  cases hz:isZ x with
  | true=>rw[KF hz];rfl
  | false=>cases ZQ x<;>rfl
theorem IL (x:EidV):decide (Y8 x<1)=(!(ZQ x)||isZ x):=by
 unfold Y8
 cases hi:x.i with
 | true=>
  have hz:isZ x=false:=by simp[isZ,hi]
  rw[hz];cases ZQ x<;>rfl
 | false=>
  cases hz:isZ x with
  | true=>rw[KF hz];rfl
  | false=>cases ZQ x<;>rfl
theorem X3 [Known](s:List UInt8)(b:Bool)(m:Nat)(hm:m=if b then 47 else 45)(hs:s.length<=9223372036854775807):AP Tryz.prog 127 [.str s,.bool b] (.bool (s.all (okB m))) []:=by
 refine AP.ofA (Zl Tryz.func127 U Tryz.ntmps127 U U ?_)
 repeat'(first|(apply Zg Za;exact U))
 refine ZJ (fun k tm bx fr=>∃ i,k+i=s.length/\(∀ c ∈ s.take i,okB m c=true)/\tm=[(0,.str s),(1,.bool b),(5,.int .i64 (i:Int))]/\bx=[]/\fr=[]) (s.length+1) (Lands.mk' (m:=s.length) (Nat.lt_succ_self _) ⟨0,rfl,by simp,rfl,rfl,rfl⟩ ?_ rfl rfl rfl rfl rfl rfl) ?_
 ·exact .cons rfl (.cons rfl (.cons rfl .nil))
 rintro k tm bx fr ⟨i,hk,hall,rfl,rfl,rfl⟩
 rcases Nat.lt_or_ge i s.length with hlt|hge
 ·have hd:decide ((i:Int)<(s.length:Int))=true:=by simp;omega
  obtain⟨c,hc⟩:∃ c,s[i]?=some c:=⟨_,List.getElem?_eq_getElem hlt⟩
  have hv:s[((i:Nat):Int).toNat]?=some c:=by simpa using hc
  have ei:IntKind.i64.wrap ((i:Int)+1)=((i+1:Nat):Int):=by rw[IntWalk.i64_in _ (by omega)];omega
  have hstep:okB m c=true->∀ x ∈ s.take (i+1),okB m x=true:=fun h x hx=>by
   rw[List.take_add_one,hc]at hx
   rcases List.mem_append.1 hx with hx|hx
   ·exact hall x hx
   ·simp at hx;subst hx;exact h
  have hbad:¬ okB m c=true->s.all (okB m)=false:=fun h=>List.all_eq_false.2 ⟨c,List.mem_of_getElem? hc,h⟩
  cases b with
  | false=>
   have hm':m=45:=hm
   subst hm'
   repeat'(first|rw[ei]|refine VY Za U U U U U (Int.natCast_nonneg _) hv ?_|(apply Zi Za;exact U)|(apply Zg Za;exact U)|(apply Zp Za;exact U)|(apply Ze;(iterate 3 exact U);(first|with_reducible assumption|(solve|simp only[bn])))|(apply Zt;(iterate 3 exact U);(first|with_reducible assumption|(solve|simp only[bn])))|(apply Zm;(iterate 3 exact U);(first|with_reducible assumption|(solve|simp only[bn])))|refine UC U U U ?_|(apply YB;exact U;exact U;all_goals intro hb)|(apply Zj;exact U;(first|with_reducible assumption|(solve|simp only[bn]));exact U;exact U)|(apply Zh;exact U;(first|with_reducible assumption|(solve|simp only[bn]));exact U;exact U)|(apply Zd;exact U;(first|with_reducible assumption|(solve|simp only[bn])))|(apply Zf;exact U;(first|with_reducible assumption|(solve|simp only[bn])))|refine Yf ?_|refine Yb Za U U U U ?_)
   all_goals first
    | (refine Lands.mk' (m:=k-1) (by omega) ⟨i+1,by omega,hstep ?_,rfl,rfl,rfl⟩ ?_ rfl rfl rfl rfl rfl rfl
       ·rw[Uf]
        clear hstep hbad hall
        simp only[decide_eq_true_eq,decide_eq_false_iff_not,beq_iff_eq,beq_eq_false_iff_ne,ne_eq,Bool.not_eq_false',Bool.not_eq_true']at *
        omega
       ·exact .cons rfl (.cons rfl (.cons rfl .nil)))
    | ((apply Zq [];(apply Zc Za;exact U);(iterate 4 exact U))
       ·rw[hbad (fun h=>by
          rw[Uf]at h
          clear hstep hbad hall
          simp only[decide_eq_true_eq,decide_eq_false_iff_not,beq_iff_eq,beq_eq_false_iff_ne,ne_eq,Bool.not_eq_false',Bool.not_eq_true']at *
          omega)]
       ·rfl)
  | true=>
   have hm':m=47:=hm
   subst hm'
   repeat'(first|rw[ei]|refine VY Za U U U U U (Int.natCast_nonneg _) hv ?_|(apply Zi Za;exact U)|(apply Zg Za;exact U)|(apply Zp Za;exact U)|(apply Ze;(iterate 3 exact U);(first|with_reducible assumption|(solve|simp only[bn])))|(apply Zt;(iterate 3 exact U);(first|with_reducible assumption|(solve|simp only[bn])))|(apply Zm;(iterate 3 exact U);(first|with_reducible assumption|(solve|simp only[bn])))|refine UC U U U ?_|(apply YB;exact U;exact U;all_goals intro hb)|(apply Zj;exact U;(first|with_reducible assumption|(solve|simp only[bn]));exact U;exact U)|(apply Zh;exact U;(first|with_reducible assumption|(solve|simp only[bn]));exact U;exact U)|(apply Zd;exact U;(first|with_reducible assumption|(solve|simp only[bn])))|(apply Zf;exact U;(first|with_reducible assumption|(solve|simp only[bn])))|(apply YR;exact U;all_goals intro hb)|refine Yf ?_|refine Yb Za U U U U ?_)
   all_goals first
    | (refine Lands.mk' (m:=k-1) (by omega) ⟨i+1,by omega,hstep ?_,rfl,rfl,rfl⟩ ?_ rfl rfl rfl rfl rfl rfl
       ·rw[Uf]
        clear hstep hbad hall
        simp only[decide_eq_true_eq,decide_eq_false_iff_not,beq_iff_eq,beq_eq_false_iff_ne,ne_eq,Bool.not_eq_false',Bool.not_eq_true']at *
        omega
       ·exact .cons rfl (.cons rfl (.cons rfl .nil)))
    | ((apply Zq [];(apply Zc Za;exact U);(iterate 4 exact U))
       ·rw[hbad (fun h=>by
          rw[Uf]at h
          clear hstep hbad hall
          simp only[decide_eq_true_eq,decide_eq_false_iff_not,beq_iff_eq,beq_eq_false_iff_ne,ne_eq,Bool.not_eq_false',Bool.not_eq_true']at *
          omega)]
       ·rfl)
 ·have hd:decide ((i:Int)<(s.length:Int))=false:=by simp;omega
  repeat'(first|(apply Zi Za;exact U)|(apply Zg Za;exact U)|(apply Zp Za;exact U)|(apply Zf;exact U;(first|with_reducible assumption|(solve|simp only[bn])))|refine Yb Za U U U U ?_)
  (apply Zq [];(apply Zc Za;exact U);(iterate 4 exact U))
  ·rw[List.take_of_length_le hge]at hall
   rw[List.all_eq_true.2 hall]
  ·rfl
def Fit (x:EidV):Prop:=x.h.length<=9223372036854775807/\x.d.length<=9223372036854775807
theorem W4 [Known](x:EidV)(hx:Fit x):AP Tryz.prog 87 [.agg (eC x)] (.int .i64 (Y8 x)) []:=by
 refine AP.ofA (Zl Tryz.func87 U Tryz.ntmps87 U U ?_)
 cases hi:x.i with
 | true=>
  have hE:=GL hi
  repeat'(first|(apply Zi Za;exact U)|(apply Zg Za;exact U)|(apply Zp Za;exact U)|(apply Ze;(iterate 3 exact U);(first|with_reducible assumption|(solve|simp only[bn])))|(apply Zm;(iterate 3 exact U);(first|with_reducible assumption|(solve|simp only[bn])))|(apply YB;exact U;exact U;all_goals intro hb)|(apply Zj;exact U;(first|with_reducible assumption|(solve|simp only[bn]));exact U;exact U)|(apply Zh;exact U;(first|with_reducible assumption|(solve|simp only[bn]));exact U;exact U)|(apply Zd;exact U;(first|with_reducible assumption|(solve|simp only[bn])))|(apply YR;exact U;all_goals intro hb))
  all_goals(apply Zq [];(apply Zc Za;exact U);(iterate 4 exact U))
  all_goals first
   | rfl
   | (unfold Y8
      rw[hi]
      simp only[if_true]
      simp only[decide_eq_true_eq,decide_eq_false_iff_not,beq_iff_eq,beq_eq_false_iff_ne,ne_eq,bne_iff_ne,bne_eq_false_iff_eq,Bool.not_eq_false',Bool.not_eq_true']at *
      split
      ·first
         | rfl
         | (exfalso;rename_i h;obtain⟨h1,h2,h3,h4,h5⟩:=hE.1 h;first|contradiction|omega)
      ·first
         | rfl
         | (exfalso;rename_i h;exact h (hE.2 ⟨by assumption,by assumption,by omega,by omega,by omega⟩)))
 | false=>
  have hZ:=LB hi
  have hE:=fun hz=>GM (x:=x) hi hz
  repeat'(first|(apply Zb (X3 x.h false 45 rfl hx.1);kernel_rfl;(iterate 4 exact U))|(apply Zb (X3 x.d true 47 rfl hx.2);kernel_rfl;(iterate 4 exact U))|(apply Zi Za;exact U)|(apply Zg Za;exact U)|(apply Zp Za;exact U)|(apply Ze;(iterate 3 exact U);(first|with_reducible assumption|(solve|simp only[bn])))|(apply Zt;(iterate 3 exact U);(first|with_reducible assumption|(solve|simp only[bn])))|(apply Zm;(iterate 3 exact U);(first|with_reducible assumption|(solve|simp only[bn])))|(apply YB;exact U;exact U;all_goals intro hb)|(apply Zj;exact U;(first|with_reducible assumption|(solve|simp only[bn]));exact U;exact U)|(apply Zh;exact U;(first|with_reducible assumption|(solve|simp only[bn]));exact U;exact U)|(apply Zd;exact U;(first|with_reducible assumption|(solve|simp only[bn])))|(apply Zf;exact U;(first|with_reducible assumption|(solve|simp only[bn])))|(apply YR;exact U;all_goals intro hb)|refine Yb Za U U U U ?_)
  all_goals(apply Zq [];(apply Zc Za;exact U);(iterate 4 exact U))
  all_goals first
   | rfl
   | (unfold Y8
      rw[hi]
      simp only[Bool.false_eq_true,if_false]
      simp only[decide_eq_true_eq,decide_eq_false_iff_not,beq_iff_eq,beq_eq_false_iff_ne,ne_eq,bne_iff_ne,bne_eq_false_iff_eq,Bool.not_eq_false',Bool.not_eq_true']at *
      split
      ·first
         | rfl
         | (exfalso;rename_i h;obtain⟨h1,h2,h3,h4⟩:=hZ.1 h;first|contradiction|omega)
      ·rename_i hz
       have hz':isZ x=false:=by simpa using hz
       split
       ·first
          | rfl
          | (exfalso;rename_i h;obtain⟨h1,h2,h3,h4,h5,h6,h7⟩:=(hE hz').1 h;first|contradiction|omega|(simp_all;done))
       ·first
          | rfl
          | (exfalso;rename_i h;exact h ((hE hz').2 ⟨by omega,by omega,by omega,by omega,by omega,by assumption,by assumption⟩))
          | (exfalso;exact hz (hZ.2 ⟨by assumption,by assumption,by assumption,by assumption⟩)))
theorem Qh [Known](x:EidV):AP Tryz.prog 28 [.agg (eC x)] (.agg (eC x)) []:=by
 refine AP.ofA (Zl Tryz.func28 U Tryz.ntmps28 U U ?_)
 repeat'(first|(apply Zg Za;exact U))
 (apply Zq [];(apply Zc Za;exact U);(iterate 4 exact U))
 all_goals rfl
theorem JD [Known](x:EidV)(t q:Nat)(hx:Fit x):AP Tryz.prog 74 [.agg (iC x t q)] (.bool (Yv x t q)) []:=by
 have hK:=W4 x hx
 have hg:=Jb x
 unfold Yv
 rw[<- hg]
 generalize Y8 x=κ at *
 clear hg hx
 obtain⟨xi,xn,xs,xh,xd⟩:=x
 cases t1:decide (κ ≥ 0)<;>cases t2:decide ((t:Int)<=1099511627776)<;>cases t3:decide ((q:Int)<=1099511627776)
 all_goals
  refine AP.ofA (Zl Tryz.func74 U Tryz.ntmps74 U U ?_)
  repeat'(first|(apply Zb (hK);kernel_rfl;(iterate 4 exact U))|(apply Zi Za;exact U)|(apply Zg Za;exact U)|refine Ze U U U Qt ?_|refine Zt U U U Qt ?_|refine Zj U Qt U U ?_|refine Zh U Qt U U ?_)
  all_goals(apply Zq [];(apply Zc Za;exact U);(iterate 4 exact U))
  all_goals first|rfl|(rw[t3];rfl)
def OX:List Nat:=[262144,131072,16384,32,4,2]
def KL:List E:=OX.map (fun(n:Nat)=>E.int .u64 (n:Int))
def rsN (fl:Nat):Nat->Nat
 | 0=>fl
 | i+1=>Z6 (rsN fl i) (OX.getD i 0)
theorem Bo (fl:Nat):rsN fl 6=X2 fl:=rfl
theorem SW (fl:Nat):∀ i,rsN fl i<=fl
 | 0=>Nat.le_refl _
 | i+1=>by
  have:=SW fl i
  show Z6 (rsN fl i) _<=fl
  unfold Z6
  split<;>omega
theorem Sc {i:Nat}(h:i<6):KL[((i:Nat):Int).toNat]?=some (.int .u64 ((OX.getD i 0:Nat):Int)):=by
 have:i=0\/i=1\/i=2\/i=3\/i=4\/i=5:=by omega
 rcases this with rfl|rfl|rfl|rfl|rfl|rfl<;>rfl
theorem Ta (p:PriV)(hfl:p.fl<18446744073709551616):YA p=((X2 p.fl==0)&&(decide (p.sum ≥ 0)&&(decide (p.sum<3)&&(decide (Y8 p.dest ≥ 0)&&(decide (Y8 p.rep ≥ 0)&&(Yv p.src p.t p.q&&decide ((p.life:Int)<=1099511627776))))))):=by
 unfold YA
 rw[H9 _ hfl,Jb,Jb]
 rw[show decide (p.sum<=2)=decide (p.sum<3) from by rw[decide_eq_decide];omega]
theorem Tb [Known](p:PriV)(hfl:p.fl<18446744073709551616)(hd:Fit p.dest)(hr:Fit p.rep)(hs:Fit p.src):AP Tryz.prog 78 [.agg (prC p)] (.bool (YA p)) []:=by
 rw[Ta p hfl]
 have hD:=W4 p.dest hd
 have hR:=W4 p.rep hr
 have hI:=JD p.src p.t p.q hs
 generalize Y8 p.dest=κ1 at *
 generalize Y8 p.rep=κ2 at *
 generalize Yv p.src p.t p.q=e3 at *
 clear hd hr hs
 obtain⟨fl,sum,⟨di,dn,ds,dh,dd⟩,⟨ri,rn,rs,rh,rd⟩,⟨xi,xn,xs,xh,xd⟩,t,q,life⟩:=p
 dsimp only at *
 refine AP.ofA (Zl Tryz.func78 U Tryz.ntmps78 U U ?_)
 repeat'(first|(apply Zi Za;exact U)|(apply Zg Za;exact U)|refine ZM Za U U U U U U U U U U U U ?_)
 refine ZJ (fun f tm bx fr=>∃(i:Nat),f+i=6/\tm=[(1,.ptr 0 0),(3,.int .u64 (rsN fl i:Int)),(4,.sl .ext KL),(5,.int .i64 (i:Int))]/\bx=[[.int .u64 (fl:Int),.int .i64 sum,.bool di,.int .u64 (dn:Int),.int .u64 (ds:Int),.str dh,.str dd,.bool ri,.int .u64 (rn:Int),.int .u64 (rs:Int),.str rh,.str rd,.bool xi,.int .u64 (xn:Int),.int .u64 (xs:Int),.str xh,.str xd,.int .u64 (t:Int),.int .u64 (q:Int),.int .u64 (life:Int)]]/\fr=[]) 7 (Lands.mk' (m:=6) (Nat.lt_succ_self _) ⟨0,by omega,rfl,rfl,rfl⟩ ?_ rfl rfl rfl rfl rfl rfl) ?_
 ·exact .cons rfl (.cons rfl (.wk rfl (.cons rfl .nil)))
 rintro f tm bx fr ⟨i,hf,rfl,rfl,rfl⟩
 rcases Nat.lt_or_ge i 6 with hlt|hge
 ·have hdl:decide ((i:Int)<((KL.length:Nat):Int))=true:=decide_eq_true (by show(i:Int)<6;omega)
  have hv:=Sc hlt
  have hU:Uni 1 KL:=Uni.map (f:=fun(n:Nat)=>E.int .u64 (n:Int)) (fun _=>rfl) OX
  have ei:IntKind.i64.wrap ((i:Int)+1)=((i+1:Nat):Int):=by rw[IntWalk.i64_in _ (by omega)];omega
  have hle:=SW fl i
  have hn:rsN fl (i+1)=Z6 (rsN fl i) (OX.getD i 0):=rfl
  have hi0:(0:Int)<=(i:Int):=by omega
  generalize KL=L at *
  generalize rsN fl i=r at *
  generalize OX.getD i 0=b at *
  cases hc:decide ((r:Int) ≥ (b:Int)) with
  | true=>
   have hrb:=of_decide_eq_true hc
   have hM:IntKind.u64.wrap ((r:Int)-(b:Int))=((r-b:Nat):Int):=by rw[IntKind.wrap_u64];omega
   have e:rsN fl (i+1)=r-b:=by rw[hn];unfold Z6;rw[if_pos (by omega)]
   repeat'(first|rw[ei]|rw[hM]|(apply Zi Za;exact U)|(apply Zg Za;exact U)|(apply Zp Za;exact U)|refine Zd U Qt ?_|refine Zn Za U U U U ?_|(apply Zu Za;(iterate 6 exact U);(first|exact Qt|rotate_left);(first|with_reducible assumption|decide +kernel|exact U);(first|exact Zk rfl|with_reducible assumption|decide +kernel|rotate_left)))
   refine Lands.mk' (m:=f-1) (by omega) ⟨i+1,by omega,by rw[e],rfl,rfl⟩ ?_ rfl rfl rfl rfl rfl rfl
   exact .cons rfl (.cons rfl (.cons rfl (.cons rfl .nil)))
  | false=>
   have hrb:=of_decide_eq_false hc
   have e:rsN fl (i+1)=r:=by rw[hn];unfold Z6;rw[if_neg (by omega)]
   repeat'(first|rw[ei]|(apply Zi Za;exact U)|(apply Zg Za;exact U)|(apply Zp Za;exact U)|refine Zd U Qt ?_|refine Zf U Qt ?_|refine Zn Za U U U U ?_|(apply Zu Za;(iterate 6 exact U);(first|exact Qt|rotate_left);(first|with_reducible assumption|decide +kernel|exact U);(first|exact Zk rfl|with_reducible assumption|decide +kernel|rotate_left)))
   refine Lands.mk' (m:=f-1) (by omega) ⟨i+1,by omega,by rw[e],rfl,rfl⟩ ?_ rfl rfl rfl rfl rfl rfl
   exact .cons rfl (.cons rfl (.cons rfl (.cons rfl .nil)))
 ·obtain rfl:i=6:=by omega
  have hdl:decide (((6:Nat):Int)<((KL.length:Nat):Int))=false:=rfl
  rw[Bo]
  have hz:(((X2 fl:Nat):Int)==0)=(X2 fl==0):=by rw[Bool.eq_iff_iff,beq_iff_eq,beq_iff_eq];omega
  rw[<- hz]
  generalize X2 fl=r at *
  generalize KL=L at *
  cases t1:((r:Int)==0) with
  | false=>
   repeat'(first|(apply Zi Za;exact U)|(apply Zg Za;exact U)|(apply Zp Za;exact U)|refine Zt U U U Qt ?_|refine Zh U Qt U U ?_|refine Zf U Qt ?_|refine Zn Za U U U U ?_)
   all_goals exact Qe
  | true=>
  cases t2:decide (sum ≥ 0) with
  | false=>
   repeat'(first|(apply Zi Za;exact U)|(apply Zg Za;exact U)|(apply Zp Za;exact U)|refine Ze U U U Qt ?_|refine Zt U U U Qt ?_|refine Zj U Qt U U ?_|refine Zh U Qt U U ?_|refine Zf U Qt ?_|refine Zn Za U U U U ?_)
   all_goals exact Qe
  | true=>
  cases t3:decide (sum<3) with
  | false=>
   repeat'(first|(apply Zi Za;exact U)|(apply Zg Za;exact U)|(apply Zp Za;exact U)|refine Ze U U U Qt ?_|refine Zt U U U Qt ?_|refine Zj U Qt U U ?_|refine Zh U Qt U U ?_|refine Zf U Qt ?_|refine Zn Za U U U U ?_)
   all_goals exact Qe
  | true=>
  cases t4:decide (κ1 ≥ 0) with
  | false=>
   repeat'(first|(apply Zb (hD);kernel_rfl;(iterate 4 exact U))|(apply Zi Za;exact U)|(apply Zg Za;exact U)|(apply Zp Za;exact U)|refine Ze U U U Qt ?_|refine Zt U U U Qt ?_|refine Zj U Qt U U ?_|refine Zh U Qt U U ?_|refine Zf U Qt ?_|refine Zn Za U U U U ?_)
   all_goals exact Qe
  | true=>
  cases t5:decide (κ2 ≥ 0) with
  | false=>
   repeat'(first|(apply Zb (hD);kernel_rfl;(iterate 4 exact U))|(apply Zb (hR);kernel_rfl;(iterate 4 exact U))|(apply Zi Za;exact U)|(apply Zg Za;exact U)|(apply Zp Za;exact U)|refine Ze U U U Qt ?_|refine Zt U U U Qt ?_|refine Zj U Qt U U ?_|refine Zh U Qt U U ?_|refine Zf U Qt ?_|refine Zn Za U U U U ?_)
   all_goals exact Qe
  | true=>
  cases e3
  ·repeat'(first|(apply Zb (hD);kernel_rfl;(iterate 4 exact U))|(apply Zb (hR);kernel_rfl;(iterate 4 exact U))|(apply Zb (hI);kernel_rfl;(iterate 4 exact U))|(apply Zi Za;exact U)|(apply Zg Za;exact U)|(apply Zp Za;exact U)|refine Ze U U U Qt ?_|refine Zt U U U Qt ?_|refine Zj U Qt U U ?_|refine Zh U Qt U U ?_|refine Zf U Qt ?_|refine Zn Za U U U U ?_)
   all_goals exact Qe
  cases t6:decide ((life:Int)<=1099511627776)
  all_goals
   repeat'(first|(apply Zb (hD);kernel_rfl;(iterate 4 exact U))|(apply Zb (hR);kernel_rfl;(iterate 4 exact U))|(apply Zb (hI);kernel_rfl;(iterate 4 exact U))|(apply Zi Za;exact U)|(apply Zg Za;exact U)|(apply Zp Za;exact U)|refine Ze U U U Qt ?_|refine Zj U Qt U U ?_|refine Zf U Qt ?_|refine Zn Za U U U U ?_)
   all_goals(apply Zq [];(apply Zc Za;exact U);(iterate 4 exact U))
   all_goals first|rfl|(rw[t6];rfl)
theorem LC {n:Nat}(h:0<n/10):Lib.decDigits n=Lib.decDigits (n/10)++[UInt8.ofNat (48+n % 10)]:=by
 rw[Lib.decDigits,dif_neg (by omega)]
theorem GN {n:Nat}(h:n/10=0):Lib.decDigits n=[UInt8.ofNat (48+n % 10)]:=by
 rw[Lib.decDigits,dif_pos (by omega),Nat.mod_eq_of_lt (by omega)]
theorem LD {k:Nat}(h:k<10):(UInt8.ofNat (48+k)).toNat=48+k:=by
 rw[UInt8.toNat_ofNat'];omega
theorem Tc:∀(k u:Nat),u<10 ^ (k+1)->(Lib.decDigits u).length<=k+1
 | 0,u,h=>by rw[Lib.decDigits,dif_pos (by simpa using h)];simp
 | k+1,u,h=>by
  rw[Lib.decDigits]
  by_cases h1:u<10
  ·rw[dif_pos h1];simp
  ·rw[dif_neg h1,List.length_append]
   have:=Tc k (u/10) (by rw[Nat.pow_succ]at h;omega)
   simp;omega
theorem OY [Known](N:Nat)(hN:N<18446744073709551616):AP Tryz.prog 193 [.int .u64 (N:Int)] (.str (Lib.decDigits N)) []:=by
 refine AP.ofA (Zl Tryz.func193 U Tryz.ntmps193 U U ?_)
 repeat'(first|(apply Zg Za;exact U))
 refine ZJ (fun k tm bx fr=>∃(n:Nat) (out:List UInt8),k=n+(if out=[] then 1 else 0)/\n<=N/\((out=[]/\n=N)\/(out ≠ []/\(if n=0 then out=Lib.decDigits N else Lib.decDigits n++out=Lib.decDigits N)))/\tm=[(0,.int .u64 (n:Int)),(2,.str []),(3,.str out)]/\bx=[]/\fr=[]) (N+2) (Lands.mk' (m:=N+1) (by omega) ⟨N,[],by simp,Nat.le_refl _,.inl ⟨rfl,rfl⟩,rfl,rfl,rfl⟩ ?_ rfl rfl rfl rfl rfl rfl) ?_
 ·exact .cons rfl (.cons rfl (.cons rfl .nil))
 rintro k tm bx fr ⟨n,out,hk,hn,hI,rfl,rfl,rfl⟩
 have hol:out.length<=20:=by
  have hd:=Tc 19 N (by omega)
  rcases hI with⟨rfl,_⟩ | ⟨_,h⟩
  ·simp
  ·split at h
   ·rw[h];exact hd
   ·rw[<- h,List.length_append]at hd;omega
 have e0:IntKind.u8.wrap (IntKind.u64.wrap (48+((n:Int)).tmod 10))=((UInt8.ofNat (48+n % 10)).toNat:Int):=by
  have hm:((n:Int)).tmod 10=((n % 10:Nat):Int):=by rw[Int.tmod_eq_emod_of_nonneg (by omega)];omega
  rw[hm,IntWalk.u64_in _ (by omega),LD (by omega),IntWalk.u8_in _ (by omega)];omega
 have e1:((n:Int)).tdiv 10=((n/10:Nat):Int):=by rw[Int.tdiv_eq_ediv_of_nonneg (by omega)];omega
 have e2:IntKind.u64.wrap ((n/10:Nat):Int)=((n/10:Nat):Int):=IntWalk.u64_in _ (by omega)
 have l1:[UInt8.ofNat (48+n % 10)].length+out.length<=maxLen:=by simp;unfold maxLen;omega
 have hgo:((out=[]/\n=N)\/(out ≠ []/\0<n/\Lib.decDigits n++out=Lib.decDigits N))->(if n/10=0 then [UInt8.ofNat (48+n % 10)]++out=Lib.decDigits N else Lib.decDigits (n/10)++([UInt8.ofNat (48+n % 10)]++out)=Lib.decDigits N):=fun h=>by
  have hh:Lib.decDigits n++out=Lib.decDigits N:=by
   rcases h with⟨rfl,rfl⟩ | ⟨_,_,h⟩
   ·simp
   ·exact h
  split
  ·rename_i h1;rw[<- hh,GN h1]
  ·rename_i h1;rw[<- hh,LC (n:=n) (by omega),List.append_assoc]
 rcases Nat.eq_zero_or_pos n with h0|h0
 ·subst h0
  have t1:decide (((0:Nat):Int)>0)=false:=by decide
  cases out with
  | nil=>
   repeat'(first|rw[e0]|rw[e2]|rw[e1]|refine Vf Za U (show _=[UInt8.ofNat (48+0 % 10)].map E.byte from rfl) U U U U U U U ?_|refine QD U U l1 U ?_|(apply Zi Za;exact U)|(apply Zg Za;exact U)|(apply Zp Za;exact U)|refine Ze U U U Qt ?_|refine Zh U Qt U U ?_|refine Zd U Qt ?_|refine Yt ?_|refine Qr Za U U U U U U U U U U U U ?_|(apply Vt;exact U;exact U;(first|exact Qt|rotate_left);exact U)|(apply Vu;exact U;exact U;(first|exact Qt|rotate_left);exact U))
   refine Lands.mk' (m:=0) (by simp at hk;omega) ⟨0,[UInt8.ofNat (48+0 % 10)]++[],by simp,by omega,.inr ⟨by simp,?_⟩,rfl,rfl,rfl⟩ ?_ rfl rfl rfl rfl rfl rfl
   ·rw[if_pos rfl]
    rcases hI with⟨_,rfl⟩ | ⟨h,_⟩
    ·rw[GN (by omega)];rfl
    ·exact absurd rfl h
   ·exact .cons rfl (.cons rfl (.cons rfl .nil))
  | cons c r=>
   have t2:(c::r==[])=false:=by simp
   have hR:c::r=Lib.decDigits N:=by
    rcases hI with⟨h,_⟩ | ⟨_,h⟩
    ·cases h
    ·exact h
   repeat'(first|(apply Zi Za;exact U)|(apply Zg Za;exact U)|(apply Zp Za;exact U)|refine Ze U U U Qt ?_|refine Zh U Qt U U ?_|refine Zf U Qt ?_)
   all_goals(apply Zq [];(apply Zc Za;exact U);(iterate 4 exact U))
   all_goals first|rfl|(rw[hR];done)|(rw[<- hR];rfl)
 ·have t1:decide ((n:Int)>0)=true:=decide_eq_true (by omega)
  have hx:=hgo (by
   rcases hI with h|⟨h,h2⟩
   ·exact .inl h
   ·rw[if_neg (by omega)]at h2;exact .inr ⟨h,h0,h2⟩)
  repeat'(first|rw[e0]|rw[e2]|rw[e1]|refine Vf Za U (show _=[UInt8.ofNat (48+n % 10)].map E.byte from rfl) U U U U U U U ?_|refine QD U U l1 U ?_|(apply Zi Za;exact U)|(apply Zg Za;exact U)|(apply Zp Za;exact U)|refine Zm U U U Qt ?_|refine Zj U Qt U U ?_|refine Zd U Qt ?_|refine Yt ?_|refine Qr Za U U U U U U U U U U U U ?_|(apply Vt;exact U;exact U;(first|exact Qt|rotate_left);exact U)|(apply Vu;exact U;exact U;(first|exact Qt|rotate_left);exact U))
  refine Lands.mk' (m:=n/10) (by omega) ⟨n/10,[UInt8.ofNat (48+n % 10)]++out,by simp,by omega,.inr ⟨by simp,hx⟩,rfl,rfl,rfl⟩ ?_ rfl rfl rfl rfl rfl rfl
  exact .cons rfl (.cons rfl (.cons rfl .nil))
def isD (c:UInt8):Bool:=decide ((c.toNat:Int) ≥ 48)&&decide ((c.toNat:Int)<=57)
def WB:Nat->Nat->List UInt8->Nat × Nat
 | 0,a,_=>(a,0)
 | f+1,a,[]=>(a,0)
 | f+1,a,c::r=>if isD c then((WB f (10*a+(c.toNat-48)) r).1,(WB f (10*a+(c.toNat-48)) r).2+1) else(a,0)
theorem Kn {c:UInt8}:isD c=true ↔ 48<=c.toNat/\c.toNat<=57:=by
 simp only[isD,Bool.and_eq_true,decide_eq_true_eq];omega
def WN (c:UInt8):List UInt8->List UInt8 × List UInt8 × Bool
 | []=>([],[],false)
 | x::s=>if x=c then([],s,true) else(x::(WN c s).1,(WN c s).2.1,(WN c s).2.2)
theorem Ng {c:UInt8}:∀ {s:List UInt8},c ∉ s->WN c s=(s,[],false)
 | [],_=>rfl
 | x::s,h=>by
  have h1:¬ x=c:=fun e=>h (by rw[e];exact List.mem_cons_self ..)
  have h2:=Ng (c:=c) (s:=s) fun hm=>h (List.mem_cons_of_mem _ hm)
  rw[WN,if_neg h1,h2]
theorem Ug {c:UInt8}:∀ {a b:List UInt8},c ∉ a->WN c (a++c::b)=(a,b,true)
 | [],b,_=>by rw[List.nil_append,WN,if_pos rfl]
 | x::a,b,h=>by
  have h1:¬ x=c:=fun e=>h (by rw[e];exact List.mem_cons_self ..)
  have h2:=Ug (c:=c) (a:=a) (b:=b) fun hm=>h (List.mem_cons_of_mem _ hm)
  rw[List.cons_append,WN,if_neg h1,h2]
theorem Jc {c:UInt8}:∀ {s:List UInt8},(WN c s).2.2=true->s=(WN c s).1++c::(WN c s).2.1
 | [],h=>by rw[WN]at h;cases h
 | x::s,h=>by
  rw[WN]at h ⊢
  by_cases e:x=c
  ·rw[if_pos e];rw[e];rfl
  ·rw[if_neg e]at h ⊢
   have:=Jc (c:=c) (s:=s) h
   dsimp only
   rw[List.cons_append,<- this]
def W9 (p s:List UInt8):List UInt8 × Bool:=if s.take p.length==p then(s.drop p.length,true) else(s,false)
theorem QO (p r:List UInt8):W9 p (p++r)=(r,true):=by
 unfold W9
 rw[List.take_left,beq_self_eq_true,if_pos rfl,List.drop_left]
theorem Nh {p s:List UInt8}(h:(s.take p.length==p)=false):W9 p s=(s,false):=by
 unfold W9;rw[h];rfl
theorem Jd {p s:List UInt8}(h:(W9 p s).2=true):s=p++(W9 p s).1:=by
 unfold W9 at h ⊢
 split at h
 ·rename_i hp
  rw[if_pos hp]
  have:=beq_iff_eq.1 hp
  conv=>lhs;rw[<- List.take_append_drop p.length s,this]
 ·cases h
def ppV (s:List UInt8):EidV × Bool:=
 (⟨false,0,0,(WN 47 (W9 [47,47] s).1).1,(WN 47 (W9 [47,47] s).1).2.1⟩,(W9 [47,47] s).2&&((WN 47 (W9 [47,47] s).1).2.2&&((WN 47 (W9 [47,47] s).1).1 != []&&ZQ ⟨false,0,0,(WN 47 (W9 [47,47] s).1).1,(WN 47 (W9 [47,47] s).1).2.1⟩)))
def Us:List UInt8:=[100,116,110,58,110,111,110,101]
def Vm:List UInt8:=[105,112,110,58]
def Ux:List UInt8:=[100,116,110,58]
theorem Vn {x:EidV}:isZ x=true ↔ x=Yi:=by
 obtain⟨i,n,s,h,d⟩:=x
 simp only[isZ,Yi,Bool.and_eq_true,beq_iff_eq,EidV.mk.injEq]
 constructor
 ·rintro⟨h1,h2,h3,h4,h5,_⟩
  exact⟨h1,by omega,by omega,h4,h5⟩
 ·rintro⟨h1,h2,h3,h4,h5⟩
  exact⟨h1,by omega,by omega,h4,h5,trivial⟩
theorem JE {m:Nat}{c:UInt8}{l:List UInt8}(hl:l.all (okB m)=true)(h:okB m c=false):c ∉ l:=fun hm=>by
 have:=List.all_eq_true.1 hl c hm
 rw[h]at this;cases this
def We (x:EidV):List UInt8:=[47,47]++x.h++[47]++x.d
theorem WE {x:EidV}(h:ZQ x=true)(hz:isZ x=false)(hi:x.i=true):x.n<=4294967295/\x.s<=4294967295/\x.h=[]/\x.d=[]/\1<=x.n:=by
 rw[KG hz hi]at h
 simp only[Bool.and_eq_true,decide_eq_true_eq,beq_iff_eq]at h
 obtain⟨⟨⟨⟨_,_,_,h1,h2,_⟩,h3⟩,h4⟩,h5⟩:=h
 exact⟨by omega,by omega,h1,h2,by omega⟩
theorem Wf {x:EidV}(h:ZQ x=true)(hz:isZ x=false)(hi:x.i=false):x.n=0/\x.s=0/\1<=x.h.length/\x.h.length<=16/\x.d.length<=24/\x.h.all (okB 45)=true/\x.d.all (okB 47)=true:=by
 rw[KH hz hi]at h
 simp only[Bool.and_eq_true,decide_eq_true_eq,beq_iff_eq]at h
 obtain⟨⟨⟨⟨⟨⟨_,h1,h2,_⟩,h3⟩,h4⟩,h5⟩,h6⟩,h7⟩:=h
 exact⟨by omega,by omega,by omega,by omega,by omega,h6,h7⟩
theorem Sd [Known](x:EidV)(h1:x.h.length<=16)(h2:x.d.length<=24):AP Tryz.prog 135 [.agg (eC x)] (.str (We x)) []:=by
 have l1:[(47:UInt8),47].length+x.h.length<=maxLen:=by simp;unfold maxLen;omega
 have l2:([(47:UInt8),47]++x.h).length + [(47:UInt8)].length<=maxLen:=by simp;unfold maxLen;omega
 have l3:([(47:UInt8),47]++x.h++[47]).length+x.d.length<=maxLen:=by simp;unfold maxLen;omega
 refine AP.ofA (Zl Tryz.func135 U Tryz.ntmps135 U U ?_)
 repeat'(first|(apply QD;exact U;exact U;(first|exact l1|exact l2|exact l3);exact U)|(apply Zi Za;exact U)|(apply Zg Za;exact U))
 all_goals exact Qe
theorem Ni (n:Nat)(hn:n<18446744073709551616):(Lib.decDigits n).length<=20:=by
 rw[Lib.decDigits_length]
 rcases Nat.eq_zero_or_pos n with rfl|h
 ·rw[Lib.nDigits_small (by omega)];omega
 ·have:=Lib.numDigits_eq n h hn;split at this<;>omega
def WR (x:EidV):List UInt8:=
 if isZ x then [100,116,110,58,110,111,110,101]
 else if x.i then [105,112,110,58]++Lib.decDigits x.n++[46]++Lib.decDigits x.s
 else [100,116,110,58]++We x
def puN (s:List UInt8):Nat:=match Lib.parseUintB 32 s with
 | .ok u=>u
 | .range=>4294967295
 | _=>0
def puB (s:List UInt8):Bool:=match Lib.parseUintB 32 s with
 | .ok _=>true
 | _=>false
theorem Nj {M:Nat}:∀ {l r:List UInt8} {acc v:Nat},Lib.parseUintM M acc l=.ok v->Lib.parseUintM M acc (l++r)=Lib.parseUintM M v r
 | [],r,acc,v,h=>by
  rw[Lib.parseUintM]at h
  injection h with h
  rw[List.nil_append,h]
 | c::l,r,acc,v,h=>by
  rw[Lib.parseUintM]at h
  rw[List.cons_append,Lib.parseUintM]
  split at h
  ·rename_i h1
   rw[if_pos h1]
   split at h
   ·cases h
   ·rename_i h2
    rw[if_neg h2]
    split at h
    ·cases h
    ·rename_i h3
     rw[if_neg h3]
     exact Nj h
  ·cases h
theorem Je {k:Nat}(h:k<10):(UInt8.ofNat (48+k)).toNat=48+k:=by
 rw[UInt8.toNat_ofNat'];omega
theorem Se:∀(u:Nat),u<=4294967295->Lib.parseUintM 4294967295 0 (Lib.decDigits u)=.ok u:=by
 intro u
 induction u using Nat.strongRecOn with
 | _ u ih=>
  intro hu
  rw[Lib.decDigits]
  by_cases h:u<10
  ·rw[dif_pos h,Lib.parseUintM,Je h,if_pos (by omega),if_neg (by omega),if_neg (by omega),Lib.parseUintM]
   congr 1;omega
  ·rw[dif_neg h,Nj (ih (u/10) (by omega) (by omega)),Lib.parseUintM,Je (by omega),if_pos (by omega),if_neg (by omega),if_neg (by omega),Lib.parseUintM]
   congr 1;omega
theorem Bp (u:Nat):Lib.decDigits u ≠ []:=by
 intro h
 have:=congrArg List.length h
 rw[Lib.decDigits_length]at this
 have:=Lib.nDigits_pos u
 simp at *;omega
theorem IM {u:Nat}(h:u<=4294967295):puN (Lib.decDigits u)=u/\puB (Lib.decDigits u)=true:=by
 have e:Lib.parseUintB 32 (Lib.decDigits u)=.ok u:=by
  unfold Lib.parseUintB
  rw[if_neg (Bp u)]
  exact Se u h
 unfold puN puB
 rw[e]
 exact⟨rfl,rfl⟩
theorem OZ:∀(u:Nat) (c:UInt8),c ∈ Lib.decDigits u->48<=c.toNat/\c.toNat<=57:=by
 intro u
 induction u using Nat.strongRecOn with
 | _ u ih=>
  intro c hc
  rw[Lib.decDigits]at hc
  by_cases h:u<10
  ·rw[dif_pos h]at hc
   rw[List.mem_singleton]at hc
   subst hc
   have:=Je h
   rw[this];omega
  ·rw[dif_neg h]at hc
   rcases List.mem_append.1 hc with hc|hc
   ·exact ih (u/10) (by omega) c hc
   ·rw[List.mem_singleton]at hc
    subst hc
    have:=Je (k:=u % 10) (by omega)
    rw[this];omega
def pnV (s:List UInt8):EidV × Bool:=
 (⟨true,puN (WN 46 s).1,puN (WN 46 s).2.1,[],[]⟩,(WN 46 s).2.2&&(puB (WN 46 s).1&&(puB (WN 46 s).2.1&&(ZQ ⟨true,puN (WN 46 s).1,puN (WN 46 s).2.1,[],[]⟩&&(Lib.decDigits (puN (WN 46 s).1)==(WN 46 s).1&&Lib.decDigits (puN (WN 46 s).2.1)==(WN 46 s).2.1)))))
def Yc (s:List UInt8):EidV × Bool:=
 if s==Us then(Yi,true)
 else if(W9 Vm s).2 then pnV (W9 Vm s).1
 else if(W9 Ux s).2 then ppV (W9 Ux s).1
 else(Yi,false)
theorem VB {s:List UInt8}(h:(Yc s).2=true):ZQ (Yc s).1=true/\WR (Yc s).1=s:=by
 unfold Yc at h ⊢
 by_cases h0:(s==Us)=true
 ·rw[if_pos h0]
  refine⟨by decide,?_⟩
  rw[beq_iff_eq.1 h0];decide
 rw[if_neg h0]at h ⊢
 by_cases h1:(W9 Vm s).2=true
 ·rw[if_pos h1]at h ⊢
  have e1:=Jd h1
  generalize (W9 Vm s).1=r at *
  unfold pnV at h ⊢
  dsimp only at h ⊢
  simp only[Bool.and_eq_true,beq_iff_eq]at h
  obtain⟨h2,h3,h4,h5,h6,h7⟩:=h
  refine⟨h5,?_⟩
  unfold WR
  rw[if_neg (by simp[isZ]),if_pos rfl,h6,h7,e1]
  have:=Jc h2
  conv=>rhs;rw[this]
  simp[Vm]
 rw[if_neg h1]at h ⊢
 by_cases h2:(W9 Ux s).2=true
 ·rw[if_pos h2]at h ⊢
  have e1:=Jd h2
  generalize (W9 Ux s).1=r at *
  unfold ppV at h ⊢
  dsimp only at h ⊢
  simp only[Bool.and_eq_true,bne_iff_ne]at h
  obtain⟨h3,h4,h5,h6⟩:=h
  have e2:=Jd h3
  generalize (W9 [47,47] r).1=q at *
  refine⟨h6,?_⟩
  unfold WR
  rw[if_neg (by rw[Vn];intro e;exact h5 (congrArg EidV.h e)),if_neg (by simp),e1,e2]
  have:=Jc h4
  conv=>rhs;rw[this]
  simp[We,Ux]
 ·rw[if_neg h2]at h;cases h
theorem GO {c:UInt8}(h:c.toNat<48\/57<c.toNat)(u:Nat):c ∉ Lib.decDigits u:=fun hm=>by
 have:=OZ u c hm
 omega
theorem JF {x:EidV}(h:ZQ x=true):Yc (WR x)=(x,true):=by
 unfold WR
 cases hz:isZ x with
 | true=>
  rw[if_pos rfl]
  rw[Vn.1 hz]
  decide
 | false=>
  rw[if_neg (by simp)]
  cases hi:x.i with
  | true=>
   obtain⟨b1,b2,b3,b4,b5⟩:=WE h hz hi
   rw[if_pos rfl]
   have e1:[105,112,110,58]++Lib.decDigits x.n++[46]++Lib.decDigits x.s=Vm++(Lib.decDigits x.n++46::Lib.decDigits x.s):=by simp[Vm]
   rw[e1]
   unfold Yc
   have e2:(Vm++(Lib.decDigits x.n++46::Lib.decDigits x.s)==Us)=false:=by simp[Vm,Us]
   rw[e2,QO,if_neg (by simp),if_pos rfl]
   unfold pnV
   dsimp only
   rw[Ug (GO (by decide) x.n)]
   dsimp only
   rw[(IM b1).1,(IM b1).2,(IM b2).1,(IM b2).2]
   have ex:(⟨true,x.n,x.s,[],[]⟩:EidV)=x:=by
    obtain⟨i,n,s,hh,d⟩:=x
    simp only at hi b3 b4
    rw[hi,b3,b4]
   rw[ex,h]
   simp
  | false=>
   obtain⟨b1,b2,b3,b4,b5,b6,b7⟩:=Wf h hz hi
   rw[if_neg (by simp)]
   have e1:[100,116,110,58]++We x=Ux++([47,47]++(x.h++47::x.d)):=by simp[We,Ux]
   rw[e1]
   unfold Yc
   have e2:(Ux++([47,47]++(x.h++47::x.d))==Us)=false:=by simp[Ux,Us]
   have e3:W9 Vm (Ux++([47,47]++(x.h++47::x.d)))=(Ux++([47,47]++(x.h++47::x.d)),false):=Nh (by simp[Ux,Vm])
   rw[e2,e3,QO,if_neg (by simp),if_neg (by simp),if_pos rfl]
   unfold ppV
   rw[QO]
   dsimp only
   rw[Ug (JE b6 (by decide))]
   dsimp only
   have ex:(⟨false,0,0,x.h,x.d⟩:EidV)=x:=by
    obtain⟨i,n,s,hh,d⟩:=x
    simp only at hi b1 b2
    rw[hi,b1,b2]
   rw[ex,h]
   have:(x.h != [])=true:=by
    rw[bne_iff_ne]
    intro e
    rw[e]at b3
    simp at b3
   rw[this]
   rfl
end Go.Proofs.YtmljabhmajehnaaGreatDoor
end
