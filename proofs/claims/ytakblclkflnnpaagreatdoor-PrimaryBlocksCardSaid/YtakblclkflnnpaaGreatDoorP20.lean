/- The document's answers for names: kinds. -/
import Derived.Test.YtakblclkflnnpaaGreatDoorP19
import Derived.Test.YtakblclkflnnpaaGreatDoorP18
import Derived.Laws.BitsAllLaws
import Derived.Test.YtakblclkflnnpaaGreatDoorP10
import Derived.Scope
import Derived.Test.YtakblclkflnnpaaGreatDoorP16
import Derived.Test.YtakblclkflnnpaaGreatDoorP12
import Derived.Test.YtakblclkflnnpaaGreatDoorP15
set_option linter.unusedVariables false
set_option linter.unusedSimpArgs false
section
open Go.RowKit Go.Pl Go.Av
namespace Go.Proofs.YtakblclkflnnpaaGreatDoor
set_option maxHeartbeats 4000000
theorem Zh6 {x:EidV}(hi:x.i=true):ZaL x=true ↔ x.h=[]/\x.d=[]/\1<=(x.n:Int)/\(x.n:Int)<=4294967295/\(x.s:Int)<=4294967295:=by
 have hz:isZ x=false:=by simp[isZ,hi]
 rw[Zgq hz hi]
 simp[hi,and_assoc]
theorem Zml {x:EidV}(hi:x.i=false):isZ x=true ↔ (x.n:Int)=0/\(x.s:Int)=0/\x.h=[]/\x.d=[]:=by
 simp[isZ,hi]
theorem Zh7 {x:EidV}(hi:x.i=false)(hz:isZ x=false):ZaL x=true ↔ (x.n:Int)=0/\(x.s:Int)=0/\(x.h.length:Int) ≥ 1/\(x.h.length:Int)<=16/\(x.d.length:Int)<=24/\x.h.all (okB 45)=true/\x.d.all (okB 47)=true:=by
 rw[Zgr hz hi]
 simp only[Bool.and_eq_true,beq_iff_eq,decide_eq_true_eq,and_true,true_and,and_assoc,hi,beq_self_eq_true]
def ZbS (x:EidV):Int:=if x.i then(if ZaL x then 1 else -1) else if isZ x then 0 else if ZaL x then 2 else -1
theorem Zev (x:EidV):decide (ZbS x ≥ 0)=ZaL x:=by
 unfold ZbS
 cases hi:x.i with
 | true=>cases ZaL x<;>rfl
 | false=>
  cases hz:isZ x with
  | true=>rw[Zgp hz];rfl
  | false=>cases ZaL x<;>rfl
theorem Zh8 (x:EidV):decide (ZbS x<1)=(!(ZaL x)||isZ x):=by
 unfold ZbS
 cases hi:x.i with
 | true=>
  have hz:isZ x=false:=by simp[isZ,hi]
  rw[hz];cases ZaL x<;>rfl
 | false=>
  cases hz:isZ x with
  | true=>rw[Zgp hz];rfl
  | false=>cases ZaL x<;>rfl
theorem Zfq [Known](s:List UInt8)(b:Bool)(m:Nat)(hm:m=if b then 47 else 45)(hs:s.length<=9223372036854775807):AP Tryz.prog 109 [.str s,.bool b] (.bool (s.all (okB m))) []:=by
 refine AP.ofA ?_
 refine Zap Tryz.func109 rfl Tryz.ntmps109 rfl rfl ?_
 repeat'(first|(apply Zai Zab;exact Z))
 refine ZaC (fun k tm bx fr=>∃ i,k+i=s.length/\(∀ c ∈ s.take i,okB m c=true)/\tm=[(0,.str s),(1,.bool b),(5,.int .i64 (i:Int))]/\bx=[]/\fr=[]) (s.length+1) (Lands.mk' (m:=s.length) (Nat.lt_succ_self _) ⟨0,rfl,by simp,rfl,rfl,rfl⟩ ?_ rfl rfl rfl rfl rfl rfl) ?_
 ·exact .cons rfl (.cons rfl (.cons rfl .nil))
 rintro k tm bx fr ⟨i,hk,hall,rfl,rfl,rfl⟩
 rcases Nat.lt_or_ge i s.length with hlt|hge
 ·have hd:decide ((i:Int)<(s.length:Int))=true:=by simp;omega
  obtain⟨c,hc⟩:∃ c,s[i]?=some c:=⟨_,List.getElem?_eq_getElem hlt⟩
  have hv:s[((i:Nat):Int).toNat]?=some c:=by simpa using hc
  have ei:IntKind.i64.wrap ((i:Int)+1)=((i+1:Nat):Int):=by rw[IntWalk.i64_in _ (by omega)];omega
  have hstep:okB m c=true->∀ x ∈ s.take (i+1),okB m x=true:=fun h x hx=>by
   rw[List.take_add_one,hc]at hx
   rcases List.mem_append.1 hx with hx|hx
   ·exact hall x hx
   ·simp at hx;subst hx;exact h
  have hbad:¬ okB m c=true->s.all (okB m)=false:=fun h=>List.all_eq_false.2 ⟨c,List.mem_of_getElem? hc,h⟩
  cases b with
  | false=>
   have hm':m=45:=hm
   subst hm'
   repeat'(first|rw[ei]|(apply Zc9 Zab;(iterate 5 exact Z);exact Int.natCast_nonneg _;exact hv)|(apply Zaj Zab;exact Z)|(apply Zai Zab;exact Z)|(apply Zay Zab;exact Z)|(apply Zaf;(iterate 3 exact Z);(first|with_reducible assumption|(solve|simp only[bn])))|(apply Zau;(iterate 3 exact Z);(first|with_reducible assumption|(solve|simp only[bn])))|(apply Zao;(iterate 3 exact Z);(first|with_reducible assumption|(solve|simp only[bn])))|(apply Zg1;(iterate 3 exact Z))|(apply Zb1;exact Z;exact Z;all_goals intro hb)|(apply Zak;exact Z;(first|with_reducible assumption|(solve|simp only[bn]));exact Z;exact Z)|(apply Zah;exact Z;(first|with_reducible assumption|(solve|simp only[bn]));exact Z;exact Z)|(apply Zac;exact Z;(first|with_reducible assumption|(solve|simp only[bn])))|(apply Zae;exact Z;(first|with_reducible assumption|(solve|simp only[bn])))|refine ZbI ?_|(apply Zbb Zab;(iterate 4 exact Z)))
   all_goals first
    | (refine Lands.mk' (m:=k-1) (by omega) ⟨i+1,by omega,hstep ?_,rfl,rfl,rfl⟩ ?_ rfl rfl rfl rfl rfl rfl
       ·rw[Zdc]
        clear hstep hbad hall
        simp only[decide_eq_true_eq,decide_eq_false_iff_not,beq_iff_eq,beq_eq_false_iff_ne,ne_eq,Bool.not_eq_false',Bool.not_eq_true']at *
        omega
       ·exact .cons rfl (.cons rfl (.cons rfl .nil)))
    | ((apply Zax [];(apply Zad Zab;exact Z);(iterate 4 exact Z))
       ·rw[hbad (fun h=>by
          rw[Zdc]at h
          clear hstep hbad hall
          simp only[decide_eq_true_eq,decide_eq_false_iff_not,beq_iff_eq,beq_eq_false_iff_ne,ne_eq,Bool.not_eq_false',Bool.not_eq_true']at *
          omega)]
       ·rfl)
  | true=>
   have hm':m=47:=hm
   subst hm'
   repeat'(first|rw[ei]|(apply Zc9 Zab;(iterate 5 exact Z);exact Int.natCast_nonneg _;exact hv)|(apply Zaj Zab;exact Z)|(apply Zai Zab;exact Z)|(apply Zay Zab;exact Z)|(apply Zaf;(iterate 3 exact Z);(first|with_reducible assumption|(solve|simp only[bn])))|(apply Zau;(iterate 3 exact Z);(first|with_reducible assumption|(solve|simp only[bn])))|(apply Zao;(iterate 3 exact Z);(first|with_reducible assumption|(solve|simp only[bn])))|(apply Zg1;(iterate 3 exact Z))|(apply Zb1;exact Z;exact Z;all_goals intro hb)|(apply Zak;exact Z;(first|with_reducible assumption|(solve|simp only[bn]));exact Z;exact Z)|(apply Zah;exact Z;(first|with_reducible assumption|(solve|simp only[bn]));exact Z;exact Z)|(apply Zac;exact Z;(first|with_reducible assumption|(solve|simp only[bn])))|(apply Zae;exact Z;(first|with_reducible assumption|(solve|simp only[bn])))|(apply Zb0;exact Z;all_goals intro hb)|refine ZbI ?_|(apply Zbb Zab;(iterate 4 exact Z)))
   all_goals first
    | (refine Lands.mk' (m:=k-1) (by omega) ⟨i+1,by omega,hstep ?_,rfl,rfl,rfl⟩ ?_ rfl rfl rfl rfl rfl rfl
       ·rw[Zdc]
        clear hstep hbad hall
        simp only[decide_eq_true_eq,decide_eq_false_iff_not,beq_iff_eq,beq_eq_false_iff_ne,ne_eq,Bool.not_eq_false',Bool.not_eq_true']at *
        omega
       ·exact .cons rfl (.cons rfl (.cons rfl .nil)))
    | ((apply Zax [];(apply Zad Zab;exact Z);(iterate 4 exact Z))
       ·rw[hbad (fun h=>by
          rw[Zdc]at h
          clear hstep hbad hall
          simp only[decide_eq_true_eq,decide_eq_false_iff_not,beq_iff_eq,beq_eq_false_iff_ne,ne_eq,Bool.not_eq_false',Bool.not_eq_true']at *
          omega)]
       ·rfl)
 ·have hd:decide ((i:Int)<(s.length:Int))=false:=by simp;omega
  repeat'(first|(apply Zaj Zab;exact Z)|(apply Zai Zab;exact Z)|(apply Zay Zab;exact Z)|(apply Zae;exact Z;(first|with_reducible assumption|(solve|simp only[bn])))|(apply Zbb Zab;(iterate 4 exact Z)))
  (apply Zax [];(apply Zad Zab;exact Z);(iterate 4 exact Z))
  ·rw[List.take_of_length_le hge]at hall
   rw[List.all_eq_true.2 hall]
  ·rfl
def Fit (x:EidV):Prop:=x.h.length<=9223372036854775807/\x.d.length<=9223372036854775807
theorem Zcm [Known](x:EidV)(hx:Fit x):AP Tryz.prog 45 [.agg (eC x)] (.int .i64 (ZbS x)) []:=by
 refine AP.ofA ?_
 refine Zap Tryz.func45 rfl Tryz.ntmps45 rfl rfl ?_
 cases hi:x.i with
 | true=>
  have hE:=Zh6 hi
  repeat'(first|(apply Zaj Zab;exact Z)|(apply Zai Zab;exact Z)|(apply Zay Zab;exact Z)|(apply Zaf;(iterate 3 exact Z);(first|with_reducible assumption|(solve|simp only[bn])))|(apply Zao;(iterate 3 exact Z);(first|with_reducible assumption|(solve|simp only[bn])))|(apply Zb1;exact Z;exact Z;all_goals intro hb)|(apply Zak;exact Z;(first|with_reducible assumption|(solve|simp only[bn]));exact Z;exact Z)|(apply Zah;exact Z;(first|with_reducible assumption|(solve|simp only[bn]));exact Z;exact Z)|(apply Zac;exact Z;(first|with_reducible assumption|(solve|simp only[bn])))|(apply Zb0;exact Z;all_goals intro hb))
  all_goals(apply Zax [];(apply Zad Zab;exact Z);(iterate 4 exact Z))
  all_goals first
   | rfl
   | (unfold ZbS
      rw[hi]
      simp only[if_true]
      simp only[decide_eq_true_eq,decide_eq_false_iff_not,beq_iff_eq,beq_eq_false_iff_ne,ne_eq,bne_iff_ne,bne_eq_false_iff_eq,Bool.not_eq_false',Bool.not_eq_true']at *
      split
      ·first
         | rfl
         | (exfalso;rename_i h;obtain⟨h1,h2,h3,h4,h5⟩:=hE.1 h;first|contradiction|omega)
      ·first
         | rfl
         | (exfalso;rename_i h;exact h (hE.2 ⟨by assumption,by assumption,by omega,by omega,by omega⟩)))
 | false=>
  have hZ:=Zml hi
  have hE:=fun hz=>Zh7 (x:=x) hi hz
  repeat'(first|(apply Zaa (Zfq x.h false 45 rfl hx.1);kernel_rfl;(iterate 4 exact Z))|(apply Zaa (Zfq x.d true 47 rfl hx.2);kernel_rfl;(iterate 4 exact Z))|(apply Zaj Zab;exact Z)|(apply Zai Zab;exact Z)|(apply Zay Zab;exact Z)|(apply Zaf;(iterate 3 exact Z);(first|with_reducible assumption|(solve|simp only[bn])))|(apply Zau;(iterate 3 exact Z);(first|with_reducible assumption|(solve|simp only[bn])))|(apply Zao;(iterate 3 exact Z);(first|with_reducible assumption|(solve|simp only[bn])))|(apply Zb1;exact Z;exact Z;all_goals intro hb)|(apply Zak;exact Z;(first|with_reducible assumption|(solve|simp only[bn]));exact Z;exact Z)|(apply Zah;exact Z;(first|with_reducible assumption|(solve|simp only[bn]));exact Z;exact Z)|(apply Zac;exact Z;(first|with_reducible assumption|(solve|simp only[bn])))|(apply Zae;exact Z;(first|with_reducible assumption|(solve|simp only[bn])))|(apply Zb0;exact Z;all_goals intro hb)|(apply Zbb Zab;(iterate 4 exact Z)))
  all_goals(apply Zax [];(apply Zad Zab;exact Z);(iterate 4 exact Z))
  all_goals first
   | rfl
   | (unfold ZbS
      rw[hi]
      simp only[Bool.false_eq_true,if_false]
      simp only[decide_eq_true_eq,decide_eq_false_iff_not,beq_iff_eq,beq_eq_false_iff_ne,ne_eq,bne_iff_ne,bne_eq_false_iff_eq,Bool.not_eq_false',Bool.not_eq_true']at *
      split
      ·first
         | rfl
         | (exfalso;rename_i h;obtain⟨h1,h2,h3,h4⟩:=hZ.1 h;first|contradiction|omega)
      ·rename_i hz
       have hz':isZ x=false:=by simpa using hz
       split
       ·first
          | rfl
          | (exfalso;rename_i h;obtain⟨h1,h2,h3,h4,h5,h6,h7⟩:=(hE hz').1 h;first|contradiction|omega|(simp_all;done))
       ·first
          | rfl
          | (exfalso;rename_i h;exact h ((hE hz').2 ⟨by omega,by omega,by omega,by omega,by omega,by assumption,by assumption⟩))
          | (exfalso;exact hz (hZ.2 ⟨by assumption,by assumption,by assumption,by assumption⟩)))
theorem ZkZ [Known](x:EidV):AP Tryz.prog 41 [.agg (eC x)] (.agg (eC x)) []:=by
 refine AP.ofA ?_
 refine Zap Tryz.func41 rfl Tryz.ntmps41 rfl rfl ?_
 repeat'(first|(apply Zai Zab;exact Z))
 (apply Zax [];(apply Zad Zab;exact Z);(iterate 4 exact Z))
 all_goals rfl
theorem ZjG [Known](x:EidV)(t q:Nat)(hx:Fit x):AP Tryz.prog 93 [.agg (iC x t q)] (.bool (Zb9 x t q)) []:=by
 have hK:=Zcm x hx
 have hg:=Zev x
 unfold Zb9
 rw[<- hg]
 generalize ZbS x=κ at *
 clear hg hx
 obtain⟨xi,xn,xs,xh,xd⟩:=x
 cases t1:decide (κ ≥ 0)<;>cases t2:decide ((t:Int)<=1099511627776)<;>cases t3:decide ((q:Int)<=1099511627776)
 all_goals
  refine AP.ofA ?_
  refine Zap Tryz.func93 rfl Tryz.ntmps93 rfl rfl ?_
  repeat'(first|(apply Zaa (hK);kernel_rfl;(iterate 4 exact Z))|(apply Zaj Zab;exact Z)|(apply Zai Zab;exact Z)|(apply Zaf;(iterate 3 exact Z);exact Go.Zqn)|(apply Zau;(iterate 3 exact Z);exact Go.Zqn)|(apply Zak;exact Z;exact Go.Zqn;exact Z;exact Z)|(apply Zah;exact Z;exact Go.Zqn;exact Z;exact Z))
  all_goals(apply Zax [];(apply Zad Zab;exact Z);(iterate 4 exact Z))
  all_goals first|rfl|(rw[t3];rfl)
def ZjH:List Nat:=[262144,131072,16384,32,4,2]
def Zh9:List E:=ZjH.map (fun(n:Nat)=>E.int .u64 (n:Int))
def rsN (fl:Nat):Nat->Nat
 | 0=>fl
 | i+1=>Zba (rsN fl i) (ZjH.getD i 0)
theorem ZoC (fl:Nat):rsN fl 6=Zhk fl:=rfl
theorem ZoD (fl:Nat):∀ i,rsN fl i<=fl
 | 0=>Nat.le_refl _
 | i+1=>by
  have:=ZoD fl i
  show Zba (rsN fl i) _<=fl
  unfold Zba
  split<;>omega
theorem ZnG {i:Nat}(h:i<6):Zh9[((i:Nat):Int).toNat]?=some (.int .u64 ((ZjH.getD i 0:Nat):Int)):=by
 have:i=0\/i=1\/i=2\/i=3\/i=4\/i=5:=by omega
 rcases this with rfl|rfl|rfl|rfl|rfl|rfl<;>rfl
theorem ZjI (p:PriV)(hfl:p.fl<18446744073709551616):Zbc p=((Zhk p.fl==0)&&(decide (p.sum ≥ 0)&&(decide (p.sum<3)&&(decide (ZbS p.dest ≥ 0)&&(decide (ZbS p.rep ≥ 0)&&(Zb9 p.src p.t p.q&&decide ((p.life:Int)<=1099511627776))))))):=by
 unfold Zbc
 rw[ZjF _ hfl,Zev,Zev]
 rw[show decide (p.sum<=2)=decide (p.sum<3) from by rw[decide_eq_decide];omega]
theorem Zf0 [Known](p:PriV)(hfl:p.fl<18446744073709551616)(hd:Fit p.dest)(hr:Fit p.rep)(hs:Fit p.src):AP Tryz.prog 21 [.agg (prC p)] (.bool (Zbc p)) []:=by
 rw[ZjI p hfl]
 have hD:=Zcm p.dest hd
 have hR:=Zcm p.rep hr
 have hI:=ZjG p.src p.t p.q hs
 generalize ZbS p.dest=κ1 at *
 generalize ZbS p.rep=κ2 at *
 generalize Zb9 p.src p.t p.q=e3 at *
 clear hd hr hs
 obtain⟨fl,sum,⟨di,dn,ds,dh,dd⟩,⟨ri,rn,rs,rh,rd⟩,⟨xi,xn,xs,xh,xd⟩,t,q,life⟩:=p
 dsimp only at *
 refine AP.ofA ?_
 refine Zap Tryz.func21 rfl Tryz.ntmps21 rfl rfl ?_
 repeat'(first|(apply Zaj Zab;exact Z)|(apply Zai Zab;exact Z)|(apply Za5 Zab;(iterate 12 exact Z)))
 refine ZaC (fun f tm bx fr=>∃(i:Nat),f+i=6/\tm=[(1,.ptr 0 0),(3,.int .u64 (rsN fl i:Int)),(4,.sl .ext Zh9),(5,.int .i64 (i:Int))]/\bx=[[.int .u64 (fl:Int),.int .i64 sum,.bool di,.int .u64 (dn:Int),.int .u64 (ds:Int),.str dh,.str dd,.bool ri,.int .u64 (rn:Int),.int .u64 (rs:Int),.str rh,.str rd,.bool xi,.int .u64 (xn:Int),.int .u64 (xs:Int),.str xh,.str xd,.int .u64 (t:Int),.int .u64 (q:Int),.int .u64 (life:Int)]]/\fr=[]) 7 (Lands.mk' (m:=6) (Nat.lt_succ_self _) ⟨0,by omega,rfl,rfl,rfl⟩ ?_ rfl rfl rfl rfl rfl rfl) ?_
 ·exact .cons rfl (.cons rfl (.wk rfl (.cons rfl .nil)))
 rintro f tm bx fr ⟨i,hf,rfl,rfl,rfl⟩
 rcases Nat.lt_or_ge i 6 with hlt|hge
 ·have hdl:decide ((i:Int)<((Zh9.length:Nat):Int))=true:=decide_eq_true (by show(i:Int)<6;omega)
  have hv:=ZnG hlt
  have hU:Uni 1 Zh9:=Uni.map (f:=fun(n:Nat)=>E.int .u64 (n:Int)) (fun _=>rfl) ZjH
  have ei:IntKind.i64.wrap ((i:Int)+1)=((i+1:Nat):Int):=by rw[IntWalk.i64_in _ (by omega)];omega
  have hle:=ZoD fl i
  have hn:rsN fl (i+1)=Zba (rsN fl i) (ZjH.getD i 0):=rfl
  have hi0:(0:Int)<=(i:Int):=by omega
  generalize Zh9=L at *
  generalize rsN fl i=r at *
  generalize ZjH.getD i 0=b at *
  cases hc:decide ((r:Int) ≥ (b:Int)) with
  | true=>
   have hrb:=of_decide_eq_true hc
   have hM:IntKind.u64.wrap ((r:Int)-(b:Int))=((r-b:Nat):Int):=by rw[IntKind.wrap_u64];omega
   have e:rsN fl (i+1)=r-b:=by rw[hn];unfold Zba;rw[if_pos (by omega)]
   repeat'(first|rw[ei]|rw[hM]|(apply Zaj Zab;exact Z)|(apply Zai Zab;exact Z)|(apply Zay Zab;exact Z)|(apply Zac;exact Z;exact Go.Zqn)|(apply Zal Zab;(iterate 4 exact Z))|(apply Zat Zab;(iterate 6 exact Z);(first|exact Go.Zqn|rotate_left);(first|with_reducible assumption|decide +kernel|exact Z);(first|exact Zag rfl|with_reducible assumption|decide +kernel|rotate_left)))
   refine Lands.mk' (m:=f-1) (by omega) ⟨i+1,by omega,by rw[e],rfl,rfl⟩ ?_ rfl rfl rfl rfl rfl rfl
   exact .cons rfl (.cons rfl (.cons rfl (.cons rfl .nil)))
  | false=>
   have hrb:=of_decide_eq_false hc
   have e:rsN fl (i+1)=r:=by rw[hn];unfold Zba;rw[if_neg (by omega)]
   repeat'(first|rw[ei]|(apply Zaj Zab;exact Z)|(apply Zai Zab;exact Z)|(apply Zay Zab;exact Z)|(apply Zac;exact Z;exact Go.Zqn)|(apply Zae;exact Z;exact Go.Zqn)|(apply Zal Zab;(iterate 4 exact Z))|(apply Zat Zab;(iterate 6 exact Z);(first|exact Go.Zqn|rotate_left);(first|with_reducible assumption|decide +kernel|exact Z);(first|exact Zag rfl|with_reducible assumption|decide +kernel|rotate_left)))
   refine Lands.mk' (m:=f-1) (by omega) ⟨i+1,by omega,by rw[e],rfl,rfl⟩ ?_ rfl rfl rfl rfl rfl rfl
   exact .cons rfl (.cons rfl (.cons rfl (.cons rfl .nil)))
 ·obtain rfl:i=6:=by omega
  have hdl:decide (((6:Nat):Int)<((Zh9.length:Nat):Int))=false:=rfl
  rw[ZoC]
  have hz:(((Zhk fl:Nat):Int)==0)=(Zhk fl==0):=by rw[Bool.eq_iff_iff,beq_iff_eq,beq_iff_eq];omega
  rw[<- hz]
  generalize Zhk fl=r at *
  generalize Zh9=L at *
  cases t1:((r:Int)==0) with
  | false=>
   repeat'(first|(apply Zaj Zab;exact Z)|(apply Zai Zab;exact Z)|(apply Zay Zab;exact Z)|(apply Zau;(iterate 3 exact Z);exact Go.Zqn)|(apply Zah;exact Z;exact Go.Zqn;exact Z;exact Z)|(apply Zae;exact Z;exact Go.Zqn)|(apply Zal Zab;(iterate 4 exact Z)))
   all_goals(apply Zax [];(apply Zad Zab;exact Z);(iterate 4 exact Z))
   all_goals rfl
  | true=>
  cases t2:decide (sum ≥ 0) with
  | false=>
   repeat'(first|(apply Zaj Zab;exact Z)|(apply Zai Zab;exact Z)|(apply Zay Zab;exact Z)|(apply Zaf;(iterate 3 exact Z);exact Go.Zqn)|(apply Zau;(iterate 3 exact Z);exact Go.Zqn)|(apply Zak;exact Z;exact Go.Zqn;exact Z;exact Z)|(apply Zah;exact Z;exact Go.Zqn;exact Z;exact Z)|(apply Zae;exact Z;exact Go.Zqn)|(apply Zal Zab;(iterate 4 exact Z)))
   all_goals(apply Zax [];(apply Zad Zab;exact Z);(iterate 4 exact Z))
   all_goals rfl
  | true=>
  cases t3:decide (sum<3) with
  | false=>
   repeat'(first|(apply Zaj Zab;exact Z)|(apply Zai Zab;exact Z)|(apply Zay Zab;exact Z)|(apply Zaf;(iterate 3 exact Z);exact Go.Zqn)|(apply Zau;(iterate 3 exact Z);exact Go.Zqn)|(apply Zak;exact Z;exact Go.Zqn;exact Z;exact Z)|(apply Zah;exact Z;exact Go.Zqn;exact Z;exact Z)|(apply Zae;exact Z;exact Go.Zqn)|(apply Zal Zab;(iterate 4 exact Z)))
   all_goals(apply Zax [];(apply Zad Zab;exact Z);(iterate 4 exact Z))
   all_goals rfl
  | true=>
  cases t4:decide (κ1 ≥ 0) with
  | false=>
   repeat'(first|(apply Zaa (hD);kernel_rfl;(iterate 4 exact Z))|(apply Zaj Zab;exact Z)|(apply Zai Zab;exact Z)|(apply Zay Zab;exact Z)|(apply Zaf;(iterate 3 exact Z);exact Go.Zqn)|(apply Zau;(iterate 3 exact Z);exact Go.Zqn)|(apply Zak;exact Z;exact Go.Zqn;exact Z;exact Z)|(apply Zah;exact Z;exact Go.Zqn;exact Z;exact Z)|(apply Zae;exact Z;exact Go.Zqn)|(apply Zal Zab;(iterate 4 exact Z)))
   all_goals(apply Zax [];(apply Zad Zab;exact Z);(iterate 4 exact Z))
   all_goals rfl
  | true=>
  cases t5:decide (κ2 ≥ 0) with
  | false=>
   repeat'(first|(apply Zaa (hD);kernel_rfl;(iterate 4 exact Z))|(apply Zaa (hR);kernel_rfl;(iterate 4 exact Z))|(apply Zaj Zab;exact Z)|(apply Zai Zab;exact Z)|(apply Zay Zab;exact Z)|(apply Zaf;(iterate 3 exact Z);exact Go.Zqn)|(apply Zau;(iterate 3 exact Z);exact Go.Zqn)|(apply Zak;exact Z;exact Go.Zqn;exact Z;exact Z)|(apply Zah;exact Z;exact Go.Zqn;exact Z;exact Z)|(apply Zae;exact Z;exact Go.Zqn)|(apply Zal Zab;(iterate 4 exact Z)))
   all_goals(apply Zax [];(apply Zad Zab;exact Z);(iterate 4 exact Z))
   all_goals rfl
  | true=>
  cases e3
  ·repeat'(first|(apply Zaa (hD);kernel_rfl;(iterate 4 exact Z))|(apply Zaa (hR);kernel_rfl;(iterate 4 exact Z))|(apply Zaa (hI);kernel_rfl;(iterate 4 exact Z))|(apply Zaj Zab;exact Z)|(apply Zai Zab;exact Z)|(apply Zay Zab;exact Z)|(apply Zaf;(iterate 3 exact Z);exact Go.Zqn)|(apply Zau;(iterate 3 exact Z);exact Go.Zqn)|(apply Zak;exact Z;exact Go.Zqn;exact Z;exact Z)|(apply Zah;exact Z;exact Go.Zqn;exact Z;exact Z)|(apply Zae;exact Z;exact Go.Zqn)|(apply Zal Zab;(iterate 4 exact Z)))
   all_goals(apply Zax [];(apply Zad Zab;exact Z);(iterate 4 exact Z))
   all_goals rfl
  cases t6:decide ((life:Int)<=1099511627776)
  all_goals
   repeat'(first|(apply Zaa (hD);kernel_rfl;(iterate 4 exact Z))|(apply Zaa (hR);kernel_rfl;(iterate 4 exact Z))|(apply Zaa (hI);kernel_rfl;(iterate 4 exact Z))|(apply Zaj Zab;exact Z)|(apply Zai Zab;exact Z)|(apply Zay Zab;exact Z)|(apply Zaf;(iterate 3 exact Z);exact Go.Zqn)|(apply Zak;exact Z;exact Go.Zqn;exact Z;exact Z)|(apply Zae;exact Z;exact Go.Zqn)|(apply Zal Zab;(iterate 4 exact Z)))
   all_goals(apply Zax [];(apply Zad Zab;exact Z);(iterate 4 exact Z))
   all_goals first|rfl|(rw[t6];rfl)
def hN (p s:Nat):Nat:=(s >>> 1) ^^^ (if s.testBit 0 then p else 0)
def itN (p:Nat):Nat->Nat->Nat
 | 0,s=>s
 | k+1,s=>itN p k (hN p s)
def byN (p s c:Nat):Nat:=itN p 8 (s ^^^ c)
def ruN (p s:Nat)(b:List Nat):Nat:=b.foldl (byN p) s
theorem Zpq {p s:Nat}(hp:p<4294967296)(hs:s<4294967296):hN p s<4294967296:=by
 unfold hN
 refine Nat.xor_lt_two_pow (n:=32) ?_ ?_
 ·rw[Nat.shiftRight_eq_div_pow];omega
 ·split<;>omega
theorem Zk0 {p s:Nat}(hp:p<4294967296)(hs:s<4294967296):Zc2 (s:Int) (p:Int)=(hN p s:Int):=by
 have h1:bits .and .u32 (s:Int) 1=((s &&& 1:Nat):Int):=u32_and_nat s 1 hs (by decide)
 have h2:Zo2 (s:Int)=((s >>> 1:Nat):Int):=by
  unfold Zo2
  rw[Nat.shiftRight_eq_div_pow,show min (Int.toNat 1) IntKind.u32.bits=1 from rfl,Int.fdiv_eq_ediv_of_nonneg _ (by decide)]
  rfl
 unfold Zc2 hN
 rw[h1,h2,Nat.testBit_zero,Nat.and_one_is_mod]
 by_cases e:s % 2=1
 ·rw[e]
  show bits .xor .u32 _ _=_
  rw[u32_xor_nat _ _ (by rw[Nat.shiftRight_eq_div_pow];omega) hp]
  simp
 ·have e0:s % 2=0:=by omega
  rw[e0]
  show((s >>> 1:Nat):Int)=_
  simp
theorem Zmm {p s:Nat}(c:UInt8)(hp:p<4294967296)(hs:s<4294967296):ZkM (s:Int) c (p:Int)=(byN p s c.toNat:Int)/\byN p s c.toNat<4294967296:=by
 have hc:=c.toNat_lt
 have h1:bits .xor .u32 (s:Int) (IntKind.u32.wrap (c.toNat:Int))=((s ^^^ c.toNat:Nat):Int):=by
  rw[IntWalk.u32_in _ (by omega)]
  exact u32_xor_nat s c.toNat hs (by omega)
 have h2:s ^^^ c.toNat<4294967296:=Nat.xor_lt_two_pow (n:=32) hs (by omega)
 unfold ZkM byN
 rw[h1]
 generalize s ^^^ c.toNat=x at *
 have key:∀ y:Nat,y<4294967296->Zc2 (y:Int) (p:Int)=(hN p y:Int)/\hN p y<4294967296:=fun y hy=>⟨Zk0 hp hy,Zpq hp hy⟩
 obtain⟨k1,l1⟩:=key x h2
 obtain⟨k2,l2⟩:=key _ l1
 obtain⟨k3,l3⟩:=key _ l2
 obtain⟨k4,l4⟩:=key _ l3
 obtain⟨k5,l5⟩:=key _ l4
 obtain⟨k6,l6⟩:=key _ l5
 obtain⟨k7,l7⟩:=key _ l6
 obtain⟨k8,l8⟩:=key _ l7
 rw[k1,k2,k3,k4,k5,k6,k7,k8]
 exact⟨rfl,l8⟩
theorem Zia {p:Nat}(hp:p<4294967296):∀(b:List UInt8) (s:Nat),s<4294967296->Zme (s:Int) (p:Int) b=(ruN p s (b.map UInt8.toNat):Int)/\ruN p s (b.map UInt8.toNat)<4294967296
 | [],s,h=>⟨rfl,h⟩
 | c::b,s,h=>by
  obtain⟨h1,h2⟩:=Zmm c hp h
  have ih:=Zia hp b (byN p s c.toNat) h2
  rw[<- h1]at ih
  exact ih
theorem Zi0 {p W:Nat}(hp2:p<2 ^ (W+1)):∀(k s:Nat),s<2 ^ (W+1)->itN p k s<2 ^ (W+1)
 | 0,s,h=>h
 | k+1,s,h=>Zi0 hp2 k _ (by
  unfold hN
  refine Nat.xor_lt_two_pow ?_ ?_
  ·rw[Nat.shiftRight_eq_div_pow]
   exact Nat.lt_of_le_of_lt (Nat.div_le_self ..) h
  ·split
   ·exact hp2
   ·exact Nat.two_pow_pos _)
theorem Zk1 {p W:Nat}(hp2:p<2 ^ (W+1))(hW:7<=W):∀(b:List UInt8) (s:Nat),s<2 ^ (W+1)->ruN p s (b.map UInt8.toNat)<2 ^ (W+1)
 | [],s,h=>h
 | c::b,s,h=>by
  have hc:=c.toNat_lt
  have:2 ^ 8<=2 ^ (W+1):=Nat.pow_le_pow_right (by omega) (by omega)
  exact Zk1 hp2 hW b _ (Zi0 hp2 8 _ (Nat.xor_lt_two_pow h (by omega)))
theorem Zhl (b:List UInt8):Zed b=((65535 ^^^ ruN 33800 65535 (b.map UInt8.toNat):Nat):Int)/\65535 ^^^ ruN 33800 65535 (b.map UInt8.toNat)<65536:=by
 have h1:=(Zia (p:=33800) (by decide) b 65535 (by decide)).1
 have h2:=Zk1 (p:=33800) (W:=15) (by decide) (by decide) b 65535 (by decide)
 unfold Zed
 rw[show Zme 65535 33800 b=_ from h1,IntWalk.u16_in _ (by omega)]
 exact⟨u16_xor_nat 65535 _ (by decide) h2,Nat.xor_lt_two_pow (n:=16) (by decide) h2⟩
theorem Zi1 (b:List UInt8):Zeu b=((4294967295 ^^^ ruN 2197175160 4294967295 (b.map UInt8.toNat):Nat):Int)/\4294967295 ^^^ ruN 2197175160 4294967295 (b.map UInt8.toNat)<4294967296:=by
 have h1:=(Zia (p:=2197175160) (by decide) b 4294967295 (by decide)).1
 have h2:=Zk1 (p:=2197175160) (W:=31) (by decide) (by decide) b 4294967295 (by decide)
 unfold Zeu
 rw[show Zme 4294967295 2197175160 b=_ from h1]
 exact⟨u32_xor_nat 4294967295 _ (by decide) h2,Nat.xor_lt_two_pow (n:=32) (by decide) h2⟩
end Go.Proofs.YtakblclkflnnpaaGreatDoor
end
section
open Go.RowKit Go.Pl
namespace Go.Av
section
variable {P:Program} {Q:X->St->Prop} {n:Nat} {ee:Nat × Nat} {tm:List (Nat × D)} {bx:List (List D)} {fr:List Fr} {T:Tab}
variable {ops:Array Oper} {rest:List Oper} {t ty:Nat} {pos:String} {after:Array Edge}
end
end Go.Av
end
section
open Go.RowKit Go.Pl Go.Av
namespace Go.Proofs.YtakblclkflnnpaaGreatDoor
set_option maxHeartbeats 4000000
set_option maxHeartbeats 1000000
theorem ZnH {b:List UInt8}{p:Nat}(h:p<b.length):∃ c t,b.drop p=c::t/\(b.map E.byte)[((p:Nat):Int).toNat]?=some (E.byte c)/\t=b.drop (p+1):=by
 refine⟨b[p],b.drop (p+1),List.drop_eq_getElem_cons h,?_,rfl⟩
 rw[Int.toNat_natCast,List.getElem?_map,List.getElem?_eq_getElem h];rfl
theorem Zi2 {n x:Nat}(h:x<2 ^ n):(2 ^ n-1) ^^^ x=2 ^ n-1-x:=by
 apply Nat.eq_of_testBit_eq
 intro i
 rw[Nat.testBit_xor,Nat.testBit_two_pow_sub_one,show 2 ^ n-1-x=2 ^ n-(x+1) from by omega,Nat.testBit_two_pow_sub_succ h]
 by_cases hi:i<n
 ·simp[hi]
 ·have:x.testBit i=false:=Nat.testBit_lt_two_pow (Nat.lt_of_lt_of_le h (Nat.pow_le_pow_right (by omega) (by omega)))
  simp[hi,this]
theorem Zk2 [Known](b:List UInt8)(hb:b.length<=1099511627776)(f p W:Nat)(hp:p<2 ^ (W+1))(hf:f+1=2 ^ (W+1))(hW:7<=W)(hM:2 ^ (W+1)<=4294967296):AP Tryz.prog 178 [byE b,.int .u64 (f:Int),.int .u64 (p:Int)] (.int .u64 ((f-ruN p f (b.map UInt8.toNat):Nat):Int)) []:=by
 have hl:(b.map E.byte).length=b.length:=List.length_map ..
 have hU:=Zbq b
 have h256:2 ^ 8<=2 ^ (W+1):=Nat.pow_le_pow_right (by omega) (by omega)
 have hf':f<2 ^ (W+1):=by omega
 have hx:∀ s c:Nat,s<2 ^ (W+1)->c<256->s ^^^ c<2 ^ (W+1):=fun s c h1 h2=>Nat.xor_lt_two_pow h1 (by omega)
 have hH:∀ s,s<2 ^ (W+1)->hN p s<2 ^ (W+1):=fun s h=>Zi0 hp 1 s h
 have hBy:∀ s c:Nat,s<2 ^ (W+1)->c<256->byN p s c<2 ^ (W+1):=fun s c h1 h2=>Zi0 hp 8 _ (hx s c h1 h2)
 generalize hfin:ruN p f (b.map UInt8.toNat)=fin
 refine AP.ofA ?_
 refine Zap Tryz.func178 rfl Tryz.ntmps178 rfl rfl ?_
 repeat'(first|(apply Zai Zab;exact Z))
 refine ZaC (fun k tm bx fr=>∃(i s:Nat),k+i=b.length/\s<2 ^ (W+1)/\ruN p s ((b.drop i).map UInt8.toNat)=fin/\tm=[(0,byE b),(1,.int .u64 (f:Int)),(2,.int .u64 (p:Int)),(7,.int .u64 (s:Int)),(8,.int .i64 (i:Int))]/\bx=[]/\fr=[]) (b.length+1) (Lands.mk' (m:=b.length) (Nat.lt_succ_self _) ⟨0,f,by omega,hf',hfin,rfl,rfl,rfl⟩ ?_ rfl rfl rfl rfl rfl rfl) ?_
 ·exact .cons rfl (.cons rfl (.cons rfl (.cons rfl (.cons rfl .nil))))
 rintro k tm bx fr ⟨i,s,hk,hs,hq,rfl,rfl,rfl⟩
 rcases Nat.lt_or_ge i b.length with hlt|hge
 ·have hd:decide ((i:Int)<((b.map E.byte).length:Int))=true:=decide_eq_true (by omega)
  obtain⟨c,t,hdr,hv,ht⟩:=ZnH hlt
  have hc:=c.toNat_lt
  rw[hdr,ht]at hq
  have hq2:ruN p (byN p s c.toNat) ((b.drop (i+1)).map UInt8.toNat)=fin:=hq
  have ei:IntKind.i64.wrap ((i:Int)+1)=((i+1:Nat):Int):=by rw[IntWalk.i64_in _ (by omega)];omega
  have e1:IntKind.u64.wrap (c.toNat:Int)=(c.toNat:Int):=by rw[IntKind.wrap_u64];omega
  have ex:bits .xor .u64 (s:Int) (c.toNat:Int)=((s ^^^ c.toNat:Nat):Int):=u64_xor_nat s c.toNat (by omega) (by omega)
  have hxc:=hx s c.toNat hs hc
  have hbs:=hBy s c.toNat hs hc
  have hb8:itN p 8 (s ^^^ c.toNat)=byN p s c.toNat:=rfl
  generalize s ^^^ c.toNat=x0 at *
  generalize byN p s c.toNat=y0 at *
  repeat'(first|rw[e1]|rw[ex]|(apply Zaj Zab;exact Z)|(apply Zai Zab;exact Z)|(apply Zay Zab;exact Z)|(apply Zac;exact Z;exact Go.Zqn)|(apply Zal Zab;(iterate 4 exact Z))|(apply Zat Zab;(iterate 6 exact Z);(first|exact Go.Zqn|rotate_left);(first|with_reducible assumption|decide +kernel|exact Z);(first|exact Zag rfl|with_reducible assumption|decide +kernel|rotate_left)))
  refine ZaC (fun k2 tm bx fr=>∃(j s':Nat),k2+j=8/\s'<2 ^ (W+1)/\itN p (8-j) s'=y0/\tm=[(0,byE b),(1,.int .u64 (f:Int)),(2,.int .u64 (p:Int)),(7,.int .u64 (s':Int)),(8,.int .i64 (i:Int)),(9,.int .i64 (j:Int))]/\bx=[]/\fr=[]) 9 (Lands.mk' (m:=8) (Nat.lt_succ_self _) ⟨0,x0,rfl,hxc,hb8,rfl,rfl,rfl⟩ ?_ rfl rfl rfl rfl rfl rfl) ?_
  ·exact .cons rfl (.cons rfl (.cons rfl (.cons rfl (.cons rfl (.cons rfl .nil)))))
  rintro k2 tm bx fr ⟨j,s',hj,hs',hit,rfl,rfl,rfl⟩
  rcases Nat.lt_or_ge j 8 with h8|h8
  ·have hd8:decide ((j:Int)<8)=true:=decide_eq_true (by omega)
   have ej:IntKind.i64.wrap ((j:Int)+1)=((j+1:Nat):Int):=by rw[IntWalk.i64_in _ (by omega)];omega
   have er:((s':Nat):Int).tmod 2=((s' % 2:Nat):Int):=by rw[Int.tmod_eq_emod_of_nonneg (Int.natCast_nonneg _)];omega
   have eq:IntKind.u64.wrap (((s':Nat):Int).tdiv 2)=((s'/2:Nat):Int):=by rw[Int.tdiv_eq_ediv_of_nonneg (Int.natCast_nonneg _),IntKind.wrap_u64];omega
   have hh:=hH s' hs'
   have hit2:itN p (8-(j+1)) (hN p s')=y0:=by rw[<- hit,show 8-j=(8-(j+1))+1 from by omega];rfl
   have hdef:hN p s'=(s'/2) ^^^ (if s' % 2=1 then p else 0):=by
    unfold hN
    rw[Nat.shiftRight_eq_div_pow,Nat.testBit_zero]
    simp
   have exx:bits .xor .u64 ((s'/2:Nat):Int) (p:Int)=(((s'/2) ^^^ p:Nat):Int):=u64_xor_nat _ _ (by omega) (by omega)
   rcases Nat.mod_two_eq_zero_or_one s' with h2|h2
   ·rw[h2,if_neg (by omega),Nat.xor_zero]at hdef
    rw[h2]at er
    rw[hdef]at hit2 hh
    repeat'(first|rw[er]|rw[eq]|rw[ej]|(apply Zaj Zab;exact Z)|(apply Zai Zab;exact Z)|(apply Zac;exact Z;exact Go.Zqn)|(apply Zae;exact Z;exact Go.Zqn)|(apply ZeE;exact Z;exact Z;(first|exact Go.Zqn|rotate_left);exact Z)|(apply ZeF;exact Z;exact Z;(first|exact Go.Zqn|rotate_left);exact Z))
    refine Lands.mk' (m:=k2-1) (by omega) ⟨j+1,s'/2,by omega,hh,hit2,rfl,rfl,rfl⟩ ?_ rfl rfl rfl rfl rfl rfl
    exact .cons rfl (.cons rfl (.cons rfl (.cons rfl (.cons rfl (.cons rfl .nil)))))
   ·rw[h2,if_pos rfl]at hdef
    rw[h2]at er
    rw[hdef]at hit2 hh
    repeat'(first|rw[er]|rw[eq]|rw[exx]|rw[ej]|(apply Zaj Zab;exact Z)|(apply Zai Zab;exact Z)|(apply Zac;exact Z;exact Go.Zqn)|(apply ZeE;exact Z;exact Z;(first|exact Go.Zqn|rotate_left);exact Z)|(apply ZeF;exact Z;exact Z;(first|exact Go.Zqn|rotate_left);exact Z))
    refine Lands.mk' (m:=k2-1) (by omega) ⟨j+1,(s'/2) ^^^ p,by omega,hh,hit2,rfl,rfl,rfl⟩ ?_ rfl rfl rfl rfl rfl rfl
    exact .cons rfl (.cons rfl (.cons rfl (.cons rfl (.cons rfl (.cons rfl .nil)))))
  ·obtain rfl:j=8:=by omega
   have hd8:decide (((8:Nat):Int)<8)=false:=rfl
   have hy:s'=y0:=hit
   subst hy
   repeat'(first|rw[ei]|(apply Zai Zab;exact Z)|(apply Zae;exact Z;exact Go.Zqn))
   refine Lands.mk' (m:=k-1) (by omega) ⟨i+1,s',by omega,hs',hq2,rfl,rfl,rfl⟩ ?_ rfl rfl rfl rfl rfl rfl
   exact .cons rfl (.cons rfl (.cons rfl (.cons rfl (.cons rfl .nil))))
 ·have hd:decide ((i:Int)<((b.map E.byte).length:Int))=false:=decide_eq_false (by omega)
  rw[List.drop_eq_nil_of_le hge]at hq
  have hq:s=fin:=hq
  subst hq
  have es:IntKind.u64.wrap ((f:Int)-(s:Int))=((f-s:Nat):Int):=by rw[IntKind.wrap_u64];omega
  repeat'(first|rw[es]|(apply Zaj Zab;exact Z)|(apply Zai Zab;exact Z)|(apply Zay Zab;exact Z)|(apply Zae;exact Z;exact Go.Zqn)|(apply Zal Zab;(iterate 4 exact Z)))
  all_goals(apply Zax [];(apply Zad Zab;exact Z);(iterate 4 exact Z))
  all_goals rfl
theorem Zk3 [Known](b:List UInt8)(hb:b.length<=1099511627776):AP Tryz.prog 152 [byE b] (.int .u16 (Zed b)) []:=by
 have h:=Zk2 b hb 65535 33800 15 (by decide) (by decide) (by decide) (by decide)
 obtain⟨h1,h2⟩:=Zhl b
 have hr:=Zk1 (p:=33800) (W:=15) (by decide) (by decide) b 65535 (by decide)
 have hx:65535 ^^^ ruN 33800 65535 (b.map UInt8.toNat)=65535-ruN 33800 65535 (b.map UInt8.toNat):=Zi2 (n:=16) hr
 rw[hx]at h1 h2
 rw[h1]
 generalize 65535-ruN 33800 65535 (b.map UInt8.toNat)=z at *
 have e:IntKind.u16.wrap (z:Int)=(z:Int):=IntWalk.u16_in _ (by omega)
 refine AP.ofA ?_
 refine Zap Tryz.func152 rfl Tryz.ntmps152 rfl rfl ?_
 repeat'(first|rw[e]|(apply Zaa (h);kernel_rfl;(iterate 4 exact Z))|(apply Zaj Zab;exact Z)|(apply Zai Zab;exact Z))
 all_goals(apply Zax [];(apply Zad Zab;exact Z);(iterate 4 exact Z))
 all_goals rfl
theorem Zmn [Known](b:List UInt8)(hb:b.length<=1099511627776):AP Tryz.prog 153 [byE b] (.int .u32 (Zeu b)) []:=by
 have h:=Zk2 b hb 4294967295 2197175160 31 (by decide) (by decide) (by decide) (by decide)
 obtain⟨h1,h2⟩:=Zi1 b
 have hr:=Zk1 (p:=2197175160) (W:=31) (by decide) (by decide) b 4294967295 (by decide)
 have hx:4294967295 ^^^ ruN 2197175160 4294967295 (b.map UInt8.toNat)=4294967295-ruN 2197175160 4294967295 (b.map UInt8.toNat):=Zi2 (n:=32) hr
 rw[hx]at h1 h2
 rw[h1]
 generalize 4294967295-ruN 2197175160 4294967295 (b.map UInt8.toNat)=z at *
 have e:IntKind.u32.wrap (z:Int)=(z:Int):=IntWalk.u32_in _ (by omega)
 refine AP.ofA ?_
 refine Zap Tryz.func153 rfl Tryz.ntmps153 rfl rfl ?_
 repeat'(first|rw[e]|(apply Zaa (h);kernel_rfl;(iterate 4 exact Z))|(apply Zaj Zab;exact Z)|(apply Zai Zab;exact Z))
 all_goals(apply Zax [];(apply Zad Zab;exact Z);(iterate 4 exact Z))
 all_goals rfl
end Go.Proofs.YtakblclkflnnpaaGreatDoor
end
