/- Package eid: an item's name: numbers; all items. -/
import Derived.Test.YtmljabhmajehnaaDoorN18
import Derived.Test.YtmljabhmajehnaaDoorN10
import Derived.Test.YtmljabhmajehnaaDoorN11
import Derived.Test.YtmljabhmajehnaaDoorN12
import Derived.Test.YtmljabhmajehnaaDoorN13
import Derived.Test.YtmljabhmajehnaaDoorN16
import Derived.Test.YtmljabhmajehnaaDoorN09
import Derived.Scope
set_option linter.unusedVariables false
set_option linter.unusedSimpArgs false
section
open Go.RowKit Go.Pl Go.Av
namespace Go.Proofs.YtmljabhmajehnaaDoor
set_option maxHeartbeats 4000000
theorem N3 [Known][KnownU8](n:Nat)(b:List UInt8)(s r:It)(hw:wfI (.mk 4 n b [s,r]))(hr:ZI (.mk 4 n b [s,r])=true)(h1:WB 1 s=false):AP Tryd.prog 41 [itD (.mk 4 n b [s,r])] (OT (Uo s r)) []:=by
 have hR:=Wb _ hw
 rw[hr]at hR
 obtain⟨_,_,_,hws,hwr,_⟩:=hw
 have hS1:=Vh s hws 1 (by omega)
 have hS2:=Vh s hws 2 (by omega)
 have hN:=TQ r hwr
 have n1:=V1 1
 have n2:=V1 2
 replace n1:AP Tryd.prog _ [.int .u64 1] (.agg [.int .i64 0,.int .u64 1,.sl .ext [],.sl .ext []]) []:=n1
 replace n2:AP Tryd.prog _ [.int .u64 2] (.agg [.int .i64 0,.int .u64 2,.sl .ext [],.sl .ext []]) []:=n2
 rw[h1]at hS1
 have hU:=Y2 [s,r]
 unfold Uo
 rw[h1]
 dsimp only
 obtain⟨ks,ns,bs,ls⟩:=s
 obtain⟨kr,nr,br,lr⟩:=r
 have t2:(((Zz [It.mk ks ns bs ls,It.mk kr nr br lr]).length:Int) != 2)=false:=rfl
 cases h2:WB 2 (.mk ks ns bs ls) with
 | false=>
  rw[h2]at hS2
  show AP Tryd.prog _ _ (.tup [.agg [.bool false,.int .u64 0,.int .u64 0,.str [],.str []],.int .i64 3]) []
  refine AP.ofA (Zl Tryd.func41 Z Tryd.ntmps41 Z Z ?_)
  repeat'(first|(apply VN 11 Za ZF;decide +kernel;kernel_rfl;kernel_rfl;kernel_rfl;exact Z;exact Z)|exact AV.nil _ _|(apply Xx;exact Z;exact Z)|(apply Xy;(iterate 4 exact Z))|(apply Xw;(iterate 4 exact Z))|refine QI Z Z Z Z ?_|(apply Zb (hR);kernel_rfl;(iterate 4 exact Z))|(apply Zb (hS1);kernel_rfl;(iterate 4 exact Z))|(apply Zb (hS2);kernel_rfl;(iterate 4 exact Z))|(apply Zb (n1);kernel_rfl;(iterate 4 exact Z))|(apply Zb (n2);kernel_rfl;(iterate 4 exact Z))|(apply Zg Za;exact Z)|(apply Zf Za;exact Z)|(apply Zs Za;exact Z)|refine Ze Z Z Z Qt ?_|refine Zt Z Z Z Qt ?_|refine Zi Z Qt Z Z ?_|refine Zd Z Qt ?_|refine Zh Z Qt ?_|refine Zn Za Z Z Z Z ?_|(apply Zm 2 ZF;decide +kernel;kernel_rfl;kernel_rfl;kernel_rfl;exact Z;exact Z)|(apply Zm 6 ZF;decide +kernel;kernel_rfl;kernel_rfl;kernel_rfl;exact Z;exact Z)|(apply Zq;(iterate 4 exact Z))|exact AE.nil _ _ _ _|(apply Zu;exact Z)|(apply ZB;exact Z;exact Z;decide +kernel;exact Z)|(apply ZC;exact Z)|exact AO.nil _ _ _|(apply Zp;(decide +kernel))|exact AOs.nil|exact ZH rfl rfl|(apply Zx Za;(iterate 6 exact Z);(first|exact Qt|rotate_left);(first|with_reducible assumption|decide +kernel|exact Z);(first|exact Zj rfl|with_reducible assumption|decide +kernel|rotate_left)))
  all_goals exact Qe
 | true=>
  rw[h2]at hS2
  dsimp only
  cases hq:UN (.mk kr nr br lr) with
  | none=>
   rw[hq]at hN
   replace hN:AP Tryd.prog _ _ (.tup [.sl .ext [],.bool false]) []:=hN
   show AP Tryd.prog _ _ (.tup [.agg [.bool false,.int .u64 0,.int .u64 0,.str [],.str []],.int .i64 3]) []
   refine AP.ofA (Zl Tryd.func41 Z Tryd.ntmps41 Z Z ?_)
   repeat'(first|(apply VN 11 Za ZF;decide +kernel;kernel_rfl;kernel_rfl;kernel_rfl;exact Z;exact Z)|exact AV.nil _ _|(apply Xx;exact Z;exact Z)|(apply Xy;(iterate 4 exact Z))|(apply Xw;(iterate 4 exact Z))|refine QI Z Z Z Z ?_|(apply Zb (hR);kernel_rfl;(iterate 4 exact Z))|(apply Zb (hS1);kernel_rfl;(iterate 4 exact Z))|(apply Zb (hS2);kernel_rfl;(iterate 4 exact Z))|(apply Zb (n1);kernel_rfl;(iterate 4 exact Z))|(apply Zb (n2);kernel_rfl;(iterate 4 exact Z))|(apply Zb (hN);kernel_rfl;(iterate 4 exact Z))|(apply Zg Za;exact Z)|(apply Zf Za;exact Z)|(apply Zs Za;exact Z)|refine Ze Z Z Z Qt ?_|refine Zt Z Z Z Qt ?_|refine Zi Z Qt Z Z ?_|refine Zd Z Qt ?_|refine Zh Z Qt ?_|refine Zn Za Z Z Z Z ?_|(apply Zm 2 ZF;decide +kernel;kernel_rfl;kernel_rfl;kernel_rfl;exact Z;exact Z)|(apply Zm 6 ZF;decide +kernel;kernel_rfl;kernel_rfl;kernel_rfl;exact Z;exact Z)|(apply Zq;(iterate 4 exact Z))|exact AE.nil _ _ _ _|(apply Zu;exact Z)|(apply ZB;exact Z;exact Z;decide +kernel;exact Z)|(apply ZC;exact Z)|exact AO.nil _ _ _|(apply Zp;(decide +kernel))|exact AOs.nil|exact ZH rfl rfl|(apply Zx Za;(iterate 6 exact Z);(first|exact Qt|rotate_left);(first|with_reducible assumption|decide +kernel|exact Z);(first|exact Zj rfl|with_reducible assumption|decide +kernel|rotate_left)))
   all_goals exact Qe
  | some ac=>
   obtain⟨a,c⟩:=ac
   rw[hq]at hN
   replace hN:AP Tryd.prog _ _ (.tup [.sl .ext [.int .u64 (a:Int),.int .u64 (c:Int)],.bool true]) []:=hN
   have hE:=Vc ⟨true,a,c,[],[]⟩
   dsimp only
   generalize Z8 ⟨true,a,c,[],[]⟩=R at *
   replace hE:AP Tryd.prog _ [.agg [.bool true,.int .u64 (a:Int),.int .u64 (c:Int),.str [],.str []]] (.bool R) []:=hE
   cases R
   all_goals
    refine AP.ofA (Zl Tryd.func41 Z Tryd.ntmps41 Z Z ?_)
    repeat'(first|(apply VN 11 Za ZF;decide +kernel;kernel_rfl;kernel_rfl;kernel_rfl;exact Z;exact Z)|exact AV.nil _ _|(apply Xx;exact Z;exact Z)|(apply Xy;(iterate 4 exact Z))|(apply Xw;(iterate 4 exact Z))|refine QI Z Z Z Z ?_|(apply Zb (hR);kernel_rfl;(iterate 4 exact Z))|(apply Zb (hS1);kernel_rfl;(iterate 4 exact Z))|(apply Zb (hS2);kernel_rfl;(iterate 4 exact Z))|(apply Zb (n1);kernel_rfl;(iterate 4 exact Z))|(apply Zb (n2);kernel_rfl;(iterate 4 exact Z))|(apply Zb (hN);kernel_rfl;(iterate 4 exact Z))|(apply Zb (hE);kernel_rfl;(iterate 4 exact Z))|(apply Zg Za;exact Z)|(apply Zf Za;exact Z)|(apply Zs Za;exact Z)|refine Ze Z Z Z Qt ?_|refine Zt Z Z Z Qt ?_|refine Zi Z Qt Z Z ?_|refine Zd Z Qt ?_|refine Zh Z Qt ?_|refine Zn Za Z Z Z Z ?_|(apply Zm 2 ZF;decide +kernel;kernel_rfl;kernel_rfl;kernel_rfl;exact Z;exact Z)|(apply Zm 6 ZF;decide +kernel;kernel_rfl;kernel_rfl;kernel_rfl;exact Z;exact Z)|(apply Zq;(iterate 4 exact Z))|exact AE.nil _ _ _ _|(apply Zu;exact Z)|(apply ZB;exact Z;exact Z;decide +kernel;exact Z)|(apply ZC;exact Z)|exact AO.nil _ _ _|(apply Zp;(decide +kernel))|exact AOs.nil|exact ZH rfl rfl|(apply Zx Za;(iterate 6 exact Z);(first|exact Qt|rotate_left);(first|with_reducible assumption|decide +kernel|exact Z);(first|exact Zj rfl|with_reducible assumption|decide +kernel|rotate_left)))
    all_goals exact Qe
theorem K0 [Known][KnownU8](x:It)(hw:wfI x):AP Tryd.prog 41 [itD x] (OT (YL x)) []:=by
 cases hr:ZI x with
 | false=>
  have e:YL x=(Yl,false):=by unfold YL;rw[hr]
  rw[e]
  exact JK x hw (.inl hr)
 | true=>
  obtain⟨k,n,b,l⟩:=x
  by_cases hk:k=4
  ·subst hk
   match l,hw,hr with
   | [s,r],hw,hr=>
    have e:YL (.mk 4 n b [s,r])=Uo s r:=by unfold YL;rw[hr];dsimp only;rw[if_pos rfl]
    rw[e]
    cases h1:WB 1 s with
    | true=>exact N2 n b s r hw hr h1
    | false=>exact N3 n b s r hw hr h1
   | [],hw,hr=>
    have e:YL (.mk 4 n b [])=(Yl,false):=by unfold YL;rw[hr]
    rw[e];exact JK _ hw (.inr (.inr (by simp[It.l])))
   | [s],hw,hr=>
    have e:YL (.mk 4 n b [s])=(Yl,false):=by unfold YL;rw[hr]
    rw[e];exact JK _ hw (.inr (.inr (by simp[It.l])))
   | s::r::y::l,hw,hr=>
    have e:YL (.mk 4 n b (s::r::y::l))=(Yl,false):=by unfold YL;rw[hr]
    rw[e];exact JK _ hw (.inr (.inr (by simp[It.l])))
  ·have e:YL (.mk k n b l)=(Yl,false):=by
    unfold YL;rw[hr]
    match l with
    | [s,r]=>dsimp only;rw[if_neg hk]
    | []=>rfl
    | [s]=>rfl
    | s::r::y::l=>rfl
   rw[e]
   exact JK _ hw (.inr (.inl hk))
def Y7 (x:EidV):List UInt8:=[47,47]++x.h++[47]++x.d
theorem UW {x:EidV}(h:Z8 x=true)(hz:isZ x=false)(hi:x.i=true):x.n<=4294967295/\x.s<=4294967295/\x.h=[]/\x.d=[]/\1<=x.n:=by
 rw[KM hz hi]at h
 simp only[Bool.and_eq_true,decide_eq_true_eq,beq_iff_eq]at h
 obtain⟨⟨⟨⟨_,_,_,h1,h2,_⟩,h3⟩,h4⟩,h5⟩:=h
 exact⟨by omega,by omega,h1,h2,by omega⟩
theorem WO {x:EidV}(h:Z8 x=true)(hz:isZ x=false)(hi:x.i=false):x.n=0/\x.s=0/\1<=x.h.length/\x.h.length<=16/\x.d.length<=24/\x.h.all (okB 45)=true/\x.d.all (okB 47)=true:=by
 rw[KN hz hi]at h
 simp only[Bool.and_eq_true,decide_eq_true_eq,beq_iff_eq]at h
 obtain⟨⟨⟨⟨⟨⟨_,h1,h2,_⟩,h3⟩,h4⟩,h5⟩,h6⟩,h7⟩:=h
 exact⟨by omega,by omega,by omega,by omega,by omega,h6,h7⟩
theorem TS [Known](x:EidV)(h1:x.h.length<=16)(h2:x.d.length<=24):AP Tryd.prog 66 [.agg (eC x)] (.str (Y7 x)) []:=by
 have l1:[(47:UInt8),47].length+x.h.length<=maxLen:=by simp;unfold maxLen;omega
 have l2:([(47:UInt8),47]++x.h).length + [(47:UInt8)].length<=maxLen:=by simp;unfold maxLen;omega
 have l3:([(47:UInt8),47]++x.h++[47]).length+x.d.length<=maxLen:=by simp;unfold maxLen;omega
 refine AP.ofA (Zl Tryd.func66 Z Tryd.ntmps66 Z Z ?_)
 repeat'(first|(apply NI;exact Z;exact Z;(first|exact l1|exact l2|exact l3);exact Z)|(apply Zg Za;exact Z)|(apply Zf Za;exact Z))
 all_goals exact Qe
def Yt (x:EidV):It:=
 if isZ x then .mk 4 0 [] [.mk 0 1 [] [],.mk 0 0 [] []]
 else if x.i then .mk 4 0 [] [.mk 0 2 [] [],.mk 4 0 [] [.mk 0 x.n [] [],.mk 0 x.s [] []]]
 else .mk 4 0 [] [.mk 0 1 [] [],.mk 3 0 (Y7 x) []]
theorem QJ [Known](x:EidV):AP Tryd.prog 44 [.agg (eC x)] (.tup [itD (if Z8 x then Yt x else .mk 0 0 [] []),.int .i64 (if Z8 x then 0 else 3)]) []:=by
 have hR:=Vc x
 cases hr:Z8 x with
 | false=>
  rw[hr]at hR
  refine AP.ofA (Zl Tryd.func44 Z Tryd.ntmps44 Z Z ?_)
  repeat'(first|(apply Zb (hR);kernel_rfl;(iterate 4 exact Z))|(apply Zg Za;exact Z)|(apply Zf Za;exact Z)|(apply Zs Za;exact Z)|refine Zd Z Qt ?_)
  all_goals exact Qe
 | true=>
  rw[hr]at hR
  rw[if_pos rfl,if_pos rfl]
  unfold Yt
  cases hz:isZ x with
  | true=>
   rw[if_pos rfl]
   have n1:=Yq 1
   have n0:=Yq 0
   have hL:=WS [.mk 0 1 [] [],.mk 0 0 [] []] (by decide) (by simp[wfI,wfs])
   replace n1:AP Tryd.prog _ [.int .u64 1] (.agg [.int .i64 0,.int .u64 1,.sl .ext [],.sl .ext []]) []:=n1
   replace n0:AP Tryd.prog _ [.int .u64 0] (.agg [.int .i64 0,.int .u64 0,.sl .ext [],.sl .ext []]) []:=n0
   unfold isZ at hz
   refine AP.ofA (Zl Tryd.func44 Z Tryd.ntmps44 Z Z ?_)
   repeat'(first|(apply Zb (hR);kernel_rfl;(iterate 4 exact Z))|(apply Zb (n1);kernel_rfl;(iterate 4 exact Z))|(apply Zb (n0);kernel_rfl;(iterate 4 exact Z))|(apply Zb (hL);kernel_rfl;(iterate 4 exact Z))|(apply Zg Za;exact Z)|(apply Zf Za;exact Z)|(apply Zs Za;exact Z)|refine Zd Z Qt ?_|refine Zh Z Qt ?_|refine ZX Za Z Z Z Z Z Z Z Z Z Z Z Z ?_|refine Uh Za Z Z Z Z Qk Qk Z Z Z ?_)
   all_goals exact Qe
  | false=>
   rw[if_neg (by simp)]
   cases hi:x.i with
   | true=>
    obtain⟨b1,b2,_⟩:=UW hr hz hi
    rw[if_pos rfl]
    have n2:=Yq 2
    have nn:=Yq x.n
    have ns:=Yq x.s
    have hL1:=WS [.mk 0 x.n [] [],.mk 0 x.s [] []] (by simp) (by simp[wfI,wfs];omega)
    have hL:=WS [.mk 0 2 [] [],.mk 4 0 [] [.mk 0 x.n [] [],.mk 0 x.s [] []]] (by simp) (by simp[wfI,wfs];omega)
    replace n2:AP Tryd.prog _ [.int .u64 2] (.agg [.int .i64 0,.int .u64 2,.sl .ext [],.sl .ext []]) []:=n2
    replace nn:AP Tryd.prog _ [.int .u64 (x.n:Int)] (.agg [.int .i64 0,.int .u64 (x.n:Int),.sl .ext [],.sl .ext []]) []:=nn
    replace ns:AP Tryd.prog _ [.int .u64 (x.s:Int)] (.agg [.int .i64 0,.int .u64 (x.s:Int),.sl .ext [],.sl .ext []]) []:=ns
    replace hL1:AP Tryd.prog _ _ (.agg [.int .i64 4,.int .u64 0,.sl .ext [],.sl .ext [.agg [.int .i64 0,.int .u64 (x.n:Int),.sl [],.sl []],.agg [.int .i64 0,.int .u64 (x.s:Int),.sl [],.sl []]]]) []:=hL1
    unfold isZ at hz
    refine AP.ofA (Zl Tryd.func44 Z Tryd.ntmps44 Z Z ?_)
    repeat'(first|(apply Zb (hR);kernel_rfl;(iterate 4 exact Z))|(apply Zb (n2);kernel_rfl;(iterate 4 exact Z))|(apply Zb (nn);kernel_rfl;(iterate 4 exact Z))|(apply Zb (ns);kernel_rfl;(iterate 4 exact Z))|(apply Zb (hL1);kernel_rfl;(iterate 4 exact Z))|(apply Zb (hL);kernel_rfl;(iterate 4 exact Z))|(apply Zg Za;exact Z)|(apply Zf Za;exact Z)|(apply Zs Za;exact Z)|refine Zd Z Qt ?_|refine Zh Z Qt ?_|refine ZX Za Z Z Z Z Z Z Z Z Z Z Z Z ?_|refine Uh Za Z Z Z Z Qk Qk Z Z Z ?_|(apply Zm 6 ZF;decide +kernel;kernel_rfl;kernel_rfl;kernel_rfl;exact Z;exact Z)|(apply Zq;(iterate 4 exact Z))|exact AE.nil _ _ _ _|(apply Zu;exact Z)|(apply ZB;exact Z;exact Z;decide +kernel;exact Z)|(apply ZC;exact Z)|exact AO.nil _ _ _|(apply Zp;(decide +kernel))|exact AOs.nil|exact ZH rfl rfl)
    all_goals exact Qe
   | false=>
    obtain⟨_,_,_,b1,b2,_⟩:=WO hr hz hi
    rw[if_neg (by simp)]
    have n1:=Yq 1
    have hP:=TS x b1 b2
    have hT:=TM (Y7 x)
    have hpl:(Y7 x).length<=1099511627776:=by unfold Y7;simp;omega
    generalize Y7 x=p at *
    have hL:=WS [.mk 0 1 [] [],.mk 3 0 p []] (by simp) (by simp[wfI,wfs];omega)
    replace n1:AP Tryd.prog _ [.int .u64 1] (.agg [.int .i64 0,.int .u64 1,.sl .ext [],.sl .ext []]) []:=n1
    replace hT:AP Tryd.prog _ [.str p] (.agg [.int .i64 3,.int .u64 0,byE p,.sl .ext []]) []:=hT
    unfold isZ at hz
    refine AP.ofA (Zl Tryd.func44 Z Tryd.ntmps44 Z Z ?_)
    repeat'(first|(apply Zb (hR);kernel_rfl;(iterate 4 exact Z))|(apply Zb (n1);kernel_rfl;(iterate 4 exact Z))|(apply Zb (hP);kernel_rfl;(iterate 4 exact Z))|(apply Zb (hT);kernel_rfl;(iterate 4 exact Z))|(apply Zb (hL);kernel_rfl;(iterate 4 exact Z))|(apply Zg Za;exact Z)|(apply Zf Za;exact Z)|(apply Zs Za;exact Z)|refine Zh Z Qt ?_|refine ZX Za Z Z Z Z Z Z Z Z Z Z Z Z ?_|refine Uh Za Z Z Z Z Qk Qk Z Z Z ?_|(apply Zm 2 ZF;decide +kernel;kernel_rfl;kernel_rfl;kernel_rfl;exact Z;exact Z)|(apply Zq;(iterate 4 exact Z))|exact AE.nil _ _ _ _|(apply Zu;exact Z)|(apply ZB;exact Z;exact Z;decide +kernel;exact Z)|(apply ZC;exact Z)|exact AO.nil _ _ _|(apply Zp;(decide +kernel))|exact AOs.nil|exact ZH rfl rfl)
    all_goals exact Qe
theorem HE {x:EidV}(h:Z8 x=true)(hz:isZ x=false)(hi:x.i=false):ppV (Y7 x)=(x,true):=by
 obtain⟨b1,b2,b3,b4,b5,b6,b7⟩:=WO h hz hi
 have e1:Y7 x=[47,47]++(x.h++47::x.d):=by simp[Y7]
 rw[e1]
 unfold ppV
 rw[KO]
 dsimp only
 rw[JB (OO b6 (by decide))]
 dsimp only
 have ex:(⟨false,0,0,x.h,x.d⟩:EidV)=x:=by
  obtain⟨i,n,s,hh,d⟩:=x
  simp only at hi b1 b2
  rw[hi,b1,b2]
 rw[ex,h]
 have:(x.h != [])=true:=by
  rw[bne_iff_ne]
  intro e
  rw[e]at b3
  simp at b3
 rw[this]
 rfl
theorem Up {x:EidV}(h:Z8 x=true):wfI (Yt x):=by
 unfold Yt
 cases hz:isZ x with
 | true=>rw[if_pos rfl];simp[wfI,wfs]
 | false=>
  rw[if_neg (by simp)]
  cases hi:x.i with
  | true=>
   obtain⟨b1,b2,b3,b4,b5⟩:=UW h hz hi
   rw[if_pos rfl]
   simp[wfI,wfs]
   omega
  | false=>
   obtain⟨b1,b2,b3,b4,b5,b6,b7⟩:=WO h hz hi
   rw[if_neg (by simp)]
   simp[wfI,wfs,Y7]
   omega
theorem K1 {x:EidV}(h:Z8 x=true)(hr:ZI (Yt x)=true):YL (Yt x)=(x,true):=by
 unfold YL
 rw[hr]
 unfold Yt
 cases hz:isZ x with
 | true=>
  rw[if_pos rfl,TH.1 hz]
  rfl
 | false=>
  rw[if_neg (by simp)]
  cases hi:x.i with
  | true=>
   obtain⟨b1,b2,b3,b4,b5⟩:=UW h hz hi
   rw[if_pos rfl]
   dsimp only
   rw[if_pos rfl]
   have ex:(⟨true,x.n,x.s,[],[]⟩:EidV)=x:=by
    obtain⟨i,n,s,hh,d⟩:=x
    simp only at hi b3 b4
    rw[hi,b3,b4]
   have e1:WB 1 (.mk 0 2 [] [])=false:=rfl
   have e2:WB 2 (.mk 0 2 [] [])=true:=rfl
   have e3:∀ n,WB n (.mk 0 n [] [])=true:=fun n=>It.beq_iff.2 rfl
   have e4:UN (.mk 4 0 [] [.mk 0 x.n [] [],.mk 0 x.s [] []])=some (x.n,x.s):=by
    unfold UN
    dsimp only
    rw[if_pos rfl]
    simp only[It.n,e3,Bool.and_self]
   unfold Uo
   rw[e1,e2,e4]
   dsimp only
   rw[ex,h]
  | false=>
   rw[if_neg (by simp)]
   dsimp only
   rw[if_pos rfl]
   have e1:WB 1 (.mk 0 1 [] [])=true:=rfl
   have e2:WB 0 (.mk 3 0 (Y7 x) [])=false:=rfl
   unfold Uo
   rw[e1,e2]
   exact HE h hz hi
theorem IK {m:Nat}(hm:m<128){c:UInt8}(h:okB m c=true):c.toNat<128:=by
 simp only[okB,Bool.or_eq_true,Bool.and_eq_true,decide_eq_true_eq,beq_iff_eq]at h
 omega
theorem QZ {x:EidV}(h:Z8 x=true):ZI (Yt x)=true:=by
 unfold Yt
 cases hz:isZ x with
 | true=>rw[if_pos rfl];rfl
 | false=>
  rw[if_neg (by simp)]
  cases hi:x.i with
  | true=>rw[if_pos rfl];simp[ZI,YS,Ym,WV]
  | false=>
   obtain⟨b1,b2,b3,b4,b5,b6,b7⟩:=WO h hz hi
   rw[if_neg (by simp)]
   have hv:ZD (Y7 x)=true:=by
    rw[YZ (Y7 x).length (Y7 x) (Nat.le_refl _) fun c hc=>?_,List.drop_length]
    ·rfl
    ·rw[List.take_length]at hc
     simp only[Y7,List.mem_append,List.mem_cons,List.not_mem_nil,or_false]at hc
     rcases hc with((hc|hc)|hc)|hc
     ·rcases hc with hc|hc<;>rw[hc]<;>decide
     ·exact IK (by decide) (List.all_eq_true.1 b6 c hc)
     ·rw[hc];decide
     ·exact IK (by decide) (List.all_eq_true.1 b7 c hc)
   simp[ZI,YS,Ym,WV,hv]
abbrev iC (x:EidV)(t q:Nat):List D:=[.bool x.i,.int .u64 (x.n:Int),.int .u64 (x.s:Int),.str x.h,.str x.d,.int .u64 (t:Int),.int .u64 (q:Int)]
def Y0 (x:EidV)(t q:Nat):Bool:=Z8 x&&decide ((t:Int)<=1099511627776)&&decide ((q:Int)<=1099511627776)
theorem QK [Known](x:EidV)(t q:Nat):AP Tryd.prog 43 [.agg (iC x t q)] (.bool (Y0 x t q)) []:=by
 refine AP.ofA (Zl Tryd.func43 Z Tryd.ntmps43 Z Z ?_)
 repeat'(first|(apply Zb (Vc x);kernel_rfl;(iterate 4 exact Z))|(apply Zg Za;exact Z)|(apply Zf Za;exact Z)|(apply Ze;(iterate 3 exact Z);(first|with_reducible assumption|(solve|simp only[bn])))|(apply Zt;(iterate 3 exact Z);(first|with_reducible assumption|(solve|simp only[bn])))|(apply YP;exact Z;exact Z;all_goals intro hb)|(apply Zk;exact Z;(first|with_reducible assumption|(solve|simp only[bn]));exact Z;exact Z)|(apply Zi;exact Z;(first|with_reducible assumption|(solve|simp only[bn]));exact Z;exact Z))
 all_goals(apply Zr [];(apply Zc Za;exact Z);(iterate 4 exact Z))
 all_goals first|rfl|(unfold Y0;simp only[*];done)|(unfold Y0;simp only[*];simp only[Bool.and_true,Bool.true_and,Bool.and_false,Bool.false_and];done)
theorem Gq [Known](x:EidV)(t q:Nat):AP Tryd.prog 31 [.agg (iC x t q)] (.bool (decide (IntKind.i64.wrap ((x.h.length:Int)+(x.d.length:Int))>300))) []:=by
 refine AP.ofA (Zl Tryd.func31 Z Tryd.ntmps31 Z Z ?_)
 repeat'(first|(apply Zg Za;exact Z)|(apply Zf Za;exact Z)|refine W5 Za Z Z Z Z ?_)
 (apply Zr [];(apply Zc Za;exact Z);(iterate 4 exact Z))
 all_goals rfl
def YD (x:EidV)(t q:Nat):It:=.mk 4 0 [] [Yt x,.mk 4 0 [] [.mk 0 t [] [],.mk 0 q [] []]]
theorem Y8 {x:EidV}{t q:Nat}:Y0 x t q=true ↔ Z8 x=true/\t<=1099511627776/\q<=1099511627776:=by
 unfold Y0
 simp only[Bool.and_eq_true,decide_eq_true_eq]
 rw[and_assoc]
 exact and_congr Iff.rfl (and_congr (by omega) (by omega))
theorem K2 {x:EidV}{t q:Nat}(h:Y0 x t q=true):wfI (YD x t q):=by
 obtain⟨h1,h2,h3⟩:=Y8.1 h
 have hw:=Up h1
 unfold YD
 generalize Yt x=y at *
 simp[wfI,wfs,hw]
 omega
theorem QL [Known](x:EidV)(t q:Nat):AP Tryd.prog 25 [.agg (iC x t q)] (.tup [itD (if Y0 x t q then YD x t q else .mk 0 0 [] []),.int .i64 (if Y0 x t q then 0 else 3)]) []:=by
 have hR:=QK x t q
 cases hr:Y0 x t q with
 | false=>
  rw[hr]at hR
  refine AP.ofA (Zl Tryd.func25 Z Tryd.ntmps25 Z Z ?_)
  repeat'(first|(apply Zb (hR);kernel_rfl;(iterate 4 exact Z))|(apply Zg Za;exact Z)|(apply Zf Za;exact Z)|(apply Zs Za;exact Z)|refine Zd Z Qt ?_)
  all_goals exact Qe
 | true=>
  rw[hr]at hR
  rw[if_pos rfl,if_pos rfl]
  obtain⟨h1,h2,h3⟩:=Y8.1 hr
  have hE:=QJ x
  rw[h1,if_pos rfl,if_pos rfl]at hE
  have hw:=Up h1
  have nt:=Yq t
  have nq:=Yq q
  unfold YD
  generalize Yt x=y at *
  have hL1:=WS [.mk 0 t [] [],.mk 0 q [] []] (by simp) (by simp[wfI,wfs];omega)
  have hL:=WS [y,.mk 4 0 [] [.mk 0 t [] [],.mk 0 q [] []]] (by simp) (by simp[wfI,wfs,hw];omega)
  obtain⟨k,n,b,l⟩:=y
  replace nt:AP Tryd.prog _ [.int .u64 (t:Int)] (.agg [.int .i64 0,.int .u64 (t:Int),.sl .ext [],.sl .ext []]) []:=nt
  replace nq:AP Tryd.prog _ [.int .u64 (q:Int)] (.agg [.int .i64 0,.int .u64 (q:Int),.sl .ext [],.sl .ext []]) []:=nq
  replace hE:AP Tryd.prog _ [.agg (eC x)] (.tup [.agg [.int .i64 k,.int .u64 (n:Int),byE b,.sl .ext (Zz l)],.int .i64 0]) []:=hE
  replace hL1:AP Tryd.prog _ _ (.agg [.int .i64 4,.int .u64 0,.sl .ext [],.sl .ext [.agg [.int .i64 0,.int .u64 (t:Int),.sl [],.sl []],.agg [.int .i64 0,.int .u64 (q:Int),.sl [],.sl []]]]) []:=hL1
  refine AP.ofA (Zl Tryd.func25 Z Tryd.ntmps25 Z Z ?_)
  repeat'(first|(apply Zb (hR);kernel_rfl;(iterate 4 exact Z))|(apply Zb (hE);kernel_rfl;(iterate 4 exact Z))|(apply Zb (nt);kernel_rfl;(iterate 4 exact Z))|(apply Zb (nq);kernel_rfl;(iterate 4 exact Z))|(apply Zb (hL1);kernel_rfl;(iterate 4 exact Z))|(apply Zb (hL);kernel_rfl;(iterate 4 exact Z))|(apply Zg Za;exact Z)|(apply Zf Za;exact Z)|(apply Zs Za;exact Z)|refine Zh Z Qt ?_|refine ZX Za Z Z Z Z Z Z Z Z Z Z Z Z ?_|(apply Zm 13 ZF;decide +kernel;kernel_rfl;kernel_rfl;kernel_rfl;exact Z;exact Z)|(apply Zq;(iterate 4 exact Z))|exact AE.nil _ _ _ _|(apply Zu;exact Z)|(apply Uj;exact Z)|(apply ZB;exact Z;exact Z;decide +kernel;exact Z)|(apply ZC;exact Z)|(apply QW;exact Z)|exact AO.nil _ _ _|(apply Zp;(decide +kernel))|(apply Z1;(iterate 3 exact Z))|exact AOs.nil|exact ZH rfl rfl|exact Wj rfl rfl rfl rfl rfl|exact UT rfl)
  all_goals exact Qe
end Go.Proofs.YtmljabhmajehnaaDoor
end
section
open Go.RowKit Go.Pl Go.Av
namespace Go.Proofs.YtmljabhmajehnaaDoor
set_option maxHeartbeats 4000000
mutual
def YT:It->Nat->Int->Int
 | .mk k n b l,d,m=>if 9<d then -1 else if 3000<b.length then -1 else Wf l (d+1) (m-1)
def Wf:List It->Nat->Int->Int
 | [],_,m=>m
 | x::l,d,m=>if m<0 then m else Wf l d (YT x d m)
end
mutual
theorem UA:∀(x:It) (d:Nat) (m:Int),0<=m->YT x d m<m /\ -1<=YT x d m
 | .mk k n b l,d,m,h=>by
  rw[YT]
  split
  ·omega
  ·split
   ·omega
   ·have:=UB l (d+1) (m-1) (by omega);omega
theorem UB:∀(l:List It) (d:Nat) (m:Int),-1<=m->Wf l d m<=m /\ -1<=Wf l d m
 | [],_,m,h=>by rw[Wf];omega
 | x::l,d,m,h=>by
  rw[Wf]
  split
  ·omega
  ·have h1:=UA x d m (by omega)
   have h2:=UB l d (YT x d m) (by omega)
   omega
end
mutual
def nI:It->Prop
 | .mk _ n _ l=>n<18446744073709551616/\nIs l
def nIs:List It->Prop
 | []=>True
 | x::l=>nI x/\nIs l
end
mutual
def W2:It->Nat->Bool
 | .mk _ _ _ l,d=>match d with
  | 0=>false
  | d+1=>W3 l d
def W3:List It->Nat->Bool
 | [],_=>true
 | x::l,d=>W2 x d&&W3 l d
end
mutual
theorem K3:∀(x:It) (d:Nat) (m:Int),m<=400->0<=YT x d m->nI x->wfI x/\(ZG x).length<=3009*(m-YT x d m)/\m-YT x d m ≥ 1/\W2 x (10-d)=true
 | .mk k n b l,d,m,hm,h,hn=>by
  rw[YT]at h ⊢
  split at h
  ·omega
  split at h
  ·omega
  rename_i h1 h2
  rw[if_neg h1,if_neg h2]
  obtain⟨q1,q2,q3,q4⟩:=Xz l (d+1) (m-1) (by omega) h hn.2
  refine⟨⟨hn.1,by omega,by omega,q1⟩,?_,by omega,?_⟩
  ·rw[ZG]
   have hw:(if ZV (k,(It.mk k n b l).hn,false) then ZQ (k,(It.mk k n b l).hn,false) else []).length<=9:=by
    split
    ·rename_i hr;rw[YA _ hr];exact Hs _
    ·exact Nat.zero_le _
   rw[List.length_append,List.length_append]
   omega
  ·obtain⟨e,he⟩:∃ e,10-d=e+1:=⟨9-d,by omega⟩
   rw[he,W2]
   rw[show 10-(d+1)=e by omega]at q4
   exact q4
theorem Xz:∀(l:List It) (d:Nat) (m:Int),m<=400->0<=Wf l d m->nIs l->wfs l/\(ZJ l).length<=3009*(m-Wf l d m)/\m-Wf l d m ≥ l.length/\W3 l (10-d)=true
 | [],_,m,_,h,hn=>by simp[wfs,ZJ,Wf,W3]
 | x::l,d,m,hm,h,hn=>by
  rw[Wf]at h ⊢
  split at h
  ·omega
  rename_i h1
  rw[if_neg h1]
  have h0:0<=YT x d m:=by
   rcases Int.lt_or_le (YT x d m) 0 with hlt|hge
   ·have:=UB l d (YT x d m) (by have:=UA x d m (by omega);omega);omega
   ·exact hge
  obtain⟨q1,q2,q3,q4⟩:=K3 x d m hm h0 hn.1
  obtain⟨r1,r2,r3,r4⟩:=Xz l d _ (by have:=UA x d m (by omega);omega) h hn.2
  refine⟨⟨q1,r1⟩,?_,?_,?_⟩
  ·rw[ZJ,List.length_append];omega
  ·rw[List.length_cons];omega
  ·rw[W3,q4,r4];rfl
end
end Go.Proofs.YtmljabhmajehnaaDoor
end
section
open Go.RowKit Go.Pl
namespace Go.Av
theorem ZW [Known][Dfr]{P:Program}{Q:X->St->Prop}{x:X}{S:St}(h:Q x S):unK P Q [] x S:=h
def X.noGoto (Q:X->St->Prop):X->St->Prop
 | .goto _,_=>False
 | x,S=>Q x S
theorem VO [Known][Dfr]{P:Program}{Q:X->St->Prop}{S:St}{c:Code}(h:AW P c S (X.noGoto Q)):AW P (.scope c) S Q:=⟨fun b0 g a w hi=>wp_scope_straight <| wp_mono (h.run b0 g a w hi) fun e a w hc=>by
 cases e<;>simp only[WH,X.noGoto,Exit.noGoto]at hc ⊢
 case goto l=>obtain⟨S,g,h1,h2⟩:=hc;exact h2
 all_goals exact hc⟩
section
variable {P:Program} {Q:X->St->Prop} {n:Nat} {ee:Nat × Nat} {tm:List (Nat × D)} {bx:List (List D)} {fr:List Fr} {T:Tab}
variable {ops:Array Oper} {rest:List Oper} {t ty:Nat} {pos:String} {after:Array Edge}
end
end Go.Av
end
section
open Go.RowKit Go.Pl Go.Av
namespace Go.Proofs.YtmljabhmajehnaaDoor
set_option maxHeartbeats 1000000
theorem XA [Known](n:Nat):AP Tryd.prog 88 [.int .u64 (n:Int)] (.int .i64 (ZA n)) []:=by
 refine Zl Tryd.func88 rfl Tryd.ntmps88 rfl rfl ?_
 repeat'(first|(apply Zf Za;exact Z)|(apply Zs Za;exact Z)|(apply Wr;exact Z;all_goals intro hb))
 all_goals refine Jc (.cons _ _ _ _ (.tmp _ _ rfl) .nil) (ZE _) rfl ?_ rfl
 all_goals simp only[decide_eq_true_eq,decide_eq_false_iff_not]at *
 all_goals(congr 1;unfold ZA;(repeat' split)<;>omega)
theorem HF [Known](m:Int):AP Tryd.prog 92 [.int .i64 m] (.bool (QF m)) []:=by
 refine Zl Tryd.func92 rfl Tryd.ntmps92 rfl rfl ?_
 repeat'(first|(apply Zg Za;exact Z)|(apply Zf Za;exact Z)|(apply Ze;(iterate 3 exact Z);(first|with_reducible assumption|(solve|simp only[bn])))|(apply Zt;(iterate 3 exact Z);(first|with_reducible assumption|(solve|simp only[bn])))|(apply Zo;(iterate 3 exact Z);(first|with_reducible assumption|(solve|simp only[bn])))|(apply YP;exact Z;exact Z;all_goals intro hb)|(apply Zk;exact Z;(first|with_reducible assumption|(solve|simp only[bn]));exact Z;exact Z)|(apply Zi;exact Z;(first|with_reducible assumption|(solve|simp only[bn]));exact Z;exact Z))
 all_goals refine Jc (.cons _ _ _ _ (.tmp _ _ rfl) .nil) (ZE _) rfl ?_ rfl
 all_goals(congr 1;rw[Bool.eq_iff_iff];simp[QF]at *;omega)
def hd (h:Hd):D:=.agg [.int .i64 h.1,.int .u64 (h.2.1:Int),.bool h.2.2]
theorem HG [Known](h:Hd):AP Tryd.prog 86 [hd h] (.bool (ZV h)) []:=by
 refine Zl Tryd.func86 rfl Tryd.ntmps86 rfl rfl ?_
 repeat'(first|(apply Vf (HF _);kernel_rfl;(iterate 4 exact Z))|(apply Zg Za;exact Z)|(apply Zf Za;exact Z)|(apply Ze;(iterate 3 exact Z);(first|with_reducible assumption|(solve|simp only[bn])))|(apply Zt;(iterate 3 exact Z);(first|with_reducible assumption|(solve|simp only[bn])))|(apply YP;exact Z;exact Z;all_goals intro hb)|(apply Zk;exact Z;(first|with_reducible assumption|(solve|simp only[bn]));exact Z;exact Z)|(apply Zi;exact Z;(first|with_reducible assumption|(solve|simp only[bn]));exact Z;exact Z)|(apply Wr;exact Z;all_goals intro hb)|refine Uh Za Z Z Z Z Qk Qk Z Z Z ?_)
 all_goals refine Jc (.cons _ _ _ _ (.tmp _ _ rfl) .nil) (ZE _) rfl ?_ rfl
 all_goals(obtain⟨m,n,o⟩:=h;congr 1;rw[Bool.eq_iff_iff];simp_all [ZV,QF];try omega)
theorem TT (n:Nat):(ZA n=0/\Yr n=n/\n<24)\/(ZA n=1/\Yr n=24)\/(ZA n=2/\Yr n=25)\/(ZA n=4/\Yr n=26)\/(ZA n=8/\Yr n=27):=by
 unfold ZA Yr
 by_cases h1:n<24
 ·simp[h1]
 by_cases h2:n<256
 ·simp[h1,h2]
 by_cases h3:n<65536
 ·simp[h1,h2,h3]
 by_cases h4:n<4294967296
 ·simp[h1,h2,h3,h4]
 ·simp[h1,h2,h3,h4]
theorem TU [Known](n:Nat):AP Tryd.prog 87 [.int .u64 (n:Int)] (.int .u8 (Yr n)) []:=by
 refine Zl Tryd.func87 rfl Tryd.ntmps87 rfl rfl ?_
 repeat'(first|(apply Vf (XA _);kernel_rfl;(iterate 4 exact Z))|(apply Zg Za;exact Z)|(apply Zf Za;exact Z)|(apply Zs Za;exact Z)|(apply Wr;exact Z;all_goals intro hb))
 all_goals refine Jc (.cons _ _ _ _ (.tmp _ _ rfl) .nil) (ZE _) rfl ?_ rfl
 all_goals(rcases TT n with⟨h1,h2,h3⟩ | ⟨h1,h2⟩ | ⟨h1,h2⟩ | ⟨h1,h2⟩ | ⟨h1,h2⟩<;>simp_all)
 all_goals(rw[IntKind.wrap_u8'];omega)
theorem K4 (m:Int)(i:Nat)(hm:0<=m/\m<=7)(hi:i<32):bits .or .u8 (IntKind.u8.wrap (IntKind.u8.wrap m*2 ^ min (Int.toNat 5) IntKind.u8.bits)) (i:Int)=((WL m.toNat i).toNat:Int):=by
 have e2:IntKind.u8.wrap (IntKind.u8.wrap m*2 ^ min (Int.toNat 5) IntKind.u8.bits)=(m.toNat:Int)*32:=by
  rw[show min (Int.toNat 5) IntKind.u8.bits=5 from rfl,IntKind.wrap_u8',IntKind.wrap_u8'];omega
 rw[e2,M4 m.toNat i (by omega) hi]
 unfold WL
 rw[UInt8.toNat_ofNat']
 omega
theorem TV {h:Hd}(hr:ZV h=true):0<=h.1/\h.1<=7:=by
 obtain⟨m,n,o⟩:=h
 cases o<;>simp[ZV,QF]at hr<;>omega
theorem TW (n q:Nat)(hq:q<8):E.int .u8 (IntKind.u8.wrap ((n:Int).fdiv (2 ^ min (IntKind.i64.wrap (8*(q:Int))).toNat IntKind.u64.bits)))=E.byte (UInt8.ofNat (n/256 ^ q)):=by
 have e:IntKind.i64.wrap (8*(q:Int))=((8*q:Nat):Int):=by rw[IntWalk.i64_in _ (by omega)];omega
 rw[e,Int.toNat_natCast,show min (8*q) IntKind.u64.bits=8*q from Nat.min_eq_left (by show 8*q<=64;omega)]
 rw[show((n:Int).fdiv (2 ^ (8*q)))=((n/256 ^ q:Nat):Int) from by
  have e:(2:Int) ^ (8*q)=((256 ^ q:Nat):Int):=by
   rw[show(256:Nat)=2 ^ 8 from rfl,<- Nat.pow_mul]
   simp
  rw[e,Int.fdiv_eq_ediv_of_nonneg _ (Int.natCast_nonneg _),<- Int.natCast_ediv]]
 rw[IntKind.wrap_u8']
 unfold E.byte
 rw[UInt8.toNat_ofNat']
 congr 1
theorem K5 [Known](h:Hd)(hn:h.2.1<18446744073709551616):AP Tryd.prog 68 [hd h] (.tup [byE (if ZV h then ZQ h else []),.int .i64 (if ZV h then 0 else 3)]) []:=by
 refine AP.weak ?_
 have HR:=@TV h
 have HN:=hid hn
 clear hn
 refine Zl Tryd.func68 rfl Tryd.ntmps68 rfl rfl ?_
 repeat'(first|(apply Vf (HG h);kernel_rfl;(iterate 4 exact Z))|(apply Vf (TU _);kernel_rfl;(iterate 4 exact Z))|(apply Vf (XA _);kernel_rfl;(iterate 4 exact Z))|refine XV Z Z (by decide) Z ?_|(apply Zg Za;exact Z)|(apply Zf Za;exact Z)|(apply Zs Za;exact Z)|(apply Wr;exact Z;all_goals intro hb)|refine Jq Za Z Z Z Z Z Z Z Z Z Z Z Z ?_|(apply ZO 7 ZF;decide +kernel;kernel_rfl;kernel_rfl;exact Z;exact Z)|(apply ZU;(iterate 3 exact Z))|refine AD.nil _|exact Yb rfl)
 ·refine NM (.cons _ _ _ _ (.tmp _ _ rfl) (.cons _ _ _ _ (.tmp _ _ rfl) .nil)) rfl ?_
  simp_all [byE]
 ·refine NM (.cons _ _ _ _ (.tmp _ _ rfl) (.cons _ _ _ _ (.tmp _ _ rfl) .nil)) rfl ?_
  have hr:ZV h=true:=by simpa using(‹(!ZV h)=false›)
  rw[if_pos hr,if_pos hr,show ZQ h=[WL h.1.toNat 31] by simp[ZQ,hb],show E.int IntKind.u8 (bits .or .u8 (IntKind.u8.wrap (IntKind.u8.wrap h.1*2 ^ min (Int.toNat 5) IntKind.u8.bits)) 31)=E.byte (WL h.1.toNat 31) from congrArg _ (K4 h.1 31 (HR hr) (by omega))]
  rfl
 rename_i hb1
 have hr:ZV h=true:=by simpa using hb1
 have hw:ZQ h=WL h.1.toNat (Yr h.2.1)::beN h.2.1 (ZA h.2.1):=by simp[ZQ,hb]
 have hlen:(beN h.2.1 (ZA h.2.1)).length=ZA h.2.1:=Yw _ _
 have hf8:=Ju h.2.1
 refine Z4 (fun k tm bx fr=>∃(i c:Nat) (L:List E),k+i=ZA h.2.1/\c=L.length/\c=i+1/\L=((ZQ h).take (i+1)).map E.byte/\tm=[(33,.int .i64 (i:Int)),(32,.int .i64 (ZA h.2.1:Int)),(5,.int .i64 (ZA h.2.1:Int)),(4,.sl (.own 0) L),(3,.int .i64 0),(1,.ptr 0 0)]/\bx=[[.int .i64 h.1,.int .u64 (h.2.1:Int),.bool h.2.2]]/\fr=[⟨c,1,5⟩]) (ZA h.2.1+1) (Lands.mk' (m:=ZA h.2.1) (Nat.lt_succ_self _) ⟨0,1,[E.byte (WL h.1.toNat (Yr h.2.1))],rfl,rfl,rfl,by rw[hw];rfl,rfl,rfl,rfl⟩ ?_ rfl rfl rfl rfl rfl rfl) ?_
 ·repeat'(first|exact Av.Sub.nil|refine Av.Sub.cons rfl ?_|refine Av.Sub.cons ?_ ?_)
  have e:=congrArg (fun x:Int=>D.sl (.own 0) [E.int .u8 x]) (K4 h.1 (Yr h.2.1) (HR hr) (by have:=KJ h.2.1;omega))
  exact e
 rintro k tm bx fr ⟨i,c,L,hk,hc,hi,hL,rfl,rfl,rfl⟩
 have hU:Uni 1 L:=hL ▸ YK _
 repeat'(first|(apply Yn;exact Z;exact Z;rotate_left;exact Z)|(apply Zg Za;exact Z)|(apply Zf Za;exact Z)|(apply Wr;exact Z;all_goals intro hb)|refine Jq Za Z Z Z Z Z Z Z Z Z Z Z Z ?_|(apply ZY Za;(iterate 6 exact Z);(first|with_reducible assumption|exact Z|rotate_left);exact Z;exact Z;(first|exact Zj rfl|with_reducible assumption|rotate_left);(first|exact Zj rfl|with_reducible assumption|rotate_left);(first|exact Qb|rotate_left);(first|exact Qb|rotate_left);(first|exact Qb|rotate_left);exact Z;exact Z))
 ·have hlt:i<ZA h.2.1:=by have:=of_decide_eq_true hb;omega
  have hx:IntKind.i64.wrap (IntKind.i64.wrap (↑(ZA h.2.1)-1) - ↑i)=((ZA h.2.1-1-i:Nat):Int):=by
   rw[IntWalk.i64_in ((ZA h.2.1:Int)-1) (by omega),IntWalk.i64_in _ (by omega)];omega
  refine Lands.mk' (m:=k-1) (by omega) ⟨i+1,L.length+1,L++[E.byte (UInt8.ofNat (h.2.1/256 ^ (ZA h.2.1-1-i)))],by omega,by simp,by omega,?_,rfl,rfl,rfl⟩ ?_ rfl rfl rfl rfl rfl rfl
  ·rw[hL,hw,List.take_succ_cons,List.take_succ_cons,UL _ _ _ hlt]
   simp
  ·refine .cons ?_ (.cons rfl (.cons rfl (.cons ?_ (.cons rfl (.cons rfl .nil)))))
   ·exact congrArg (D.int .i64) (IntWalk.i64_in _ (by omega))
   ·have e:=congrArg (fun x=>D.sl (.own 0) (L++[x])) (TW h.2.1 (ZA h.2.1-1-i) (by omega))
    rw[<- hx]at e
    exact e
 ·have:=of_decide_eq_true hb;show L.length+1<=maxLen;unfold maxLen;omega
 ·have:=of_decide_eq_true hb;show(L.length+1)*1<=140737488355328;omega
 ·have:=of_decide_eq_true hb
  have hx:IntKind.i64.wrap (IntKind.i64.wrap (↑(ZA h.2.1)-1) - ↑i)=((ZA h.2.1-1-i:Nat):Int):=by
   rw[IntWalk.i64_in ((ZA h.2.1:Int)-1) (by omega),IntWalk.i64_in _ (by omega)];omega
  rw[hx,IntWalk.i64_in _ (by omega)];omega
 ·refine NM (.cons _ _ _ _ (.tmp _ _ rfl) (.cons _ _ _ _ (.tmp _ _ rfl) .nil)) rfl ?_
  rw[if_pos hr,if_pos hr,hL]
  have:=of_decide_eq_false hb
  rw[List.take_of_length_le (by rw[hw,List.length_cons,hlen];omega)]
end Go.Proofs.YtmljabhmajehnaaDoor
end
