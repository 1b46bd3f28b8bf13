/- Package primary: a first block with a sum, written; the item's row handed on as one's own. -/
import Derived.Test.YtakblclkflnnpaaDoorG28
import Derived.Test.YtakblclkflnnpaaDoorG29
import Derived.Test.YtakblclkflnnpaaDoorG27
import Derived.Test.YtakblclkflnnpaaDoorG01
import Derived.Test.YtakblclkflnnpaaDoorG11
import Derived.Test.YtakblclkflnnpaaDoorG07
import Derived.Test.YtakblclkflnnpaaDoorG18
import Derived.Test.YtakblclkflnnpaaDoorG10
import Derived.Test.YtakblclkflnnpaaDoorProg
import Derived.Lib.LaidU8
set_option linter.unusedVariables false
set_option linter.unusedSimpArgs false
section
open Go.RowKit Go.Pl Go.Av
namespace Go.Proofs.YtakblclkflnnpaaDoor
set_option maxHeartbeats 4000000
theorem Zh5 [Known][KnownU8](p:PriV)(hfl:p.fl<18446744073709551616)(s:Nat)(hs:s=1\/s=2)(hps:p.sum=(s:Int))(hr:ZcG p=true)(hlim:(ZaX (ZaK s (Zby p))).length<=1000000000)
  (hA:(Zby p).all Zaw=true) (hz:Zaw (ZaK s (Zby p))=true) (hro:Zaw (Zdh s (Zby p))=true) :
  AF Tryd.prog 24 [.agg (prC p)] 9 (fun c=>.tup [.agg [.int .i64 4,.int .u64 0,.sl .ext [],.bsl 0 0 9 c],.int .i64 0]) (fun c=>[[.row (c*4) (flat (Zan (Zdh s (Zby p)).l))]]):=by
 have hR:=Zey p
 rw[hr]at hR
 obtain⟨h1,h2,h3,h4,h5,h6⟩:=ZdW hr
 have hty:ZaU (Zby p) 2=(s:Int):=by
  have e:p.sum.toNat=s:=by omega
  unfold Zby ZaU
  rcases hs with rfl|rfl<;>rw[e]<;>rfl
 have hS:=Zkr (Zby p) 2 s hs hty (by decide) (by show(2:Int)<8;decide) (ZlG hr hfl) (by simp[Zby]) hlim hA hz hro
 have hD:=ZcX p.dest
 have hP:=ZcX p.rep
 have hI:=Zez p.src p.t p.q
 rw[if_pos h3,if_pos h3]at hD
 rw[if_pos h4,if_pos h4]at hP
 rw[if_pos h5,if_pos h5]at hI
 have hN:=ZbI 7
 have hF:=ZbI p.fl
 have hM:=ZbI p.sum.toNat
 have hL:=ZbI p.life
 have hrow:flat (Zan (Zdh s (Zby p)).l)=flat (Zan (Zby p)++[.agg [.int .i64 2,.int .u64 0,.sl ((Zdu s (ZaX (ZaK s (Zby p)))).map E.byte),.sl []]]):=by
  show flat (Zan (Zby p++[.mk 2 0 (Zdu s (ZaX (ZaK s (Zby p)))) []]))=_
  rw[Zbz]
  rfl
 rw[hrow]
 clear hrow hA hz hro hty
 generalize Zdu s (ZaX (ZaK s (Zby p)))=SB at *
 unfold Zby at hS ⊢
 unfold ZgM at hI
 obtain⟨fl,sum,⟨di,dn,ds,dh,dd⟩,⟨ri,rn,rs,rh,rd⟩,⟨xi,xn,xs,xh,xd⟩,t,q,life⟩:=p
 dsimp only at *
 clear hlim
 generalize ZcL ⟨di,dn,ds,dh,dd⟩=I1 at *
 generalize ZcL ⟨ri,rn,rs,rh,rd⟩=I2 at *
 generalize ZcL ⟨xi,xn,xs,xh,xd⟩=I3 at *
 obtain⟨ak,an,ab,al⟩:=I1
 obtain⟨bk,bn,bb,bl⟩:=I2
 obtain⟨ck,cn,cb,cl⟩:=I3
 have es:IntKind.u64.wrap sum=((sum.toNat:Nat):Int):=by rw[IntWalk.u64_in _ (by omega)];omega
 have hU:=Zbs [It.mk ck cn cb cl,.mk 4 0 [] [.mk 0 t [] [],.mk 0 q [] []]]
 have hv0:(Zan [It.mk ck cn cb cl,.mk 4 0 [] [.mk 0 t [] [],.mk 0 q [] []]])[(0:Int).toNat]?=some (.agg [.int .i64 ck,.int .u64 (cn:Int),.sl (cb.map E.byte),.sl (Zan cl)]):=rfl
 have hv1:(Zan [It.mk ck cn cb cl,.mk 4 0 [] [.mk 0 t [] [],.mk 0 q [] []]])[(1:Int).toNat]?=some (.agg [.int .i64 4,.int .u64 0,.sl [],.sl [nmE t,nmE q]]):=rfl
 generalize hLe:Zan [It.mk ck cn cb cl,.mk 4 0 [] [.mk 0 t [] [],.mk 0 q [] []]]=LL at *
 replace hI:AP Tryd.prog 52 [.agg (iC ⟨xi,xn,xs,xh,xd⟩ t q)] (.tup [.agg [.int .i64 4,.int .u64 0,.sl .ext [],.sl .ext LL],.int .i64 0]) []:=by rw[<- hLe];exact hI
 replace hS:AF Tryd.prog 8 [.sl .ext [nmE 7,nmE fl,nmE sum.toNat,.agg [.int .i64 ak,.int .u64 (an:Int),.sl (ab.map E.byte),.sl (Zan al)],.agg [.int .i64 ck,.int .u64 (cn:Int),.sl (cb.map E.byte),.sl (Zan cl)],.agg [.int .i64 bk,.int .u64 (bn:Int),.sl (bb.map E.byte),.sl (Zan bl)],.agg [.int .i64 4,.int .u64 0,.sl [],.sl [nmE t,nmE q]],nmE life],.int .i64 2] 9
  (fun c=>.tup [.agg [.int .i64 4,.int .u64 0,.sl .ext [],.bsl 0 0 9 c],.int .i64 0]) (fun c=>[[.row (c*4) (flat ([nmE 7,nmE fl,nmE sum.toNat,.agg [.int .i64 ak,.int .u64 (an:Int),.sl (ab.map E.byte),.sl (Zan al)],.agg [.int .i64 ck,.int .u64 (cn:Int),.sl (cb.map E.byte),.sl (Zan cl)],.agg [.int .i64 bk,.int .u64 (bn:Int),.sl (bb.map E.byte),.sl (Zan bl)],.agg [.int .i64 4,.int .u64 0,.sl [],.sl [nmE t,nmE q]],nmE life]++[.agg [.int .i64 2,.int .u64 0,.sl (SB.map E.byte),.sl []]]))]]):=hS
 refine AF.weak ?_
 refine Zao Tryd.func24 rfl Tryd.ntmps24 rfl rfl ?_
 repeat'(first|(apply Zaa (hR);kernel_rfl;(iterate 4 exact Z))|rw[es]|(apply Zaa (hD);kernel_rfl;(iterate 4 exact Z))|(apply Zaa (hP);kernel_rfl;(iterate 4 exact Z))|(apply Zaa (hI);kernel_rfl;(iterate 4 exact Z))|(apply Zaa (hN);kernel_rfl;(iterate 4 exact Z))|(apply Zaa (hF);kernel_rfl;(iterate 4 exact Z))|(apply Zaa (hM);kernel_rfl;(iterate 4 exact Z))|(apply Zaa (hL);kernel_rfl;(iterate 4 exact Z))|(apply Zfu (hS);kernel_rfl;exact Z;exact Z;exact(fun _=>rfl);exact(fun _=>rfl);intro c1 hc1)|(apply Zaj Zab;exact Z)|(apply Zah Zab;exact Z)|(apply Zay Zab;exact Z)|(apply Zae;exact Z;exact Qt)|(apply Za0 Zab;(iterate 12 exact Z))|(apply Zap 21 ZaY;decide +kernel;kernel_rfl;kernel_rfl;kernel_rfl;exact Z;exact Z)|(apply Zas;(iterate 4 exact Z))|exact AE.nil _ _ _ _|(apply Zau;exact Z)|(apply ZaA;exact Z;exact Z;decide +kernel;exact Z)|(apply ZaB;exact Z)|exact AO.nil _ _ _|(apply Zar;(decide +kernel))|exact AOs.nil|exact ZaN rfl rfl|(apply Zat Zab;(iterate 6 exact Z);(first|exact Qt|rotate_left);(first|with_reducible assumption|decide +kernel|exact Z);(first|exact Zag rfl|with_reducible assumption|decide +kernel|rotate_left)))
 all_goals first|((apply ZkJ [5] c1 hc1;(apply Zad Zab;exact Z);(iterate 5 exact Z)))|((apply ZkJ [4] c1 hc1;(apply Zad Zab;exact Z);(iterate 5 exact Z)))|((apply ZkJ [3] c1 hc1;(apply Zad Zab;exact Z);(iterate 5 exact Z)))|((apply ZkJ [6] c1 hc1;(apply Zad Zab;exact Z);(iterate 5 exact Z)))|((apply ZkJ [2] c1 hc1;(apply Zad Zab;exact Z);(iterate 5 exact Z)))|((apply ZkJ [1] c1 hc1;(apply Zad Zab;exact Z);(iterate 5 exact Z)))
def fp1:PriV:=⟨131072,1,ZcM,ZcM,ZcM,0,0,9⟩
def fp3:PriV:=⟨1,0,ZcM,ZcM,ZcM,0,0,0⟩
abbrev fe0:It:=.mk 4 0 [] [.mk 0 1 [] [],.mk 0 0 [] []]
abbrev fx0:List It:=[.mk 0 7 [] [],.mk 0 0 [] [],.mk 0 0 [] [],fe0,fe0,fe0,.mk 4 0 [] [.mk 0 0 [] [],.mk 0 0 [] []],.mk 0 0 [] []]
abbrev fy1:List It:=[.mk 0 7 [] [],.mk 0 131072 [] [],.mk 0 1 [] [],fe0,fe0,fe0,.mk 4 0 [] [.mk 0 0 [] [],.mk 0 0 [] []],.mk 0 9 [] [],.mk 2 0 [125,221] []]
abbrev fy2:List It:=[.mk 0 7 [] [],.mk 0 131072 [] [],.mk 0 1 [] [],fe0,fe0,fe0,.mk 4 0 [] [.mk 0 0 [] [],.mk 0 0 [] []],.mk 0 8 [] [],.mk 2 0 [125,221] []]
theorem fa1:ZcH pr0=(.mk 4 0 [] fx0,0):=by kernel_rfl
theorem fa2:Zju (.mk 4 0 [] fx0)=(pr0,0):=by kernel_rfl
theorem fa3:(Zdh 1 (Zby fp1)).l=fy1:=by kernel_rfl
theorem fa4:Zju (.mk 4 0 [] fy1)=(fp1,0):=by kernel_rfl
theorem fa5:Zju (.mk 4 0 [] fy2)=(pr0,10):=by kernel_rfl
theorem fa6:ZcH fp3=(z0,3):=by kernel_rfl
theorem fa7:ZcG fp1=true:=by kernel_rfl
theorem fa8:(Zby fp1).all Zaw=true:=by kernel_rfl
theorem fa9:Zaw (ZaK 1 (Zby fp1))=true:=by kernel_rfl
theorem Znn:Zaw (Zdh 1 (Zby fp1))=true:=by kernel_rfl
theorem Zm5 {l:List It}(h1:l.length<=9)(h2:wfs l):wfI (.mk 4 0 [] l):=⟨by decide,by simp,by omega,h2⟩
theorem Zjv [Known][KnownU8]:AP Tryd.prog 7 [] (.bool true) []:=by
 have h1:=ZdE pr0 (by decide)
 rw[fa1]at h1
 have h2:=Zfw (.mk 4 0 [] fx0) (Zm5 (by decide) (by simp[wfs,wfI])) (by decide) (ZgJ (by decide +kernel))
 rw[fa2]at h2
 have h3:=Zh5 fp1 (by decide) 1 (.inl rfl) rfl fa7 (by decide +kernel) fa8 fa9 Znn
 rw[fa3]at h3
 have h4:=Zfw (.mk 4 0 [] fy1) (Zm5 (by decide) (by simp[wfs,wfI])) (by decide) (ZgJ (by decide +kernel))
 rw[fa4]at h4
 have h5:=Zfw (.mk 4 0 [] fy2) (Zm5 (by decide) (by simp[wfs,wfI])) (by decide) (ZgJ (by decide +kernel))
 rw[fa5]at h5
 have h6:=ZdE fp3 (by decide)
 rw[fa6]at h6
 have hN:=ZbI 8
 have hst:Zfn (flat (Zan fy1)) 28 [.int .i64 0,.int .u64 8,.sl [],.sl []]=flat (Zan fy2):=rfl
 refine AP.ofA ?_
 refine Zao Tryd.func7 rfl Tryd.ntmps7 rfl rfl ?_
 repeat'(first|(apply Zi7 Zab;(iterate 6 exact Z);exact Nat.le_of_ble_eq_true rfl;exact hst;exact Z)|(apply Zaa (h1);kernel_rfl;(iterate 4 exact Z))|(apply Zaa (h2);kernel_rfl;(iterate 4 exact Z))|(apply Zfu (h3);kernel_rfl;exact Z;exact Z;exact(fun _=>rfl);exact(fun _=>rfl);intro c1 hc1)|(apply Zft (b:=2) (h4);kernel_rfl;exact Z;(repeat (first|exact True.intro|exact ZgL _ _ _|apply ZgK|apply Zex));(iterate 3 exact Z);(first|exact Z|with_reducible assumption|rotate_left))|(apply Zft (b:=2) (h5);kernel_rfl;exact Z;(repeat (first|exact True.intro|exact ZgL _ _ _|apply ZgK|apply Zex));(iterate 3 exact Z);(first|exact Z|with_reducible assumption|rotate_left))|(apply Zaa (h6);kernel_rfl;(iterate 4 exact Z))|(apply Zaa (hN);kernel_rfl;(iterate 4 exact Z))|(apply Zln Zab;(iterate 4 exact Z))|(apply Zlo Zab;(iterate 6 exact Z);(first|exact Qb|rotate_left);(first|exact Qb|rotate_left);exact Z)|(apply Zi5 Zab;(iterate 7 exact Z))|(apply Zaj Zab;exact Z)|(apply Zah Zab;exact Z)|(apply Zay Zab;exact Z)|(apply Zaf;(iterate 3 exact Z);exact Qt)|(apply Zam;exact Z;exact Qt;exact Z;exact Z)|(apply Zai;exact Z;exact Qt;exact Z;exact Z)|(apply Zae;exact Z;exact Qt)|(apply Zak Zab;(iterate 4 exact Z))|(apply ZdH Zab;(iterate 4 exact Z);kernel_rfl;kernel_rfl;(iterate 3 exact Z))|(apply Zap 3 ZaY;decide +kernel;kernel_rfl;kernel_rfl;kernel_rfl;exact Z;exact Z)|(apply Zas;(iterate 4 exact Z))|exact AE.nil _ _ _ _|(apply Zau;exact Z)|(apply ZaA;exact Z;exact Z;decide +kernel;exact Z)|(apply ZaB;exact Z)|exact AO.nil _ _ _|(apply Zar;(decide +kernel))|exact AOs.nil|exact ZaN rfl rfl)
 all_goals first|((apply Zaz [];(apply Zad Zab;exact Z);(iterate 4 exact Z)))|skip
 all_goals first|rfl
theorem Zgm {l:List It}(h:ZbA l 10=true)(x:List It)(hx:ZbA x 10=true):Zbp (.mk 4 0 [] (l++x)) 11=true:=by
 rw[Zbp,Zdw,h,hx]
 rfl
theorem Zh6 {l:List It}(h:ZbA l 10=true)(a:Int):Zbp (Zdf l a).1 11=true:=by
 have h0:=Zgm h [] rfl
 rw[List.append_nil]at h0
 unfold Zdf
 repeat' split
 all_goals first|exact h0|rfl|exact Zgm h [_] (by simp[ZbA,Zbp])
theorem Zku (x:It)(a:Int):(ZdO x a).1.length<=x.l.length:=by
 obtain⟨k,n,b,l⟩:=x
 unfold ZdO
 dsimp only[It.l]
 repeat' split
 all_goals first|(simp;done)|(simp;omega)|(show(List.take _ _).length<=_;rw[List.length_take];omega)
theorem Zno [Known](k:Int)(n:Nat)(b:List UInt8)(l:List It)(a g:Int)
  (hA:AP Tryd.prog 7 [] (.bool true) [])
  (hG:AP Tryd.prog 6 [.agg (itC k n b l),.int .i64 1,.int .i64 300] (.int .i64 g) []) (t0:decide (g<0)=true) :
  AP Tryd.prog 3 [.agg (itC k n b l),.int .i64 a] (.bool true) []:=by
 refine AP.ofA ?_
 refine Zao Tryd.func3 rfl Tryd.ntmps3 rfl rfl ?_
 repeat'(first|(apply Zaa (hA);kernel_rfl;(iterate 4 exact Z))|(apply Zaa (hG);kernel_rfl;(iterate 4 exact Z))|(apply Zaj Zab;exact Z)|(apply Zah Zab;exact Z)|(apply Zay Zab;exact Z)|(apply Zac;exact Z;(first|with_reducible assumption|decide +kernel|(solve|simp only[bn]))))
 all_goals(apply Zaz [];(apply Zad Zab;exact Z);(iterate 4 exact Z))
 all_goals rfl
theorem Znp [Known](k:Int)(n:Nat)(b:List UInt8)(l:List It)(a g:Int)(ol:List It)(e h:Int)(sk:Int)(sn:Nat)(sb:List UInt8)(sl:List It)
  (hA:AP Tryd.prog 7 [] (.bool true) [])
  (hG:AP Tryd.prog 6 [.agg (itC k n b l),.int .i64 1,.int .i64 300] (.int .i64 g) []) (t0:decide (g<0)=false)
  (hS:AP Tryd.prog 8 [.sl .ext (Zan l),.int .i64 a] (.tup [.agg (itC sk sn sb sl),.int .i64 e]) [])
  (hI:AP Tryd.prog 10 [.sl .ext (Zan l)] (.sl .ext (Zan l)) [])
  (hD:AP Tryd.prog 9 [.sl .ext (Zan l),.int .i64 a] (.tup [.agg (itC sk sn sb sl),.int .i64 e]) [])
  (hO:AP Tryd.prog 11 [.agg (itC k n b l),.int .i64 a] (.tup [.sl .ext (Zan ol),.int .i64 h]) [])
  (hX:AP Tryd.prog 13 [.agg (itC k n b l),.int .i64 10] (.agg (itC k n b l)) [])
  (hP:AP Tryd.prog 12 [.agg (itC k n b l),.int .i64 a] (.tup [.sl .ext (Zan ol),.int .i64 h]) [])
  (hY:∀ y ∈ ol,AP Tryd.prog 13 [itD y,.int .i64 9] (itD y) []/\AP Tryd.prog 14 [itD y,itD y] (.bool true) [])
  (hZ:AP Tryd.prog 13 [.agg (itC sk sn sb sl),.int .i64 10] (.agg (itC sk sn sb sl)) [])
  (hM:AP Tryd.prog 14 [.agg (itC sk sn sb sl),.agg (itC sk sn sb sl)] (.bool true) [])
  (y1:(e==e)=true) (y2:(h==h)=true) (hol:ol.length<=1000000) :
  AP Tryd.prog 3 [.agg (itC k n b l),.int .i64 a] (.bool true) []:=by
 have y3:(((Zan ol).length:Int) != ((Zan ol).length:Int))=false:=by simp
 have hlen:=Zal ol
 have hU:=Zbs ol
 refine AP.ofA ?_
 refine Zao Tryd.func3 rfl Tryd.ntmps3 rfl rfl ?_
 repeat'(first|(apply Zaa (hG);kernel_rfl;(iterate 4 exact Z))|(apply Zaa (hS);kernel_rfl;(iterate 4 exact Z))|(apply Zaa (hI);kernel_rfl;(iterate 4 exact Z))|(apply Zaa (hD);kernel_rfl;(iterate 4 exact Z))|(apply Zaa (hO);kernel_rfl;(iterate 4 exact Z))|(apply Zaa (hX);kernel_rfl;(iterate 4 exact Z))|(apply Zaa (hP);kernel_rfl;(iterate 4 exact Z))|(apply Zaj Zab;exact Z)|(apply Zah Zab;exact Z)|(apply Zay Zab;exact Z)|(apply Zae;exact Z;(first|with_reducible assumption|decide +kernel|(solve|simp only[bn])))|(apply Zak Zab;(iterate 4 exact Z)))
 refine ZaC (fun f tm bx fr=>∃(i:Nat),f+i=ol.length/\tm=[(5,.ptr 1 0),(6,.int .i64 e),(7,.ptr 2 0),(8,.int .i64 e),(9,.sl .ext (Zan ol)),(10,.int .i64 h),(11,.sl .ext (Zan ol)),(12,.int .i64 h),(13,.int .i64 (i:Int))]/\bx=[itC k n b l,itC sk sn sb sl,itC sk sn sb sl]/\fr=[]) (ol.length+1) (Lands.mk' (m:=ol.length) (Nat.lt_succ_self _) ⟨0,by omega,rfl,rfl,rfl⟩ ?_ rfl rfl rfl rfl rfl rfl) ?_
 ·exact .cons rfl (.cons rfl (.cons rfl (.cons rfl (.cons rfl (.cons rfl (.cons rfl (.cons rfl (.cons rfl .nil))))))))
 rintro f tm bx fr ⟨i,hf,rfl,rfl,rfl⟩
 rcases Nat.lt_or_ge i ol.length with hlt|hge
 ·have hdl:decide ((i:Int)<((Zan ol).length:Int))=true:=decide_eq_true (by omega)
  obtain⟨⟨k1,n1,b1,l1⟩,hy⟩:∃ y,ol[i]?=some y:=⟨_,List.getElem?_eq_getElem hlt⟩
  have hv:(Zan ol)[((i:Nat):Int).toNat]?=some (.agg [.int .i64 k1,.int .u64 (n1:Int),.sl (b1.map E.byte),.sl (Zan l1)]):=by
   rw[Int.toNat_natCast,Zax,List.getElem?_map,hy];rfl
  obtain⟨hc1,hc2⟩:=hY _ (List.mem_of_getElem? hy)
  have ei:IntKind.i64.wrap ((i:Int)+1)=((i+1:Nat):Int):=by rw[IntWalk.i64_in _ (by omega)];omega
  have hi0:(0:Int)<=(i:Int):=by omega
  generalize Zan ol=L at *
  repeat'(first|(apply Zaa (hc1);kernel_rfl;(iterate 4 exact Z))|(apply Zaa (hc2);kernel_rfl;(iterate 4 exact Z))|rw[ei]|(apply Zaj Zab;exact Z)|(apply Zah Zab;exact Z)|(apply Zay Zab;exact Z)|(apply Zac;exact Z;(first|with_reducible assumption|decide +kernel|(solve|simp only[bn])))|(apply Zae;exact Z;(first|with_reducible assumption|decide +kernel|(solve|simp only[bn])))|(apply Zak Zab;(iterate 4 exact Z))|(apply Zap 9 ZaY;decide +kernel;kernel_rfl;kernel_rfl;kernel_rfl;exact Z;exact Z)|(apply Zas;(iterate 4 exact Z))|exact AE.nil _ _ _ _|(apply Zau;exact Z)|(apply ZaA;exact Z;exact Z;decide +kernel;exact Z)|(apply ZaB;exact Z)|exact AO.nil _ _ _|(apply Zar;(decide +kernel))|exact AOs.nil|exact ZaN rfl rfl|(apply Zat Zab;(iterate 6 exact Z);(first|exact Qt|rotate_left);(first|with_reducible assumption|decide +kernel|exact Z);(first|exact Zag rfl|with_reducible assumption|decide +kernel|rotate_left)))
  refine Lands.mk' (m:=f-1) (by omega) ⟨i+1,by omega,rfl,rfl,rfl⟩ ?_ rfl rfl rfl rfl rfl rfl
  exact .cons rfl (.cons rfl (.cons rfl (.cons rfl (.cons rfl (.cons rfl (.cons rfl (.cons rfl (.cons rfl .nil))))))))
 ·have hdl:decide ((i:Int)<((Zan ol).length:Int))=false:=decide_eq_false (by omega)
  generalize Zan ol=L at *
  repeat'(first|(apply Zaa (hA);kernel_rfl;(iterate 4 exact Z))|(apply Zaa (hZ);kernel_rfl;(iterate 4 exact Z))|(apply Zaa (hM);kernel_rfl;(iterate 4 exact Z))|(apply Zaj Zab;exact Z)|(apply Zah Zab;exact Z)|(apply Zay Zab;exact Z)|(apply Zaf;(iterate 3 exact Z);(first|with_reducible assumption|decide +kernel|(solve|simp only[bn])))|(apply Zam;exact Z;(first|with_reducible assumption|decide +kernel|(solve|simp only[bn]));exact Z;exact Z)|(apply Zae;exact Z;(first|with_reducible assumption|decide +kernel|(solve|simp only[bn])))|(apply Zak Zab;(iterate 4 exact Z))|(apply Zap 15 ZaY;decide +kernel;kernel_rfl;kernel_rfl;kernel_rfl;exact Z;exact Z)|(apply Zas;(iterate 4 exact Z))|exact AE.nil _ _ _ _|(apply Zau;exact Z)|(apply ZaA;exact Z;exact Z;decide +kernel;exact Z)|(apply ZaB;exact Z)|exact AO.nil _ _ _|(apply Zar;(decide +kernel))|exact AOs.nil|exact ZaN rfl rfl)
  all_goals(apply Zaz [];(apply Zad Zab;exact Z);(iterate 4 exact Z))
  all_goals first|rfl|rw[y2]
theorem ZeD [Known][KnownU8](x:It)(a:Int)(hx:nI x):AP Tryd.prog 3 [itD x,.int .i64 a] (.bool true) []:=by
 have hA:=Zjv
 have hG:=Zkc x 1 300 (by omega) (by omega) (by omega)
 have hall:=fun h=>Zjq (x:=x) h hx
 generalize Za5 x 1 300=g at *
 cases t0:decide (g<0) with
 | true=>
  obtain⟨k,n,b,l⟩:=x
  exact Zno k n b l a g hA hG t0
 | false=>
 have hg0:0<=g:=by have:=of_decide_eq_false t0;omega
 obtain⟨hw,hxl,hsz,hb,hlim,hdeep⟩:=hall hg0
 have hws:wfs x.l:=by obtain⟨k,n,b,l⟩:=x;exact hw.2.2.2
 have hdl:ZbA x.l 10=true:=by obtain⟨k,n,b,l⟩:=x;rw[Zbp]at hdeep;exact hdeep
 have hlim2:∀ s,s<=2->(ZaX (ZaK s x.l)).length<=1000000000:=fun s hs=>by
  have:=hlim s x.l.length hs
  rwa [List.take_length]at this
 have hS:=Zjd x.l a hws hxl (fun s hs=>hlim2 s (by omega))
 have hI:=Zjo x.l hws hxl hdl
 have hD:=Zjp x.l a hws hxl hsz hlim2
 have hO:=Zje x a hw hxl (fun s m hs=>hlim s m (by omega))
 have hX:=Zkd x hw 10 hdeep (by omega)
 have hP:=Zjf x a hw hxl hsz hlim
 rw[<- Zlx]at hP
 have hws2:=Zjn a hws hxl
 have hZ:=Zkd (Zdf x.l a).1 hws2 10 (Zh6 hdl a) (by omega)
 have hM:=Zb2 (Zdf x.l a).1 hws2 (Zdf x.l a).1 hws2
 rw[It.beq_iff.2 rfl]at hM
 have hsub:=ZhB x a
 have hY:∀ y ∈ (ZdO x a).1,AP Tryd.prog 13 [itD y,.int .i64 9] (itD y) []/\AP Tryd.prog 14 [itD y,itD y] (.bool true) []:=fun y hy=>by
  have hm:=hsub y hy
  have hwy:=ZaM hws y hm
  have h2:=Zb2 y hwy y hwy
  rw[It.beq_iff.2 rfl]at h2
  exact⟨Zkd y hwy 9 (Zca hdl y hm) (by omega),h2⟩
 have hol:=Zku x a
 generalize Zdf x.l a=r at *
 generalize ZdO x a=o at *
 clear hall hlim hlim2 hsub
 obtain⟨k,n,b,l⟩:=x
 obtain⟨⟨sk,sn,sb,sl⟩,e⟩:=r
 obtain⟨ol,h⟩:=o
 dsimp only[It.l]at *
 exact Znp k n b l a g ol e h sk sn sb sl hA hG t0 hS hI hD hO hX hP hY hZ hM (by simp) (by simp) (by omega)
end Go.Proofs.YtakblclkflnnpaaDoor
end
section
open Go.RowKit Go.Pl Go.Av
namespace Go.Proofs.YtakblclkflnnpaaDoor
def Znq {α β:Type}(R:Rep α)(f:β->α):Rep β where
 n:=R.n
 ok:=fun w S cs x=>R.ok w S cs (f x)
 len:=R.len
 one:=R.one
 frame:=R.frame
 mono:=R.mono
 lt:=R.lt
def Zm6:Rep It where
 n:=4
 ok:=fun _ _ _ _=>False
 len:=fun h=>h.elim
 one:=fun h=>h.elim
 frame:=fun _ h=>h
 mono:=fun _ h=>h
 lt:=fun h=>h
def RI:Nat -> {R:Rep It // R.n=4}
 | 0=>⟨Zm6,rfl⟩
 | m+1=>⟨Znq (Rep.i64.prod (Rep.u64.prod ((Rep.slice Rep.byte (by decide)).prod (Rep.slice (RI m).1 (by rw[(RI m).2];decide))))) fun x=>(x.k,x.n,x.b,x.l),rfl⟩
theorem ZhE:∀ m:Nat,ToE (RI m).1 itE
 | 0=>⟨fun _ _ _ _ _ _ h=>h.elim⟩
 | m+1=>⟨fun w S C cs x hC h=>by
  have h0:=((ToE.i64.prod (ToE.u64.prod ((ToE.byte.slice (by decide)).prod ((ZhE m).slice (by rw[(RI m).2];decide))))).cells w S C cs (x.k,x.n,x.b,x.l) hC h)
  obtain⟨k,n,b,l⟩:=x
  have e:(itE (.mk k n b l)).cells=[.int .i64 k,.int .u64 (n:Int),.sl (b.map E.byte),.sl (l.map itE)]:=by rw[<- Zax];rfl
  rw[e]
  exact h0⟩
theorem Zjw {α:Type}{R:Rep α}{w:World}{S:Nat->Prop}:∀ {l:List α} {cs:List Value},Run R w S cs l->∀ x ∈ l,∃ cs',R.ok w S cs' x
 | [],_,_,x,hx=>nomatch hx
 | y::l,cs,h,x,hx=>by
  obtain⟨c1,c2,_,h1,h2⟩:=h
  rcases List.mem_cons.1 hx with rfl|hx
  ·exact⟨c1,h1⟩
  ·exact Zjw h2 x hx
theorem ZkK:∀ {l:List It},(∀ x ∈ l,nI x)->nIs l
 | [],_=>trivial
 | x::l,h=>⟨h x (List.mem_cons_self ..),ZkK fun y hy=>h y (List.mem_cons_of_mem _ hy)⟩
theorem Zjx:∀(m:Nat) {w:World} {S:Nat->Prop} {cs:List Value} {x:It},(RI m).1.ok w S cs x->nI x
 | 0,_,_,_,_,h=>h.elim
 | m+1,w,S,cs,x,h=>by
  obtain⟨k,n,b,l⟩:=x
  obtain⟨_,_,_,_,_,_,_,⟨_,hn⟩,_,_,_,_,v,_,A,cap,_,_,_,cs',hr,_⟩:=h
  exact⟨hn,ZkK fun y hy=>let⟨c,hc⟩:=Zjw hr y hy;Zjx m hc⟩
variable {P:Program} {t:TypeId}
theorem Zgn {α:Type}{R:Rep α}{e:TypeId}(hR:0<R.n)(ht:P.underlying t=some (.slice e))(hc:P.cellsOf e=R.n){H:Type}{enc:TypeId × Value->H}{W:World}{spare:Nat->Bool}{held:Bool}{fuel:Nat}{cs:List Value}{y:DataW H × List MemPlace}
  (he:∀(f:Nat) (cs:List Value) (y:DataW H × List MemPlace),f<fuel->DataW.trod enc P W 0 spare held f e cs=some y->∃ x,R.ok W (· < W.heap.size) cs x) (h:DataW.trod enc P W 0 spare held fuel t cs=some y):∃ x,(Rep.slice R hR).ok W (· < W.heap.size) cs x:=by
 rcases DataW.trod_slice ht h with⟨rfl,_⟩ | ⟨a,len,cap,elems,rest,n,hn,rfl,_,_,hl,hm,hlen,hi,_,_⟩
 ·exact⟨[],_,rfl,Sl.nil _ _ _⟩
 ·rw[hc]at hi
  have key:∀ k,k<=len->∃(l:List α) (cs:List Value),l.length=k/\Run R W (· < W.heap.size) cs l/\∀ j,j<cs.length->W.cell? (a.add j)=cs[j]? := by
   intro k
   induction k with
   | zero=>intro _;exact⟨[],[],rfl,rfl,fun j hj=>by simp at hj⟩
   | succ k ih=>
    intro hk
    obtain⟨l,cs,hll,hr,hcc⟩:=ih (by omega)
    have hik:=hi k (by omega)
    rw[List.getElem?_eq_getElem (by omega)]at hik
    obtain⟨cs',hcs',ht'⟩:=Option.bind_eq_some_iff.1 hik
    obtain⟨x,hx⟩:=he n cs' _ (by omega) ht'
    obtain⟨_,hcl,hat⟩:=World.cells?_some hcs'
    refine⟨l++[x],cs++cs',by simp[hll],hr.append (Run.single hx),fun j hj=>?_⟩
    have hlen:=hr.length
    rw[hll]at hlen
    rcases Nat.lt_or_ge j cs.length with h1|h1
    ·rw[List.getElem?_append_left h1];exact hcc j h1
    ·rw[List.getElem?_append_right h1]
     have h2:j-cs.length<R.n:=by rw[List.length_append,hcl]at hj;omega
     have:=hat (j-cs.length) h2
     rw[Go.Deep.add_add]at this
     rw[<- this]
     congr 2
     omega
  obtain⟨l,cs,hll,hr,hcc⟩:=key len (Nat.le_refl _)
  subst hll
  refine⟨l,_,rfl,some a,cap,rfl,hl,hm,cs,hr,fun hne=>?_⟩
  have hlen:=hr.length
  have hpos:0<cs.length:=by rw[hlen];exact Nat.mul_pos (List.length_pos_iff.2 hne) hR
  obtain⟨b,off,spot⟩:=a
  have h0:=(hcc 0 hpos).trans (List.getElem?_eq_getElem hpos)
  have hspot:spot=none:=by simpa[Addr.add]using World.cell?_spot h0
  subst hspot
  refine⟨b,off,rfl,World.block_lt_of_cell? W _ (by simpa[Addr.add]using h0),fun j hj=>?_⟩
  rw[<- hcc j hj]
  congr 1
  unfold Addr.add;split<;>simp_all
theorem Zh7 {fs:Array Field}{f0 f1 f2 f3:Field}(hs:P.underlying t=some (.struct fs))(hfs:fs = #[f0,f1,f2,f3])(hc:P.cellsOf t=4)
  (h00:f0.offset=0) (h01:f1.offset=1) (h02:f2.offset=2) (h03:f3.offset=3) (hc0:P.cellsOf f0.type=1) (hc1:P.cellsOf f1.type=1) (hc2:P.cellsOf f2.type=1) (hc3:P.cellsOf f3.type=1)
  (h0:Zfz P f0.type Rep.i64) (h1:Zfz P f1.type Rep.u64) (h2:Zfz P f2.type (Rep.slice Rep.byte (by decide))) (h3:P.underlying f3.type=some (.slice t))
  {H:Type} {enc:TypeId × Value->H} {W:World} {spare:Nat->Bool} {held:Bool}:∀(fuel:Nat) (cs:List Value) (y:DataW H × List MemPlace),DataW.trod enc P W 0 spare held fuel t cs=some y->∀ j,fuel<=j->∃ x,(RI j).1.ok W (· < W.heap.size) cs x:=by
 intro fuel
 induction fuel using Nat.strongRecOn with
 | _ fuel ih=>
  intro cs y h j hj
  obtain⟨xs,n,hn,_,hl,hxl,hg⟩:=DataW.trod_struct hs h
  subst hfs
  obtain⟨j,rfl⟩:∃ i,j=i+1:=⟨j-1,by omega⟩
  have e0:=hg 0 f0 rfl
  have e1:=hg 1 f1 rfl
  have e2:=hg 2 f2 rfl
  have e3:=hg 3 f3 rfl
  rw[hc]at hl
  match cs,hl with
  | [v0,v1,v2,v3],_=>
  rw[h00,hc0]at e0
  rw[h01,hc1]at e1
  rw[h02,hc2]at e2
  rw[h03,hc3]at e3
  have hn4:xs.length=4:=hxl
  obtain⟨k,hk⟩:=h0 H enc W spare held n _ _ (e0.trans (List.getElem?_eq_getElem (by omega)))
  obtain⟨m,hm⟩:=h1 H enc W spare held n _ _ (e1.trans (List.getElem?_eq_getElem (by omega)))
  obtain⟨b,hb⟩:=h2 H enc W spare held n _ _ (e2.trans (List.getElem?_eq_getElem (by omega)))
  obtain⟨l,hll⟩:=Zgn (R:=(RI j).1) (by rw[(RI j).2];decide) h3 (by rw[hc,(RI j).2]) (fun f cs y hf hy=>ih f (by omega) cs y hy j (by omega)) (e3.trans (List.getElem?_eq_getElem (by omega)))
  exact⟨.mk k m b l,[v0],[v1,v2,v3],rfl,hk,[v1],[v2,v3],rfl,hm,[v2],[v3],rfl,hb,hll⟩
end Go.Proofs.YtakblclkflnnpaaDoor
end
section
open Go.RowKit Go.Pl Go.Av
namespace Go.Proofs.YtakblclkflnnpaaDoor
set_option maxHeartbeats 4000000
theorem Zmo {W:World}{cs:List Value}{x:It}{m:Nat}(h:(RI m).1.ok W (· < W.heap.size) cs x):V W (g0 W) [] (itD x) (.agg cs.toArray):=by
 obtain⟨k,n,b,l⟩:=x
 have h1:=ToE.agg (ZhE m) (l:=[.int .i64 k,.int .u64 (n:Int),.sl (b.map E.byte),.sl (Zan l)]) (hf:=rfl) h
 exact h1
end Go.Proofs.YtakblclkflnnpaaDoor
end
section
open Go.RowKit Go.Pl Go.Av Go.Lib
namespace Go.Proofs.YtakblclkflnnpaaDoor
theorem ZeE (k:IntKind):∀ zs:List Int,Zh9 (zs.map fun z=>.lit (.int k z))=zs.map fun z=>Value.int k z
 | []=>rfl
 | z::zs=>by rw[List.map_cons,List.map_cons,Zh9,ZeE k zs];rfl
theorem ZhF {P:Program}{W:World}{n:String}{g:Nat}{t:TypeId}{d:DataW Unit}(hg:P.globalNamed n=some g)(ht:(P.globals[g]?).map (·.type)=some t)(h:VarReads P W n d)
  (key:∀(fuel:Nat) (cs:List Value) (p:List MemPlace),DataW.trod (fun _=>()) P W 0 (fun _=>true) false fuel t cs=some (d,p)->∀(j:Nat) (v:Value),(dcs d)[j]?=some v->cs[j]?=some v) :
  ∀(j:Nat) (v:Value),(dcs d)[j]?=some v->(g0 W).C g j/\W.cell? ⟨g,j,none⟩=some v:=by
 obtain⟨g',t',cs,fuel,p,h1,h2,h3,h4⟩:=h
 obtain rfl:=Option.some.inj (hg.symm.trans h1)
 obtain rfl:=Option.some.inj (ht.symm.trans h2)
 intro j v hv
 have hc:=key fuel cs.toList p h4 j v hv
 have hcell:W.cell? ⟨g,j,none⟩=some v:=by
  rw[World.var?_cell hg h3 j,<- Array.getElem?_toList];exact hc
 exact⟨World.block_lt_of_cell? W _ hcell,hcell⟩
theorem ZlH {P:Program}{W:World}{t e:TypeId}{n:Nat}{k:IntKind}{d:DataW Unit}(zs:List Int)(hd:d=tabData k zs)(ht:P.underlying t=some (.array n e))(he:P.underlying e=some (.int k))(hce:P.cellsOf e=1)(hct:P.cellsOf t=n) :
  ∀(fuel:Nat) (cs:List Value) (p:List MemPlace),DataW.trod (fun _=>()) P W 0 (fun _=>true) false fuel t cs=some (d,p)->∀(j:Nat) (v:Value),(dcs d)[j]?=some v->cs[j]?=some v:=by
 subst hd
 intro fuel cs p h j v hv
 rw[cells_of_tab ht he hce hct h]
 rw[tabData,dcs,ZeE]at hv
 exact hv
theorem ZlI {P:Program}{W:World}{t e:TypeId}{n:Nat}{k:IntKind}{d:DataW Unit}{fs:Array Field}(rows:List (List Int))(hd:d=.agg (rows.map fun r=>.agg (r.map fun z=>.lit (.int k z))))(hn:rows.length=n)(ht:P.underlying t=some (.array n e))(he:P.underlying e=some (.struct fs))
  (hf:∀(i:Nat) (f:Field),fs[i]?=some f->P.underlying f.type=some (.int k)/\f.offset=i/\P.cellsOf f.type=1) (hce:P.cellsOf e=fs.size) :
  ∀(fuel:Nat) (cs:List Value) (p:List MemPlace),DataW.trod (fun _=>()) P W 0 (fun _=>true) false fuel t cs=some (d,p)->∀(j:Nat) (v:Value),(dcs d)[j]?=some v->cs[j]?=some v:=by
 subst hd
 intro fuel cs p h j v hv
 have key:∀ i,i<=n->cs.take (i*fs.size)=Zh9 ((rows.take i).map fun r=>.agg (r.map fun z=>.lit (.int k z))):=by
  intro i
  induction i with
  | zero=>intro _;rw[Nat.zero_mul,List.take_zero,List.take_zero];rfl
  | succ i ih=>
   intro hi
   obtain⟨fuel',d',q,hdi,he'⟩:=array_elem ht h i (by omega)
   rw[List.getElem?_map,List.getElem?_eq_getElem (by omega:i<rows.length)]at hdi
   simp only[Option.map_some,Option.some.injEq]at hdi
   subst hdi
   rw[hce]at he'
   have hcs:=ints_of_struct he hf hce he'
   rw[Nat.succ_mul,List.take_add,ih (by omega),hcs,List.take_succ_eq_append_getElem (by omega:i<rows.length),List.map_append]
   have app:∀(a b:List (DataW Unit)),Zh9 (a++b)=Zh9 a++Zh9 b:=fun a b=>by
    induction a with
    | nil=>rfl
    | cons x a ih=>rw[List.cons_append,Zh9,Zh9,ih,List.append_assoc]
   rw[app,List.map_cons,List.map_nil,Zh9,dcs,ZeE]
   simp[Zh9]
 have h2:=key n (Nat.le_refl _)
 rw[<- hn,List.take_length]at h2
 rw[dcs,<- h2]at hv
 rw[List.getElem?_take]at hv
 split at hv
 ·exact hv
 ·cases hv
abbrev ZdF:Known:=⟨[0,1]⟩
theorem Zh8 : @KnownU8 ZdF:=@KnownU8.mk ZdF (List.mem_cons_self ..) (List.mem_cons_of_mem _ (List.mem_cons_self ..))
def Zmp:List Int:=Pinned.utf8FirstZ.map Int.ofNat
def ZlJ:List (List Int):=[[128,191],[160,191],[128,159],[144,191],[128,143],[0,0],[0,0],[0,0],[0,0],[0,0],[0,0],[0,0],[0,0],[0,0],[0,0],[0,0]]
theorem Zmq {W:World}{laid:List (String × DataW Unit)}(h1:("unicode/utf8.first",Rows.laid_unicode_utf8_first) ∈ laid)(h2:("unicode/utf8.acceptRanges",Rows.laid_unicode_utf8_acceptRanges) ∈ laid)(h:laidMet Tryd.prog laid W) : @Gls ZdF (g0 W).C W:=by
 have r1:=laidMet.reads h h1
 have r2:=laidMet.reads h h2
 have c1:=ZhF (P:=Tryd.prog) (g:=0) (t:=175) (by kernel_rfl) (by kernel_rfl) r1 (ZlH Zmp (by kernel_rfl) (n:=256) (by kernel_rfl) Tryd.underlying5 (by kernel_rfl) (by kernel_rfl))
 have c2:=ZhF (P:=Tryd.prog) (g:=1) (t:=178) (by kernel_rfl) (by kernel_rfl) r2 (ZlI ZlJ (by kernel_rfl) (n:=16) rfl Tryd.underlying178 Tryd.underlying177 (fun i f hf=>by
  match i,hf with
  | 0,hf=>simp at hf;subst hf;exact⟨Tryd.underlying5,rfl,by kernel_rfl⟩
  | 1,hf=>simp at hf;subst hf;exact⟨Tryd.underlying5,rfl,by kernel_rfl⟩
  | i+2,hf=>simp at hf) (by kernel_rfl))
 refine⟨fun k cs hk=>?_,fun k t hk=>?_⟩
 ·obtain⟨hk,hm⟩:=hk
  simp only[Zkv,List.mem_cons,List.not_mem_nil,or_false,Prod.mk.injEq]at hm
  have hk:k ∈ [0,1]:=hk
  simp only[List.mem_cons,List.not_mem_nil,or_false]at hk
  clear r1 r2 h1 h2 h
  rcases hk with rfl|rfl
  all_goals repeat'(refine Or.elim hm (fun hm=>?_) (fun hm=>?_))
  all_goals first
   | (obtain⟨h,rfl⟩:=hm;exact c1)
   | (obtain⟨h,rfl⟩:=hm;exact c2)
   | (obtain⟨h,_⟩:=hm;exact absurd h (by decide))
 ·obtain⟨hk,hm⟩:=hk
  have hk:k ∈ [0,1]:=hk
  simp only[List.mem_cons,List.not_mem_nil,or_false]at hk
  simp only[Zm7,List.mem_cons,List.not_mem_nil,or_false,Prod.mk.injEq]at hm
  all_goals omega
end Go.Proofs.YtakblclkflnnpaaDoor
end
section
open Go.RowKit Go.Pl Go.Av
namespace Go.Proofs.YtakblclkflnnpaaDoor
theorem ZdG (c0:List Value)(i1:Int)(x0:It)(W:World)(h0:∃ m,(RI m).1.ok W (· < W.heap.size) c0 x0)(h1 : -9223372036854775808<=i1/\i1<=9223372036854775807)(hl:laidMet Tryd.prog Rows.primarySealsRow.laid W) :
  Calls Tryd.prog 3 #[.agg ⟨c0⟩,.int .i64 i1] W fun e w'=>e=.returned (.bool true)/\Below W.heap.size W w':=by
 have hg:=Zmq (laid:=Rows.primarySealsRow.laid) (by unfold Rows.primarySealsRow;repeat (first|exact List.mem_cons_self .. | apply List.mem_cons_of_mem)) (by unfold Rows.primarySealsRow;repeat (first|exact List.mem_cons_self .. | apply List.mem_cons_of_mem)) hl
 have h:=@ZeD ZdF Zh8 x0 i1 (Zjx _ h0.choose_spec)
 refine @Znf ZdF Tryd.prog 3 _ (@AC.mono ZdF _ _ _ _ _ _ _ h fun r b t h=>h.1) W [.agg ⟨c0⟩,.int .i64 i1] hg rfl ?_
 intro j d v hd hv
 match j,hd,hv with
 | 0,hd,hv=>cases hd;cases hv;exact Zmo h0.choose_spec
 | 1,hd,hv=>cases hd;cases hv;exact .int _ _
 | j+2,hd,hv=>cases hd
end Go.Proofs.YtakblclkflnnpaaDoor
end
