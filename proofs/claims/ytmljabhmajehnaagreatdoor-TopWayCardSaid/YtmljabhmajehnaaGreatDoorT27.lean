/- Package canon: a first block, written. -/
import Derived.Test.YtmljabhmajehnaaGreatDoorT26
import Derived.Test.YtmljabhmajehnaaGreatDoorT22
import Derived.Test.YtmljabhmajehnaaGreatDoorT21
import Derived.Test.YtmljabhmajehnaaGreatDoorT12
set_option linter.unusedVariables false
set_option linter.unusedSimpArgs false
section
open Go.RowKit Go.Pl Go.Av
namespace Go.Proofs.YtmljabhmajehnaaGreatDoor
set_option maxHeartbeats 4000000
def WL (p:PriV):List It:=[.mk 0 7 [] [],.mk 0 p.fl [] [],.mk 0 p.sum.toNat [] [],Z8 p.dest,Z8 p.src,Z8 p.rep,.mk 4 0 [] [.mk 0 p.t [] [],.mk 0 p.q [] []],.mk 0 p.life [] []]
def Ym (p:PriV):It × Int:=match WK p with
 | true=>W8 (WL p) 2
 | false=>(z0,3)
theorem VA {p:PriV}(h:WK p=true):0<=p.sum/\p.sum<=2/\ZJ p.dest=true/\ZJ p.rep=true/\Wr p.src p.t p.q=true/\p.life<=1099511627776:=by
 unfold WK at h
 simp only[Bool.and_eq_true,decide_eq_true_eq]at h
 obtain⟨_,h1,h2,h3,h4,h5,h6⟩:=h
 exact⟨h1,h2,h3,h4,h5,by omega⟩
theorem MQ {p:PriV}(h:WK p=true)(hfl:p.fl<18446744073709551616):wfs (WL p):=by
 obtain⟨h1,h2,h3,h4,h5,h6⟩:=VA h
 obtain⟨i1,i2,i3⟩:=Ws.1 h5
 refine⟨?_,?_,?_,Vx h3,Vx i1,Vx h4,?_,?_,trivial⟩
 all_goals first|(simp[wfI,wfs];done)|(simp[wfI,wfs];omega)
theorem HC [Known][KnownU8](p:PriV)(hfl:p.fl<18446744073709551616)(hlim:∀ s,s=1\/s=2->(ZH (Z0 s (WL p))).length<=1000000000):AP Tryz.prog 107 [.agg (prC p)] (QY (Ym p)) []:=by
 have hR:=Kx p
 unfold Ym
 cases hr:WK p with
 | false=>
  rw[hr]at hR
  obtain⟨fl,sum,⟨di,dn,ds,dh,dd⟩,⟨ri,rn,rs,rh,rd⟩,⟨xi,xn,xs,xh,xd⟩,t,q,life⟩:=p
  dsimp only[z0]at *
  refine AP.ofA (Zk Tryz.func107 Z Tryz.ntmps107 Z Z ?_)
  repeat'(first|(apply Zb (hR);kernel_rfl;(iterate 4 exact Z))|(apply Zh Za;exact Z)|(apply Ze Za;exact Z)|(apply Zq Za;exact Z)|refine Zd Z Qt ?_)
  all_goals exact Qe
 | true=>
  rw[hr]at hR
  obtain⟨h1,h2,h3,h4,h5,h6⟩:=VA hr
  have hS:=GD (WL p) 2 (MQ hr hfl) (by simp[WL]) hlim
  have hD:=U1 p.dest
  have hP:=U1 p.rep
  have hI:=Ky p.src p.t p.q
  rw[if_pos h3,if_pos h3]at hD
  rw[if_pos h4,if_pos h4]at hP
  rw[if_pos h5,if_pos h5]at hI
  have hN:=YI 7
  have hF:=YI p.fl
  have hM:=YI p.sum.toNat
  have hL:=YI p.life
  dsimp only
  generalize W8 (WL p) 2=r at *
  unfold WL at hS
  unfold Q1 at hI
  obtain⟨fl,sum,⟨di,dn,ds,dh,dd⟩,⟨ri,rn,rs,rh,rd⟩,⟨xi,xn,xs,xh,xd⟩,t,q,life⟩:=p
  dsimp only at *
  generalize Z8 ⟨di,dn,ds,dh,dd⟩=I1 at *
  generalize Z8 ⟨ri,rn,rs,rh,rd⟩=I2 at *
  generalize Z8 ⟨xi,xn,xs,xh,xd⟩=I3 at *
  obtain⟨ak,an,ab,al⟩:=I1
  obtain⟨bk,bn,bb,bl⟩:=I2
  obtain⟨ck,cn,cb,cl⟩:=I3
  obtain⟨⟨k,n,b,l⟩,e⟩:=r
  have es:IntKind.u64.wrap sum=((sum.toNat:Nat):Int):=by rw[IntWalk.u64_in _ (by omega)];omega
  have hU:=YW [It.mk ck cn cb cl,.mk 4 0 [] [.mk 0 t [] [],.mk 0 q [] []]]
  have hv0:(Zt [It.mk ck cn cb cl,.mk 4 0 [] [.mk 0 t [] [],.mk 0 q [] []]])[(0:Int).toNat]?=some (.agg [.int .i64 ck,.int .u64 (cn:Int),.sl (cb.map E.byte),.sl (Zt cl)]):=rfl
  have hv1:(Zt [It.mk ck cn cb cl,.mk 4 0 [] [.mk 0 t [] [],.mk 0 q [] []]])[(1:Int).toNat]?=some (.agg [.int .i64 4,.int .u64 0,.sl [],.sl [nmE t,nmE q]]):=rfl
  generalize hLe:Zt [It.mk ck cn cb cl,.mk 4 0 [] [.mk 0 t [] [],.mk 0 q [] []]]=LL at *
  replace hI:AP Tryz.prog 62 [.agg (iC ⟨xi,xn,xs,xh,xd⟩ t q)] (.tup [.agg [.int .i64 4,.int .u64 0,.sl .ext [],.sl .ext LL],.int .i64 0]) []:=by rw[<- hLe];exact hI
  replace hS:AP Tryz.prog 138 [.sl .ext [nmE 7,nmE fl,nmE sum.toNat,.agg [.int .i64 ak,.int .u64 (an:Int),.sl (ab.map E.byte),.sl (Zt al)],.agg [.int .i64 ck,.int .u64 (cn:Int),.sl (cb.map E.byte),.sl (Zt cl)],.agg [.int .i64 bk,.int .u64 (bn:Int),.sl (bb.map E.byte),.sl (Zt bl)],.agg [.int .i64 4,.int .u64 0,.sl [],.sl [nmE t,nmE q]],nmE life],.int .i64 2] (QY (.mk k n b l,e)) []:=hS
  refine AP.ofA (Zk Tryz.func107 Z Tryz.ntmps107 Z Z ?_)
  repeat'(first|(apply Zb (hR);kernel_rfl;(iterate 4 exact Z))|rw[es]|(apply Zb (hD);kernel_rfl;(iterate 4 exact Z))|(apply Zb (hP);kernel_rfl;(iterate 4 exact Z))|(apply Zb (hI);kernel_rfl;(iterate 4 exact Z))|(apply Zb (hN);kernel_rfl;(iterate 4 exact Z))|(apply Zb (hF);kernel_rfl;(iterate 4 exact Z))|(apply Zb (hM);kernel_rfl;(iterate 4 exact Z))|(apply Zb (hL);kernel_rfl;(iterate 4 exact Z))|(apply Zb (hS);kernel_rfl;(iterate 4 exact Z))|(apply Zh Za;exact Z)|(apply Ze Za;exact Z)|(apply Zq Za;exact Z)|refine Zf Z Qt ?_|refine ZT Za Z Z Z Z Z Z Z Z Z Z Z Z ?_|(apply Zn 21 ZF;decide +kernel;kernel_rfl;kernel_rfl;kernel_rfl;exact Z;exact Z)|(apply Zs;(iterate 4 exact Z))|exact AE.nil _ _ _ _|(apply Zx;exact Z)|(apply ZA;exact Z;exact Z;decide +kernel;exact Z)|(apply ZB;exact Z)|exact AO.nil _ _ _|(apply Zr;(decide +kernel))|exact AOs.nil|exact ZM rfl rfl|(apply Zu Za;(iterate 6 exact Z);(first|exact Qt|rotate_left);(first|with_reducible assumption|decide +kernel|exact Z);(first|exact Zj rfl|with_reducible assumption|decide +kernel|rotate_left)))
  all_goals exact Qe
theorem RJ [Known][KnownU8](k:Int)(n:Nat)(b:List UInt8)(xl:List E)(L:List E)(e:Int)
  (hO:AP Tryz.prog 111 [.agg [.int .i64 k,.int .u64 (n:Int),byE b,.sl .ext xl],.int .i64 2] (.tup [.sl .ext L,.int .i64 e]) []) (t1:(e != 0)=true) :
  AP Tryz.prog 59 [.agg [.int .i64 k,.int .u64 (n:Int),byE b,.sl .ext xl]] (.tup [.agg [.int .u64 0,.int .i64 0,.bool false,.int .u64 0,.int .u64 0,.str [],.str [],.bool false,.int .u64 0,.int .u64 0,.str [],.str [],.bool false,.int .u64 0,.int .u64 0,.str [],.str [],.int .u64 0,.int .u64 0,.int .u64 0],.int .i64 e]) []:=by
 refine AP.ofA (Zk Tryz.func59 Z Tryz.ntmps59 Z Z ?_)
 repeat'(first|(apply Zb (hO);kernel_rfl;(iterate 4 exact Z))|(apply Zh Za;exact Z)|(apply Ze Za;exact Z)|(apply Zq Za;exact Z)|refine Zd Z Qt ?_)
 all_goals exact Qe
theorem RK [Known][KnownU8](k:Int)(n:Nat)(b:List UInt8)(xl:List E)(L:List E)(e:Int)
  (hO:AP Tryz.prog 111 [.agg [.int .i64 k,.int .u64 (n:Int),byE b,.sl .ext xl],.int .i64 2] (.tup [.sl .ext L,.int .i64 e]) []) (t1:(e != 0)=false) (t2:((L.length:Int) != 8)=true) :
  AP Tryz.prog 59 [.agg [.int .i64 k,.int .u64 (n:Int),byE b,.sl .ext xl]] (.tup [.agg [.int .u64 0,.int .i64 0,.bool false,.int .u64 0,.int .u64 0,.str [],.str [],.bool false,.int .u64 0,.int .u64 0,.str [],.str [],.bool false,.int .u64 0,.int .u64 0,.str [],.str [],.int .u64 0,.int .u64 0,.int .u64 0],.int .i64 3]) []:=by
 refine AP.ofA (Zk Tryz.func59 Z Tryz.ntmps59 Z Z ?_)
 repeat'(first|(apply Zb (hO);kernel_rfl;(iterate 4 exact Z))|(apply Zh Za;exact Z)|(apply Ze Za;exact Z)|(apply Zq Za;exact Z)|refine Zd Z Qt ?_|refine Zf Z Qt ?_|refine Zm Za Z Z Z Z ?_)
 all_goals exact Qe
theorem Jn [Known][KnownU8](k:Int)(n:Nat)(b:List UInt8)(xl:List E)(L:List E)(e:Int)(k0:Int)(n0:Nat)(b0:List UInt8)(l0:List It)(k1:Int)(n1:Nat)(b1:List UInt8)(l1:List It)(k2:Int)(n2:Nat)(b2:List UInt8)(l2:List It)(k3:Int)(n3:Nat)(b3:List UInt8)(l3:List It)(k4:Int)(n4:Nat)(b4:List UInt8)(l4:List It)(k5:Int)(n5:Nat)(b5:List UInt8)(l5:List It)(k6:Int)(n6:Nat)(b6:List UInt8)(l6:List It)(k7:Int)(n7:Nat)(b7:List UInt8)(l7:List It)(di:Bool)(dn ds:Nat)(dh dd:List UInt8)(ri:Bool)(rn rs:Nat)(rh rd:List UInt8)(ui:Bool)(un us:Nat)(uh ud:List UInt8)(ut uq:Nat)(de re ie we:Int)(wk:Int)(wn:Nat)(wb:List UInt8)(wl:List E)(s:Bool)(hO:AP Tryz.prog 111 [.agg [.int .i64 k,.int .u64 (n:Int),byE b,.sl .ext xl],.int .i64 2] (.tup [.sl .ext L,.int .i64 e]) [])(t1:(e != 0)=false)(t2:((L.length:Int) != 8)=false)(hU:Uni 4 L)(hv1:L[(1:Int).toNat]?=some (.agg [.int .i64 k1,.int .u64 (n1:Int),.sl (b1.map E.byte),.sl (Zt l1)]))(hv2:L[(2:Int).toNat]?=some (.agg [.int .i64 k2,.int .u64 (n2:Int),.sl (b2.map E.byte),.sl (Zt l2)]))(hv3:L[(3:Int).toNat]?=some (.agg [.int .i64 k3,.int .u64 (n3:Int),.sl (b3.map E.byte),.sl (Zt l3)]))(hv4:L[(4:Int).toNat]?=some (.agg [.int .i64 k4,.int .u64 (n4:Int),.sl (b4.map E.byte),.sl (Zt l4)]))(hv5:L[(5:Int).toNat]?=some (.agg [.int .i64 k5,.int .u64 (n5:Int),.sl (b5.map E.byte),.sl (Zt l5)]))(hv6:L[(6:Int).toNat]?=some (.agg [.int .i64 k6,.int .u64 (n6:Int),.sl (b6.map E.byte),.sl (Zt l6)]))(hv7:L[(7:Int).toNat]?=some (.agg [.int .i64 k7,.int .u64 (n7:Int),.sl (b7.map E.byte),.sl (Zt l7)]))(hD:AP Tryz.prog 112 [.agg [.int .i64 k3,.int .u64 (n3:Int),.sl .ext (b3.map E.byte),.sl .ext (Zt l3)]] (.tup [.agg [.bool di,.int .u64 (dn:Int),.int .u64 (ds:Int),.str dh,.str dd],.int .i64 de]) [])(hR:AP Tryz.prog 112 [.agg [.int .i64 k5,.int .u64 (n5:Int),.sl .ext (b5.map E.byte),.sl .ext (Zt l5)]] (.tup [.agg [.bool ri,.int .u64 (rn:Int),.int .u64 (rs:Int),.str rh,.str rd],.int .i64 re]) [])(hL:AP Tryz.prog 64 [.sl .ext [.agg [.int .i64 k4,.int .u64 (n4:Int),.sl (b4.map E.byte),.sl (Zt l4)],.agg [.int .i64 k6,.int .u64 (n6:Int),.sl (b6.map E.byte),.sl (Zt l6)]]] (.agg [.int .i64 4,.int .u64 0,.sl .ext [],.sl .ext [.agg [.int .i64 k4,.int .u64 (n4:Int),.sl (b4.map E.byte),.sl (Zt l4)],.agg [.int .i64 k6,.int .u64 (n6:Int),.sl (b6.map E.byte),.sl (Zt l6)]]]) [])(hI:AP Tryz.prog 67 [.agg [.int .i64 4,.int .u64 0,.sl .ext [],.sl .ext [.agg [.int .i64 k4,.int .u64 (n4:Int),.sl (b4.map E.byte),.sl (Zt l4)],.agg [.int .i64 k6,.int .u64 (n6:Int),.sl (b6.map E.byte),.sl (Zt l6)]]]] (.tup [.agg [.bool ui,.int .u64 (un:Int),.int .u64 (us:Int),.str uh,.str ud,.int .u64 (ut:Int),.int .u64 (uq:Int)],.int .i64 ie]) [])(hW:AP Tryz.prog 107 [.agg [.int .u64 (n1:Int),.int .i64 (IntKind.i64.wrap (n2:Int)),.bool di,.int .u64 (dn:Int),.int .u64 (ds:Int),.str dh,.str dd,.bool ri,.int .u64 (rn:Int),.int .u64 (rs:Int),.str rh,.str rd,.bool ui,.int .u64 (un:Int),.int .u64 (us:Int),.str uh,.str ud,.int .u64 (ut:Int),.int .u64 (uq:Int),.int .u64 (n7:Int)]] (.tup [.agg [.int .i64 wk,.int .u64 (wn:Int),byE wb,.sl .ext wl],.int .i64 we]) [])(hS:AP Tryz.prog 96 [.agg [.int .i64 wk,.int .u64 (wn:Int),byE wb,.sl .ext wl],.agg [.int .i64 k,.int .u64 (n:Int),byE b,.sl .ext xl]] (.bool s) []) :
  (∀(c1:(de != 0)=true),
  AP Tryz.prog 59 [.agg [.int .i64 k,.int .u64 (n:Int),byE b,.sl .ext xl]] (.tup [.agg [.int .u64 0,.int .i64 0,.bool false,.int .u64 0,.int .u64 0,.str [],.str [],.bool false,.int .u64 0,.int .u64 0,.str [],.str [],.bool false,.int .u64 0,.int .u64 0,.str [],.str [],.int .u64 0,.int .u64 0,.int .u64 0],.int .i64 3]) []) /\
  (∀(c1:(de != 0)=false) (c2:(re != 0)=true),
  AP Tryz.prog 59 [.agg [.int .i64 k,.int .u64 (n:Int),byE b,.sl .ext xl]] (.tup [.agg [.int .u64 0,.int .i64 0,.bool false,.int .u64 0,.int .u64 0,.str [],.str [],.bool false,.int .u64 0,.int .u64 0,.str [],.str [],.bool false,.int .u64 0,.int .u64 0,.str [],.str [],.int .u64 0,.int .u64 0,.int .u64 0],.int .i64 3]) []) /\
  (∀(c1:(de != 0)=false) (c2:(re != 0)=false) (c3:(ie != 0)=true),
  AP Tryz.prog 59 [.agg [.int .i64 k,.int .u64 (n:Int),byE b,.sl .ext xl]] (.tup [.agg [.int .u64 0,.int .i64 0,.bool false,.int .u64 0,.int .u64 0,.str [],.str [],.bool false,.int .u64 0,.int .u64 0,.str [],.str [],.bool false,.int .u64 0,.int .u64 0,.str [],.str [],.int .u64 0,.int .u64 0,.int .u64 0],.int .i64 3]) []):=by
 refine⟨fun c1=>?_,fun c1 c2=>?_,fun c1 c2 c3=>?_⟩
 all_goals
  refine AP.ofA (Zk Tryz.func59 Z Tryz.ntmps59 Z Z ?_)
  repeat'(first|(apply Zb (hO);kernel_rfl;(iterate 4 exact Z))|(apply Zb (hD);kernel_rfl;(iterate 4 exact Z))|(apply Zb (hR);kernel_rfl;(iterate 4 exact Z))|(apply Zb (hL);kernel_rfl;(iterate 4 exact Z))|(apply Zb (hI);kernel_rfl;(iterate 4 exact Z))|(apply Zb (hW);kernel_rfl;(iterate 4 exact Z))|(apply Zh Za;exact Z)|(apply Ze Za;exact Z)|(apply Zq Za;exact Z)|refine Zg Z Z Z Qt ?_|refine Zp Z Z Z Qt ?_|refine Zl Z Qt Z Z ?_|refine Zi Z Qt Z Z ?_|refine Zd Z Qt ?_|refine Zf Z Qt ?_|refine Zm Za Z Z Z Z ?_|refine ZT Za Z Z Z Z Z Z Z Z Z Z Z Z ?_|(apply Zn 14 ZF;decide +kernel;kernel_rfl;kernel_rfl;kernel_rfl;exact Z;exact Z)|(apply Zn 18 ZF;decide +kernel;kernel_rfl;kernel_rfl;kernel_rfl;exact Z;exact Z)|(apply Zs;(iterate 4 exact Z))|exact AE.nil _ _ _ _|(apply Zx;exact Z)|(apply Ye;exact Z)|(apply Vs;exact Z)|(apply ZA;exact Z;exact Z;decide +kernel;exact Z)|(apply ZB;exact Z)|(apply Yu;exact Z)|(apply UB;exact Z)|exact AO.nil _ _ _|(apply Zr;(decide +kernel))|(apply Z4;(iterate 3 exact Z))|exact AOs.nil|exact ZM rfl rfl|exact Wi rfl rfl rfl rfl rfl|exact Y4 rfl rfl|exact VR rfl|(apply Zu Za;(iterate 6 exact Z);(first|exact Qt|rotate_left);(first|with_reducible assumption|decide +kernel|exact Z);(first|exact Zj rfl|with_reducible assumption|decide +kernel|rotate_left)))
  all_goals(apply Zo [];(apply Zc Za;exact Z);(iterate 4 exact Z))
  all_goals first|rfl|(exfalso;simp_all;done)
theorem Jo [Known][KnownU8](k:Int)(n:Nat)(b:List UInt8)(xl:List E)(L:List E)(e:Int)(k0:Int)(n0:Nat)(b0:List UInt8)(l0:List It)(k1:Int)(n1:Nat)(b1:List UInt8)(l1:List It)(k2:Int)(n2:Nat)(b2:List UInt8)(l2:List It)(k3:Int)(n3:Nat)(b3:List UInt8)(l3:List It)(k4:Int)(n4:Nat)(b4:List UInt8)(l4:List It)(k5:Int)(n5:Nat)(b5:List UInt8)(l5:List It)(k6:Int)(n6:Nat)(b6:List UInt8)(l6:List It)(k7:Int)(n7:Nat)(b7:List UInt8)(l7:List It)(di:Bool)(dn ds:Nat)(dh dd:List UInt8)(ri:Bool)(rn rs:Nat)(rh rd:List UInt8)(ui:Bool)(un us:Nat)(uh ud:List UInt8)(ut uq:Nat)(de re ie we:Int)(wk:Int)(wn:Nat)(wb:List UInt8)(wl:List E)(s:Bool)(hO:AP Tryz.prog 111 [.agg [.int .i64 k,.int .u64 (n:Int),byE b,.sl .ext xl],.int .i64 2] (.tup [.sl .ext L,.int .i64 e]) [])(t1:(e != 0)=false)(t2:((L.length:Int) != 8)=false)(hU:Uni 4 L)(hv1:L[(1:Int).toNat]?=some (.agg [.int .i64 k1,.int .u64 (n1:Int),.sl (b1.map E.byte),.sl (Zt l1)]))(hv2:L[(2:Int).toNat]?=some (.agg [.int .i64 k2,.int .u64 (n2:Int),.sl (b2.map E.byte),.sl (Zt l2)]))(hv3:L[(3:Int).toNat]?=some (.agg [.int .i64 k3,.int .u64 (n3:Int),.sl (b3.map E.byte),.sl (Zt l3)]))(hv4:L[(4:Int).toNat]?=some (.agg [.int .i64 k4,.int .u64 (n4:Int),.sl (b4.map E.byte),.sl (Zt l4)]))(hv5:L[(5:Int).toNat]?=some (.agg [.int .i64 k5,.int .u64 (n5:Int),.sl (b5.map E.byte),.sl (Zt l5)]))(hv6:L[(6:Int).toNat]?=some (.agg [.int .i64 k6,.int .u64 (n6:Int),.sl (b6.map E.byte),.sl (Zt l6)]))(hv7:L[(7:Int).toNat]?=some (.agg [.int .i64 k7,.int .u64 (n7:Int),.sl (b7.map E.byte),.sl (Zt l7)]))(hD:AP Tryz.prog 112 [.agg [.int .i64 k3,.int .u64 (n3:Int),.sl .ext (b3.map E.byte),.sl .ext (Zt l3)]] (.tup [.agg [.bool di,.int .u64 (dn:Int),.int .u64 (ds:Int),.str dh,.str dd],.int .i64 de]) [])(hR:AP Tryz.prog 112 [.agg [.int .i64 k5,.int .u64 (n5:Int),.sl .ext (b5.map E.byte),.sl .ext (Zt l5)]] (.tup [.agg [.bool ri,.int .u64 (rn:Int),.int .u64 (rs:Int),.str rh,.str rd],.int .i64 re]) [])(hL:AP Tryz.prog 64 [.sl .ext [.agg [.int .i64 k4,.int .u64 (n4:Int),.sl (b4.map E.byte),.sl (Zt l4)],.agg [.int .i64 k6,.int .u64 (n6:Int),.sl (b6.map E.byte),.sl (Zt l6)]]] (.agg [.int .i64 4,.int .u64 0,.sl .ext [],.sl .ext [.agg [.int .i64 k4,.int .u64 (n4:Int),.sl (b4.map E.byte),.sl (Zt l4)],.agg [.int .i64 k6,.int .u64 (n6:Int),.sl (b6.map E.byte),.sl (Zt l6)]]]) [])(hI:AP Tryz.prog 67 [.agg [.int .i64 4,.int .u64 0,.sl .ext [],.sl .ext [.agg [.int .i64 k4,.int .u64 (n4:Int),.sl (b4.map E.byte),.sl (Zt l4)],.agg [.int .i64 k6,.int .u64 (n6:Int),.sl (b6.map E.byte),.sl (Zt l6)]]]] (.tup [.agg [.bool ui,.int .u64 (un:Int),.int .u64 (us:Int),.str uh,.str ud,.int .u64 (ut:Int),.int .u64 (uq:Int)],.int .i64 ie]) [])(hW:AP Tryz.prog 107 [.agg [.int .u64 (n1:Int),.int .i64 (IntKind.i64.wrap (n2:Int)),.bool di,.int .u64 (dn:Int),.int .u64 (ds:Int),.str dh,.str dd,.bool ri,.int .u64 (rn:Int),.int .u64 (rs:Int),.str rh,.str rd,.bool ui,.int .u64 (un:Int),.int .u64 (us:Int),.str uh,.str ud,.int .u64 (ut:Int),.int .u64 (uq:Int),.int .u64 (n7:Int)]] (.tup [.agg [.int .i64 wk,.int .u64 (wn:Int),byE wb,.sl .ext wl],.int .i64 we]) [])(hS:AP Tryz.prog 96 [.agg [.int .i64 wk,.int .u64 (wn:Int),byE wb,.sl .ext wl],.agg [.int .i64 k,.int .u64 (n:Int),byE b,.sl .ext xl]] (.bool s) [])(c1:(de != 0)=false)(c2:(re != 0)=false)(c3:(ie != 0)=false) :
  (∀(c4:(we != 0)=true),
  AP Tryz.prog 59 [.agg [.int .i64 k,.int .u64 (n:Int),byE b,.sl .ext xl]] (.tup [.agg [.int .u64 0,.int .i64 0,.bool false,.int .u64 0,.int .u64 0,.str [],.str [],.bool false,.int .u64 0,.int .u64 0,.str [],.str [],.bool false,.int .u64 0,.int .u64 0,.str [],.str [],.int .u64 0,.int .u64 0,.int .u64 0],.int .i64 3]) []) /\
  (∀(c4:(we != 0)=false) (hSn:AP Tryz.prog 96 [.agg [.int .i64 wk,.int .u64 (wn:Int),byE wb,.sl .ext wl],.agg [.int .i64 k,.int .u64 (n:Int),byE b,.sl .ext xl]] (.bool false) []),
  AP Tryz.prog 59 [.agg [.int .i64 k,.int .u64 (n:Int),byE b,.sl .ext xl]] (.tup [.agg [.int .u64 0,.int .i64 0,.bool false,.int .u64 0,.int .u64 0,.str [],.str [],.bool false,.int .u64 0,.int .u64 0,.str [],.str [],.bool false,.int .u64 0,.int .u64 0,.str [],.str [],.int .u64 0,.int .u64 0,.int .u64 0],.int .i64 3]) []) /\
  (∀(c4:(we != 0)=false) (hSn:AP Tryz.prog 96 [.agg [.int .i64 wk,.int .u64 (wn:Int),byE wb,.sl .ext wl],.agg [.int .i64 k,.int .u64 (n:Int),byE b,.sl .ext xl]] (.bool true) []),
  AP Tryz.prog 59 [.agg [.int .i64 k,.int .u64 (n:Int),byE b,.sl .ext xl]] (.tup [.agg [.int .u64 (n1:Int),.int .i64 (IntKind.i64.wrap (n2:Int)),.bool di,.int .u64 (dn:Int),.int .u64 (ds:Int),.str dh,.str dd,.bool ri,.int .u64 (rn:Int),.int .u64 (rs:Int),.str rh,.str rd,.bool ui,.int .u64 (un:Int),.int .u64 (us:Int),.str uh,.str ud,.int .u64 (ut:Int),.int .u64 (uq:Int),.int .u64 (n7:Int)],.int .i64 0]) []):=by
 refine⟨fun c4=>?_,fun c4 hSn=>?_,fun c4 hSn=>?_⟩
 all_goals
  refine AP.ofA (Zk Tryz.func59 Z Tryz.ntmps59 Z Z ?_)
  repeat'(first|(apply Zb (hO);kernel_rfl;(iterate 4 exact Z))|(apply Zb (hD);kernel_rfl;(iterate 4 exact Z))|(apply Zb (hR);kernel_rfl;(iterate 4 exact Z))|(apply Zb (hL);kernel_rfl;(iterate 4 exact Z))|(apply Zb (hI);kernel_rfl;(iterate 4 exact Z))|(apply Zb (hW);kernel_rfl;(iterate 4 exact Z))|(apply Zb (hSn);kernel_rfl;(iterate 4 exact Z))|(apply Zh Za;exact Z)|(apply Ze Za;exact Z)|(apply Zq Za;exact Z)|refine Zg Z Z Z Qt ?_|refine Zp Z Z Z Qt ?_|refine Zl Z Qt Z Z ?_|refine Zi Z Qt Z Z ?_|refine Zd Z Qt ?_|refine Zf Z Qt ?_|refine Zm Za Z Z Z Z ?_|refine ZT Za Z Z Z Z Z Z Z Z Z Z Z Z ?_|(apply Zn 14 ZF;decide +kernel;kernel_rfl;kernel_rfl;kernel_rfl;exact Z;exact Z)|(apply Zn 18 ZF;decide +kernel;kernel_rfl;kernel_rfl;kernel_rfl;exact Z;exact Z)|(apply Zs;(iterate 4 exact Z))|exact AE.nil _ _ _ _|(apply Zx;exact Z)|(apply Ye;exact Z)|(apply Vs;exact Z)|(apply ZA;exact Z;exact Z;decide +kernel;exact Z)|(apply ZB;exact Z)|(apply Yu;exact Z)|(apply UB;exact Z)|exact AO.nil _ _ _|(apply Zr;(decide +kernel))|(apply Z4;(iterate 3 exact Z))|exact AOs.nil|exact ZM rfl rfl|exact Wi rfl rfl rfl rfl rfl|exact Y4 rfl rfl|exact VR rfl|(apply Zu Za;(iterate 6 exact Z);(first|exact Qt|rotate_left);(first|with_reducible assumption|decide +kernel|exact Z);(first|exact Zj rfl|with_reducible assumption|decide +kernel|rotate_left)))
  all_goals(apply Zo [];(apply Zc Za;exact Z);(iterate 4 exact Z))
  all_goals first|rfl|(exfalso;simp_all;done)
abbrev Uq (y:It):EidV:=match(Ys y).2 with|true=>(Ys y).1|false=>YU
def Qv (y p r x:It):Bool:=match(Ys y).2,Wr (Uq y) p.n r.n with
 | true,true=>It.beq (Q1 (Uq y) p.n r.n) x
 | _,_=>false
abbrev Mu (x:EidV)(t q:Nat)(b:Bool):D:=.tup [.agg (iC (match b with|true=>x|false=>YU) (match b with|true=>t|false=>0) (match b with|true=>q|false=>0)),.int .i64 (match b with|true=>0|false=>3)]
def Xo:It->Bool
 | .mk k _ _ [_,.mk k2 _ _ [_,_]]=>!(k==4&&k2==4)
 | _=>true
theorem I0 [Known][KnownU8](x:It)(h:Xo x=true):AP Tryz.prog 67 [itD x] (Mu YU 0 0 false) []:=by
 show AP Tryz.prog _ _ (.tup [.agg [.bool false,.int .u64 0,.int .u64 0,.str [],.str [],.int .u64 0,.int .u64 0],.int .i64 3]) []
 obtain⟨k,n,b,l⟩:=x
 by_cases hk:k=4
 ·have t1:(k != 4)=false:=by simpa using hk
  by_cases hl:l.length=2
  ·obtain⟨y,z,rfl⟩:∃ y z,l=[y,z]:=by
    match l,hl with
    | [y,z],_=>exact⟨y,z,rfl⟩
   have t2:(((Zt [y,z]).length:Int) != 2)=false:=rfl
   have hU:=YW [y,z]
   obtain⟨ky,ny,bY,ly⟩:=y
   obtain⟨kz,nz,bz,lz⟩:=z
   by_cases hk2:kz=4
   ·have t3:(kz != 4)=false:=by simpa using hk2
    have hl2:lz.length ≠ 2:=by
     intro e
     match lz,e with
     | [p,r],_=>simp[Xo,hk,hk2]at h
    have t4:(((Zt lz).length:Int) != 2)=true:=by rw[Zw];simp;omega
    refine AP.ofA (Zk Tryz.func67 Z Tryz.ntmps67 Z Z ?_)
    repeat'(first|(apply Zh Za;exact Z)|(apply Ze Za;exact Z)|(apply Zq Za;exact Z)|refine Zg Z Z Z Qt ?_|refine Zi Z Qt Z Z ?_|refine Zd Z Qt ?_|refine Zm Za Z Z Z Z ?_|(apply Zu Za;(iterate 6 exact Z);(first|exact Qt|rotate_left);(first|with_reducible assumption|decide +kernel|exact Z);(first|exact Zj rfl|with_reducible assumption|decide +kernel|rotate_left)))
    all_goals exact Qe
   ·have t3:(kz != 4)=true:=by simpa using hk2
    refine AP.ofA (Zk Tryz.func67 Z Tryz.ntmps67 Z Z ?_)
    repeat'(first|(apply Zh Za;exact Z)|(apply Ze Za;exact Z)|(apply Zq Za;exact Z)|refine Zg Z Z Z Qt ?_|refine Zp Z Z Z Qt ?_|refine Zl Z Qt Z Z ?_|refine Zi Z Qt Z Z ?_|refine Zd Z Qt ?_|refine Zm Za Z Z Z Z ?_|(apply Zu Za;(iterate 6 exact Z);(first|exact Qt|rotate_left);(first|with_reducible assumption|decide +kernel|exact Z);(first|exact Zj rfl|with_reducible assumption|decide +kernel|rotate_left)))
    all_goals exact Qe
  ·have t2:(((Zt l).length:Int) != 2)=true:=by rw[Zw];simp;omega
   refine AP.ofA (Zk Tryz.func67 Z Tryz.ntmps67 Z Z ?_)
   repeat'(first|(apply Zh Za;exact Z)|(apply Ze Za;exact Z)|(apply Zq Za;exact Z)|refine Zg Z Z Z Qt ?_|refine Zp Z Z Z Qt ?_|refine Zl Z Qt Z Z ?_|refine Zi Z Qt Z Z ?_|refine Zd Z Qt ?_|refine Zm Za Z Z Z Z ?_)
   all_goals exact Qe
 ·have t1:(k != 4)=true:=by simpa using hk
  refine AP.ofA (Zk Tryz.func67 Z Tryz.ntmps67 Z Z ?_)
  repeat'(first|(apply Zh Za;exact Z)|(apply Ze Za;exact Z)|(apply Zq Za;exact Z)|refine Zp Z Z Z Qt ?_|refine Zl Z Qt Z Z ?_|refine Zd Z Qt ?_)
  all_goals exact Qe
theorem Rb [Known](y z:It)(n:Nat)(b:List UInt8)(n2:Nat)(b2:List UInt8)(kp:Int)(np:Nat)(bp:List UInt8)(lp:List It)(kr:Int)(nr:Nat)(br:List UInt8)(lr:List It)(c:Int)
  (hE:AP Tryz.prog 112 [itD y] (.tup [.agg (eC YU),.int .i64 3]) []) (hW:AP Tryz.prog 62 [.agg (iC YU np nr)] (.tup [itD z,.int .i64 c]) []) :
  AP Tryz.prog 67 [itD (.mk 4 n b [y,.mk 4 n2 b2 [.mk kp np bp lp,.mk kr nr br lr]])] (.tup [.agg (iC YU 0 0),.int .i64 3]) []:=by
 have hU:=YW [y,.mk 4 n2 b2 [.mk kp np bp lp,.mk kr nr br lr]]
 have hU2:=YW [.mk kp np bp lp,.mk kr nr br lr]
 have t2:(((Zt [y,.mk 4 n2 b2 [.mk kp np bp lp,.mk kr nr br lr]]).length:Int) != 2)=false:=rfl
 have t3:(((Zt [.mk kp np bp lp,.mk kr nr br lr]).length:Int) != 2)=false:=rfl
 obtain⟨yk,yn,yb,yl⟩:=y
 obtain⟨zk,zn,zb,zl⟩:=z
 replace hE:AP Tryz.prog _ [.agg [.int .i64 yk,.int .u64 (yn:Int),byE yb,.sl .ext (Zt yl)]] (.tup [.agg [.bool false,.int .u64 0,.int .u64 0,.str [],.str []],.int .i64 3]) []:=hE
 replace hW:AP Tryz.prog _ [.agg [.bool false,.int .u64 0,.int .u64 0,.str [],.str [],.int .u64 (np:Int),.int .u64 (nr:Int)]] (.tup [.agg [.int .i64 zk,.int .u64 (zn:Int),byE zb,.sl .ext (Zt zl)],.int .i64 c]) []:=hW
 refine AP.ofA (Zk Tryz.func67 Z Tryz.ntmps67 Z Z ?_)
 repeat'(first|(apply Zb (hE);kernel_rfl;(iterate 4 exact Z))|(apply Zb (hW);kernel_rfl;(iterate 4 exact Z))|(apply Zh Za;exact Z)|(apply Ze Za;exact Z)|(apply Zq Za;exact Z)|refine Zg Z Z Z Qt ?_|refine Zp Z Z Z Qt ?_|refine Zl Z Qt Z Z ?_|refine Zi Z Qt Z Z ?_|refine Zd Z Qt ?_|refine Zf Z Qt ?_|refine Zm Za Z Z Z Z ?_|(apply Zn 19 ZF;decide +kernel;kernel_rfl;kernel_rfl;kernel_rfl;exact Z;exact Z)|(apply Zs;(iterate 4 exact Z))|exact AE.nil _ _ _ _|(apply Zx;exact Z)|(apply Ye;exact Z)|(apply ZA;exact Z;exact Z;decide +kernel;exact Z)|(apply ZB;exact Z)|(apply Yu;exact Z)|exact AO.nil _ _ _|(apply Zr;(decide +kernel))|(apply Z4;(iterate 3 exact Z))|exact AOs.nil|exact ZM rfl rfl|exact Y4 rfl rfl|(apply Zu Za;(iterate 6 exact Z);(first|exact Qt|rotate_left);(first|with_reducible assumption|decide +kernel|exact Z);(first|exact Zj rfl|with_reducible assumption|decide +kernel|rotate_left)))
 all_goals exact Qe
theorem Rc [Known](x:EidV)(y z:It)(n:Nat)(b:List UInt8)(n2:Nat)(b2:List UInt8)(kp:Int)(np:Nat)(bp:List UInt8)(lp:List It)(kr:Int)(nr:Nat)(br:List UInt8)(lr:List It)
  (hE:AP Tryz.prog 112 [itD y] (.tup [.agg (eC x),.int .i64 0]) []) (hW:AP Tryz.prog 62 [.agg (iC x np nr)] (.tup [itD z,.int .i64 3]) []) :
  AP Tryz.prog 67 [itD (.mk 4 n b [y,.mk 4 n2 b2 [.mk kp np bp lp,.mk kr nr br lr]])] (.tup [.agg (iC YU 0 0),.int .i64 3]) []:=by
 have hU:=YW [y,.mk 4 n2 b2 [.mk kp np bp lp,.mk kr nr br lr]]
 have hU2:=YW [.mk kp np bp lp,.mk kr nr br lr]
 have t2:(((Zt [y,.mk 4 n2 b2 [.mk kp np bp lp,.mk kr nr br lr]]).length:Int) != 2)=false:=rfl
 have t3:(((Zt [.mk kp np bp lp,.mk kr nr br lr]).length:Int) != 2)=false:=rfl
 obtain⟨yk,yn,yb,yl⟩:=y
 obtain⟨zk,zn,zb,zl⟩:=z
 obtain⟨xi,xn,xs,xh,xd⟩:=x
 replace hE:AP Tryz.prog _ [.agg [.int .i64 yk,.int .u64 (yn:Int),byE yb,.sl .ext (Zt yl)]] (.tup [.agg [.bool xi,.int .u64 (xn:Int),.int .u64 (xs:Int),.str xh,.str xd],.int .i64 0]) []:=hE
 replace hW:AP Tryz.prog _ [.agg [.bool xi,.int .u64 (xn:Int),.int .u64 (xs:Int),.str xh,.str xd,.int .u64 (np:Int),.int .u64 (nr:Int)]] (.tup [.agg [.int .i64 zk,.int .u64 (zn:Int),byE zb,.sl .ext (Zt zl)],.int .i64 3]) []:=hW
 refine AP.ofA (Zk Tryz.func67 Z Tryz.ntmps67 Z Z ?_)
 repeat'(first|(apply Zb (hE);kernel_rfl;(iterate 4 exact Z))|(apply Zb (hW);kernel_rfl;(iterate 4 exact Z))|(apply Zh Za;exact Z)|(apply Ze Za;exact Z)|(apply Zq Za;exact Z)|refine Zg Z Z Z Qt ?_|refine Zp Z Z Z Qt ?_|refine Zl Z Qt Z Z ?_|refine Zi Z Qt Z Z ?_|refine Zd Z Qt ?_|refine Zf Z Qt ?_|refine Zm Za Z Z Z Z ?_|(apply Zn 19 ZF;decide +kernel;kernel_rfl;kernel_rfl;kernel_rfl;exact Z;exact Z)|(apply Zs;(iterate 4 exact Z))|exact AE.nil _ _ _ _|(apply Zx;exact Z)|(apply Ye;exact Z)|(apply ZA;exact Z;exact Z;decide +kernel;exact Z)|(apply ZB;exact Z)|(apply Yu;exact Z)|exact AO.nil _ _ _|(apply Zr;(decide +kernel))|(apply Z4;(iterate 3 exact Z))|exact AOs.nil|exact ZM rfl rfl|exact Y4 rfl rfl|(apply Zu Za;(iterate 6 exact Z);(first|exact Qt|rotate_left);(first|with_reducible assumption|decide +kernel|exact Z);(first|exact Zj rfl|with_reducible assumption|decide +kernel|rotate_left)))
 all_goals exact Qe
theorem Rd [Known](x:EidV)(y z:It)(n:Nat)(b:List UInt8)(n2:Nat)(b2:List UInt8)(kp:Int)(np:Nat)(bp:List UInt8)(lp:List It)(kr:Int)(nr:Nat)(br:List UInt8)(lr:List It)(R:Bool)
  (hE:AP Tryz.prog 112 [itD y] (.tup [.agg (eC x),.int .i64 0]) []) (hW:AP Tryz.prog 62 [.agg (iC x np nr)] (.tup [itD z,.int .i64 0]) [])
  (hS:AP Tryz.prog 96 [itD z,itD (.mk 4 n b [y,.mk 4 n2 b2 [.mk kp np bp lp,.mk kr nr br lr]])] (.bool R) []) :
  AP Tryz.prog 67 [itD (.mk 4 n b [y,.mk 4 n2 b2 [.mk kp np bp lp,.mk kr nr br lr]])] (Mu x np nr R) []:=by
 have hU:=YW [y,.mk 4 n2 b2 [.mk kp np bp lp,.mk kr nr br lr]]
 have hU2:=YW [.mk kp np bp lp,.mk kr nr br lr]
 have t2:(((Zt [y,.mk 4 n2 b2 [.mk kp np bp lp,.mk kr nr br lr]]).length:Int) != 2)=false:=rfl
 have t3:(((Zt [.mk kp np bp lp,.mk kr nr br lr]).length:Int) != 2)=false:=rfl
 obtain⟨yk,yn,yb,yl⟩:=y
 obtain⟨zk,zn,zb,zl⟩:=z
 obtain⟨xi,xn,xs,xh,xd⟩:=x
 replace hE:AP Tryz.prog _ [.agg [.int .i64 yk,.int .u64 (yn:Int),byE yb,.sl .ext (Zt yl)]] (.tup [.agg [.bool xi,.int .u64 (xn:Int),.int .u64 (xs:Int),.str xh,.str xd],.int .i64 0]) []:=hE
 replace hW:AP Tryz.prog _ [.agg [.bool xi,.int .u64 (xn:Int),.int .u64 (xs:Int),.str xh,.str xd,.int .u64 (np:Int),.int .u64 (nr:Int)]] (.tup [.agg [.int .i64 zk,.int .u64 (zn:Int),byE zb,.sl .ext (Zt zl)],.int .i64 0]) []:=hW
 replace hS:AP Tryz.prog _ [.agg [.int .i64 zk,.int .u64 (zn:Int),byE zb,.sl .ext (Zt zl)],itD (.mk 4 n b [.mk yk yn yb yl,.mk 4 n2 b2 [.mk kp np bp lp,.mk kr nr br lr]])] (.bool R) []:=hS
 cases R with
 | true=>
  show AP Tryz.prog _ _ (.tup [.agg [.bool xi,.int .u64 (xn:Int),.int .u64 (xs:Int),.str xh,.str xd,.int .u64 (np:Int),.int .u64 (nr:Int)],.int .i64 0]) []
  refine AP.ofA (Zk Tryz.func67 Z Tryz.ntmps67 Z Z ?_)
  repeat'(first|(apply Zb (hE);kernel_rfl;(iterate 4 exact Z))|(apply Zb (hW);kernel_rfl;(iterate 4 exact Z))|(apply Zb (hS);kernel_rfl;(iterate 4 exact Z))|(apply Zh Za;exact Z)|(apply Ze Za;exact Z)|(apply Zq Za;exact Z)|refine Zg Z Z Z Qt ?_|refine Zi Z Qt Z Z ?_|refine Zf Z Qt ?_|refine Zm Za Z Z Z Z ?_|(apply Zn 19 ZF;decide +kernel;kernel_rfl;kernel_rfl;kernel_rfl;exact Z;exact Z)|(apply Zs;(iterate 4 exact Z))|exact AE.nil _ _ _ _|(apply Zx;exact Z)|(apply Ye;exact Z)|(apply ZA;exact Z;exact Z;decide +kernel;exact Z)|(apply ZB;exact Z)|(apply Yu;exact Z)|exact AO.nil _ _ _|(apply Zr;(decide +kernel))|(apply Z4;(iterate 3 exact Z))|exact AOs.nil|exact ZM rfl rfl|exact Y4 rfl rfl|(apply Zu Za;(iterate 6 exact Z);(first|exact Qt|rotate_left);(first|with_reducible assumption|decide +kernel|exact Z);(first|exact Zj rfl|with_reducible assumption|decide +kernel|rotate_left)))
  all_goals exact Qe
 | false=>
  show AP Tryz.prog _ _ (.tup [.agg [.bool false,.int .u64 0,.int .u64 0,.str [],.str [],.int .u64 0,.int .u64 0],.int .i64 3]) []
  refine AP.ofA (Zk Tryz.func67 Z Tryz.ntmps67 Z Z ?_)
  repeat'(first|(apply Zb (hE);kernel_rfl;(iterate 4 exact Z))|(apply Zb (hW);kernel_rfl;(iterate 4 exact Z))|(apply Zb (hS);kernel_rfl;(iterate 4 exact Z))|(apply Zh Za;exact Z)|(apply Ze Za;exact Z)|(apply Zq Za;exact Z)|refine Zg Z Z Z Qt ?_|refine Zi Z Qt Z Z ?_|refine Zd Z Qt ?_|refine Zf Z Qt ?_|refine Zm Za Z Z Z Z ?_|(apply Zn 19 ZF;decide +kernel;kernel_rfl;kernel_rfl;kernel_rfl;exact Z;exact Z)|(apply Zs;(iterate 4 exact Z))|exact AE.nil _ _ _ _|(apply Zx;exact Z)|(apply Ye;exact Z)|(apply ZA;exact Z;exact Z;decide +kernel;exact Z)|(apply ZB;exact Z)|(apply Yu;exact Z)|exact AO.nil _ _ _|(apply Zr;(decide +kernel))|(apply Z4;(iterate 3 exact Z))|exact AOs.nil|exact ZM rfl rfl|exact Y4 rfl rfl|(apply Zu Za;(iterate 6 exact Z);(first|exact Qt|rotate_left);(first|with_reducible assumption|decide +kernel|exact Z);(first|exact Zj rfl|with_reducible assumption|decide +kernel|rotate_left)))
  all_goals exact Qe
theorem O9 [Known][KnownU8](n:Nat)(b:List UInt8)(y:It)(n2:Nat)(b2:List UInt8)(p r:It)(hw:wfI (.mk 4 n b [y,.mk 4 n2 b2 [p,r]])) :
  AP Tryz.prog 67 [itD (.mk 4 n b [y,.mk 4 n2 b2 [p,r]])] (Mu (Uq y) p.n r.n (Qv y p r (.mk 4 n b [y,.mk 4 n2 b2 [p,r]]))) []:=by
 have hwy:wfI y:=hw.2.2.2.1
 have hE:=QZ y hwy
 have hW:=Ky (Uq y) p.n r.n
 unfold Qv
 cases hv:(Ys y).2 with
 | false=>
  have e0:Uq y=YU:=by unfold Uq;rw[hv]
  unfold IX at hE
  rw[hv]at hE
  rw[e0]at hW
  obtain⟨kp,np,bp,lp⟩:=p
  obtain⟨kr,nr,br,lr⟩:=r
  exact Rb y _ n b n2 b2 kp np bp lp kr nr br lr _ hE hW
 | true=>
  have e0:Uq y=(Ys y).1:=by unfold Uq;rw[hv]
  unfold IX at hE
  rw[hv]at hE
  rw[<- e0]at hE
  cases hr:Wr (Uq y) p.n r.n with
  | false=>
   rw[hr]at hW
   obtain⟨kp,np,bp,lp⟩:=p
   obtain⟨kr,nr,br,lr⟩:=r
   exact Rc _ y _ n b n2 b2 kp np bp lp kr nr br lr hE hW
  | true=>
   rw[hr,if_pos rfl,if_pos rfl]at hW
   have hS:=VK _ (T7 hr) _ hw
   obtain⟨kp,np,bp,lp⟩:=p
   obtain⟨kr,nr,br,lr⟩:=r
   exact Rd _ y _ n b n2 b2 kp np bp lp kr nr br lr _ hE hW hS
end Go.Proofs.YtmljabhmajehnaaGreatDoor
end
