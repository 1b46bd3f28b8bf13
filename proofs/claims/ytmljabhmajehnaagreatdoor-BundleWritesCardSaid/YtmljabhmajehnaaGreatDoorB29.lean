/- Package canon: a first block, read, by cases. -/
import Derived.Test.YtmljabhmajehnaaGreatDoorB28
import Derived.Test.YtmljabhmajehnaaGreatDoorB13
import Derived.Test.YtmljabhmajehnaaGreatDoorB21
set_option linter.unusedVariables false
set_option linter.unusedSimpArgs false
section
open Go.RowKit Go.Pl Go.Av
namespace Go.Proofs.YtmljabhmajehnaaGreatDoor
set_option maxHeartbeats 4000000
theorem Xt [Known][KnownU8](k:Int)(n:Nat)(b:List UInt8)(xl:List E)(L:List E)(e:Int)(k0:Int)(n0:Nat)(b0:List UInt8)(l0:List It)(k1:Int)(n1:Nat)(b1:List UInt8)(l1:List It)(k2:Int)(n2:Nat)(b2:List UInt8)(l2:List It)(k3:Int)(n3:Nat)(b3:List UInt8)(l3:List It)(k4:Int)(n4:Nat)(b4:List UInt8)(l4:List It)(k5:Int)(n5:Nat)(b5:List UInt8)(l5:List It)(k6:Int)(n6:Nat)(b6:List UInt8)(l6:List It)(k7:Int)(n7:Nat)(b7:List UInt8)(l7:List It)(di:Bool)(dn ds:Nat)(dh dd:List UInt8)(ri:Bool)(rn rs:Nat)(rh rd:List UInt8)(ui:Bool)(un us:Nat)(uh ud:List UInt8)(ut uq:Nat)(de re ie we:Int)(wk:Int)(wn:Nat)(wb:List UInt8)(wl:List E)(s:Bool)(hO:AP Tryz.prog 111 [.agg [.int .i64 k,.int .u64 (n:Int),byE b,.sl .ext xl],.int .i64 2] (.tup [.sl .ext L,.int .i64 e]) [])(t1:(e != 0)=false)(t2:((L.length:Int) != 8)=false)(hU:Uni 4 L)(hv1:L[(1:Int).toNat]?=some (.agg [.int .i64 k1,.int .u64 (n1:Int),.sl (b1.map E.byte),.sl (Zv l1)]))(hv2:L[(2:Int).toNat]?=some (.agg [.int .i64 k2,.int .u64 (n2:Int),.sl (b2.map E.byte),.sl (Zv l2)]))(hv3:L[(3:Int).toNat]?=some (.agg [.int .i64 k3,.int .u64 (n3:Int),.sl (b3.map E.byte),.sl (Zv l3)]))(hv4:L[(4:Int).toNat]?=some (.agg [.int .i64 k4,.int .u64 (n4:Int),.sl (b4.map E.byte),.sl (Zv l4)]))(hv5:L[(5:Int).toNat]?=some (.agg [.int .i64 k5,.int .u64 (n5:Int),.sl (b5.map E.byte),.sl (Zv l5)]))(hv6:L[(6:Int).toNat]?=some (.agg [.int .i64 k6,.int .u64 (n6:Int),.sl (b6.map E.byte),.sl (Zv l6)]))(hv7:L[(7:Int).toNat]?=some (.agg [.int .i64 k7,.int .u64 (n7:Int),.sl (b7.map E.byte),.sl (Zv l7)]))(hD:AP Tryz.prog 112 [.agg [.int .i64 k3,.int .u64 (n3:Int),.sl .ext (b3.map E.byte),.sl .ext (Zv l3)]] (.tup [.agg [.bool di,.int .u64 (dn:Int),.int .u64 (ds:Int),.str dh,.str dd],.int .i64 de]) [])(hR:AP Tryz.prog 112 [.agg [.int .i64 k5,.int .u64 (n5:Int),.sl .ext (b5.map E.byte),.sl .ext (Zv l5)]] (.tup [.agg [.bool ri,.int .u64 (rn:Int),.int .u64 (rs:Int),.str rh,.str rd],.int .i64 re]) [])(hL:AP Tryz.prog 64 [.sl .ext [.agg [.int .i64 k4,.int .u64 (n4:Int),.sl (b4.map E.byte),.sl (Zv l4)],.agg [.int .i64 k6,.int .u64 (n6:Int),.sl (b6.map E.byte),.sl (Zv l6)]]] (.agg [.int .i64 4,.int .u64 0,.sl .ext [],.sl .ext [.agg [.int .i64 k4,.int .u64 (n4:Int),.sl (b4.map E.byte),.sl (Zv l4)],.agg [.int .i64 k6,.int .u64 (n6:Int),.sl (b6.map E.byte),.sl (Zv l6)]]]) [])(hI:AP Tryz.prog 67 [.agg [.int .i64 4,.int .u64 0,.sl .ext [],.sl .ext [.agg [.int .i64 k4,.int .u64 (n4:Int),.sl (b4.map E.byte),.sl (Zv l4)],.agg [.int .i64 k6,.int .u64 (n6:Int),.sl (b6.map E.byte),.sl (Zv l6)]]]] (.tup [.agg [.bool ui,.int .u64 (un:Int),.int .u64 (us:Int),.str uh,.str ud,.int .u64 (ut:Int),.int .u64 (uq:Int)],.int .i64 ie]) [])(hW:AP Tryz.prog 107 [.agg [.int .u64 (n1:Int),.int .i64 (IntKind.i64.wrap (n2:Int)),.bool di,.int .u64 (dn:Int),.int .u64 (ds:Int),.str dh,.str dd,.bool ri,.int .u64 (rn:Int),.int .u64 (rs:Int),.str rh,.str rd,.bool ui,.int .u64 (un:Int),.int .u64 (us:Int),.str uh,.str ud,.int .u64 (ut:Int),.int .u64 (uq:Int),.int .u64 (n7:Int)]] (.tup [.agg [.int .i64 wk,.int .u64 (wn:Int),byE wb,.sl .ext wl],.int .i64 we]) [])(hS:AP Tryz.prog 96 [.agg [.int .i64 wk,.int .u64 (wn:Int),byE wb,.sl .ext wl],.agg [.int .i64 k,.int .u64 (n:Int),byE b,.sl .ext xl]] (.bool s) [])(c1:(de != 0)=false)(c2:(re != 0)=false)(c3:(ie != 0)=false) :
  (∀(c4:(we != 0)=true),
  AP Tryz.prog 59 [.agg [.int .i64 k,.int .u64 (n:Int),byE b,.sl .ext xl]] (.tup [.agg [.int .u64 0,.int .i64 0,.bool false,.int .u64 0,.int .u64 0,.str [],.str [],.bool false,.int .u64 0,.int .u64 0,.str [],.str [],.bool false,.int .u64 0,.int .u64 0,.str [],.str [],.int .u64 0,.int .u64 0,.int .u64 0],.int .i64 3]) []) /\
  (∀(c4:(we != 0)=false) (hSn:AP Tryz.prog 96 [.agg [.int .i64 wk,.int .u64 (wn:Int),byE wb,.sl .ext wl],.agg [.int .i64 k,.int .u64 (n:Int),byE b,.sl .ext xl]] (.bool false) []),
  AP Tryz.prog 59 [.agg [.int .i64 k,.int .u64 (n:Int),byE b,.sl .ext xl]] (.tup [.agg [.int .u64 0,.int .i64 0,.bool false,.int .u64 0,.int .u64 0,.str [],.str [],.bool false,.int .u64 0,.int .u64 0,.str [],.str [],.bool false,.int .u64 0,.int .u64 0,.str [],.str [],.int .u64 0,.int .u64 0,.int .u64 0],.int .i64 3]) []) /\
  (∀(c4:(we != 0)=false) (hSn:AP Tryz.prog 96 [.agg [.int .i64 wk,.int .u64 (wn:Int),byE wb,.sl .ext wl],.agg [.int .i64 k,.int .u64 (n:Int),byE b,.sl .ext xl]] (.bool true) []),
  AP Tryz.prog 59 [.agg [.int .i64 k,.int .u64 (n:Int),byE b,.sl .ext xl]] (.tup [.agg [.int .u64 (n1:Int),.int .i64 (IntKind.i64.wrap (n2:Int)),.bool di,.int .u64 (dn:Int),.int .u64 (ds:Int),.str dh,.str dd,.bool ri,.int .u64 (rn:Int),.int .u64 (rs:Int),.str rh,.str rd,.bool ui,.int .u64 (un:Int),.int .u64 (us:Int),.str uh,.str ud,.int .u64 (ut:Int),.int .u64 (uq:Int),.int .u64 (n7:Int)],.int .i64 0]) []):=by
 refine⟨fun c4=>?_,fun c4 hSn=>?_,fun c4 hSn=>?_⟩
 all_goals
  refine AP.ofA (Zl Tryz.func59 U Tryz.ntmps59 U U ?_)
  repeat'(first|(apply Zb (hO);kernel_rfl;(iterate 4 exact U))|(apply Zb (hD);kernel_rfl;(iterate 4 exact U))|(apply Zb (hR);kernel_rfl;(iterate 4 exact U))|(apply Zb (hL);kernel_rfl;(iterate 4 exact U))|(apply Zb (hI);kernel_rfl;(iterate 4 exact U))|(apply Zb (hW);kernel_rfl;(iterate 4 exact U))|(apply Zb (hSn);kernel_rfl;(iterate 4 exact U))|(apply Zh Za;exact U)|(apply Zg Za;exact U)|(apply Zo Za;exact U)|refine Ze U U U Qt ?_|refine Zn U U U Qt ?_|refine Zj U Qt U U ?_|refine Zi U Qt U U ?_|refine Zd U Qt ?_|refine Zf U Qt ?_|refine Zm Za U U U U ?_|refine ZO Za U U U U U U U U U U U U ?_|(apply Zq 14 ZE;decide +kernel;kernel_rfl;kernel_rfl;kernel_rfl;exact U;exact U)|(apply Zq 18 ZE;decide +kernel;kernel_rfl;kernel_rfl;kernel_rfl;exact U;exact U)|(apply Zt;(iterate 4 exact U))|exact AE.nil _ _ _ _|(apply Zx;exact U)|(apply YD;exact U)|(apply Uw;exact U)|(apply Zz;exact U;exact U;decide +kernel;exact U)|(apply ZA;exact U)|(apply Y4;exact U)|(apply Ji;exact U)|exact AO.nil _ _ _|(apply Zs;(decide +kernel))|(apply Yj;(iterate 3 exact U))|exact AOs.nil|exact ZF rfl rfl|exact WK rfl rfl rfl rfl rfl|exact WL rfl rfl|exact U2 rfl|(apply Zr Za;(iterate 6 exact U);(first|exact Qt|rotate_left);(first|with_reducible assumption|decide +kernel|exact U);(first|exact Zk rfl|with_reducible assumption|decide +kernel|rotate_left)))
  all_goals(apply Zp [];(apply Zc Za;exact U);(iterate 4 exact U))
  all_goals first|rfl|(exfalso;simp_all;done)
abbrev Qo (y:It):EidV:=match(ZT y).2 with|true=>(ZT y).1|false=>YS
def Jw (y p r x:It):Bool:=match(ZT y).2,Wz (Qo y) p.n r.n with
 | true,true=>It.beq (J4 (Qo y) p.n r.n) x
 | _,_=>false
abbrev Sv (x:EidV)(t q:Nat)(b:Bool):D:=.tup [.agg (iC (match b with|true=>x|false=>YS) (match b with|true=>t|false=>0) (match b with|true=>q|false=>0)),.int .i64 (match b with|true=>0|false=>3)]
def KL:It->Bool
 | .mk k _ _ [_,.mk k2 _ _ [_,_]]=>!(k==4&&k2==4)
 | _=>true
theorem Te [Known][KnownU8](x:It)(h:KL x=true):AP Tryz.prog 67 [itD x] (Sv YS 0 0 false) []:=by
 show AP Tryz.prog _ _ (.tup [.agg [.bool false,.int .u64 0,.int .u64 0,.str [],.str [],.int .u64 0,.int .u64 0],.int .i64 3]) []
 obtain⟨k,n,b,l⟩:=x
 by_cases hk:k=4
 ·have t1:(k != 4)=false:=by simpa using hk
  by_cases hl:l.length=2
  ·obtain⟨y,z,rfl⟩:∃ y z,l=[y,z]:=by
    match l,hl with
    | [y,z],_=>exact⟨y,z,rfl⟩
   have t2:(((Zv [y,z]).length:Int) != 2)=false:=rfl
   have hU:=YH [y,z]
   obtain⟨ky,ny,bY,ly⟩:=y
   obtain⟨kz,nz,bz,lz⟩:=z
   by_cases hk2:kz=4
   ·have t3:(kz != 4)=false:=by simpa using hk2
    have hl2:lz.length ≠ 2:=by
     intro e
     match lz,e with
     | [p,r],_=>simp[KL,hk,hk2]at h
    have t4:(((Zv lz).length:Int) != 2)=true:=by rw[Zw];simp;omega
    refine AP.ofA (Zl Tryz.func67 U Tryz.ntmps67 U U ?_)
    repeat'(first|(apply Zh Za;exact U)|(apply Zg Za;exact U)|(apply Zo Za;exact U)|refine Ze U U U Qt ?_|refine Zi U Qt U U ?_|refine Zd U Qt ?_|refine Zm Za U U U U ?_|(apply Zr Za;(iterate 6 exact U);(first|exact Qt|rotate_left);(first|with_reducible assumption|decide +kernel|exact U);(first|exact Zk rfl|with_reducible assumption|decide +kernel|rotate_left)))
    all_goals exact Qe
   ·have t3:(kz != 4)=true:=by simpa using hk2
    refine AP.ofA (Zl Tryz.func67 U Tryz.ntmps67 U U ?_)
    repeat'(first|(apply Zh Za;exact U)|(apply Zg Za;exact U)|(apply Zo Za;exact U)|refine Ze U U U Qt ?_|refine Zn U U U Qt ?_|refine Zj U Qt U U ?_|refine Zi U Qt U U ?_|refine Zd U Qt ?_|refine Zm Za U U U U ?_|(apply Zr Za;(iterate 6 exact U);(first|exact Qt|rotate_left);(first|with_reducible assumption|decide +kernel|exact U);(first|exact Zk rfl|with_reducible assumption|decide +kernel|rotate_left)))
    all_goals exact Qe
  ·have t2:(((Zv l).length:Int) != 2)=true:=by rw[Zw];simp;omega
   refine AP.ofA (Zl Tryz.func67 U Tryz.ntmps67 U U ?_)
   repeat'(first|(apply Zh Za;exact U)|(apply Zg Za;exact U)|(apply Zo Za;exact U)|refine Ze U U U Qt ?_|refine Zn U U U Qt ?_|refine Zj U Qt U U ?_|refine Zi U Qt U U ?_|refine Zd U Qt ?_|refine Zm Za U U U U ?_)
   all_goals exact Qe
 ·have t1:(k != 4)=true:=by simpa using hk
  refine AP.ofA (Zl Tryz.func67 U Tryz.ntmps67 U U ?_)
  repeat'(first|(apply Zh Za;exact U)|(apply Zg Za;exact U)|(apply Zo Za;exact U)|refine Zn U U U Qt ?_|refine Zj U Qt U U ?_|refine Zd U Qt ?_)
  all_goals exact Qe
theorem Du [Known](y z:It)(n:Nat)(b:List UInt8)(n2:Nat)(b2:List UInt8)(kp:Int)(np:Nat)(bp:List UInt8)(lp:List It)(kr:Int)(nr:Nat)(br:List UInt8)(lr:List It)(c:Int)
  (hE:AP Tryz.prog 112 [itD y] (.tup [.agg (eC YS),.int .i64 3]) []) (hW:AP Tryz.prog 62 [.agg (iC YS np nr)] (.tup [itD z,.int .i64 c]) []) :
  AP Tryz.prog 67 [itD (.mk 4 n b [y,.mk 4 n2 b2 [.mk kp np bp lp,.mk kr nr br lr]])] (.tup [.agg (iC YS 0 0),.int .i64 3]) []:=by
 have hU:=YH [y,.mk 4 n2 b2 [.mk kp np bp lp,.mk kr nr br lr]]
 have hU2:=YH [.mk kp np bp lp,.mk kr nr br lr]
 have t2:(((Zv [y,.mk 4 n2 b2 [.mk kp np bp lp,.mk kr nr br lr]]).length:Int) != 2)=false:=rfl
 have t3:(((Zv [.mk kp np bp lp,.mk kr nr br lr]).length:Int) != 2)=false:=rfl
 obtain⟨yk,yn,yb,yl⟩:=y
 obtain⟨zk,zn,zb,zl⟩:=z
 replace hE:AP Tryz.prog _ [.agg [.int .i64 yk,.int .u64 (yn:Int),byE yb,.sl .ext (Zv yl)]] (.tup [.agg [.bool false,.int .u64 0,.int .u64 0,.str [],.str []],.int .i64 3]) []:=hE
 replace hW:AP Tryz.prog _ [.agg [.bool false,.int .u64 0,.int .u64 0,.str [],.str [],.int .u64 (np:Int),.int .u64 (nr:Int)]] (.tup [.agg [.int .i64 zk,.int .u64 (zn:Int),byE zb,.sl .ext (Zv zl)],.int .i64 c]) []:=hW
 refine AP.ofA (Zl Tryz.func67 U Tryz.ntmps67 U U ?_)
 repeat'(first|(apply Zb (hE);kernel_rfl;(iterate 4 exact U))|(apply Zb (hW);kernel_rfl;(iterate 4 exact U))|(apply Zh Za;exact U)|(apply Zg Za;exact U)|(apply Zo Za;exact U)|refine Ze U U U Qt ?_|refine Zn U U U Qt ?_|refine Zj U Qt U U ?_|refine Zi U Qt U U ?_|refine Zd U Qt ?_|refine Zf U Qt ?_|refine Zm Za U U U U ?_|(apply Zq 19 ZE;decide +kernel;kernel_rfl;kernel_rfl;kernel_rfl;exact U;exact U)|(apply Zt;(iterate 4 exact U))|exact AE.nil _ _ _ _|(apply Zx;exact U)|(apply YD;exact U)|(apply Zz;exact U;exact U;decide +kernel;exact U)|(apply ZA;exact U)|(apply Y4;exact U)|exact AO.nil _ _ _|(apply Zs;(decide +kernel))|(apply Yj;(iterate 3 exact U))|exact AOs.nil|exact ZF rfl rfl|exact WL rfl rfl|(apply Zr Za;(iterate 6 exact U);(first|exact Qt|rotate_left);(first|with_reducible assumption|decide +kernel|exact U);(first|exact Zk rfl|with_reducible assumption|decide +kernel|rotate_left)))
 all_goals exact Qe
theorem Dv [Known](x:EidV)(y z:It)(n:Nat)(b:List UInt8)(n2:Nat)(b2:List UInt8)(kp:Int)(np:Nat)(bp:List UInt8)(lp:List It)(kr:Int)(nr:Nat)(br:List UInt8)(lr:List It)
  (hE:AP Tryz.prog 112 [itD y] (.tup [.agg (eC x),.int .i64 0]) []) (hW:AP Tryz.prog 62 [.agg (iC x np nr)] (.tup [itD z,.int .i64 3]) []) :
  AP Tryz.prog 67 [itD (.mk 4 n b [y,.mk 4 n2 b2 [.mk kp np bp lp,.mk kr nr br lr]])] (.tup [.agg (iC YS 0 0),.int .i64 3]) []:=by
 have hU:=YH [y,.mk 4 n2 b2 [.mk kp np bp lp,.mk kr nr br lr]]
 have hU2:=YH [.mk kp np bp lp,.mk kr nr br lr]
 have t2:(((Zv [y,.mk 4 n2 b2 [.mk kp np bp lp,.mk kr nr br lr]]).length:Int) != 2)=false:=rfl
 have t3:(((Zv [.mk kp np bp lp,.mk kr nr br lr]).length:Int) != 2)=false:=rfl
 obtain⟨yk,yn,yb,yl⟩:=y
 obtain⟨zk,zn,zb,zl⟩:=z
 obtain⟨xi,xn,xs,xh,xd⟩:=x
 replace hE:AP Tryz.prog _ [.agg [.int .i64 yk,.int .u64 (yn:Int),byE yb,.sl .ext (Zv yl)]] (.tup [.agg [.bool xi,.int .u64 (xn:Int),.int .u64 (xs:Int),.str xh,.str xd],.int .i64 0]) []:=hE
 replace hW:AP Tryz.prog _ [.agg [.bool xi,.int .u64 (xn:Int),.int .u64 (xs:Int),.str xh,.str xd,.int .u64 (np:Int),.int .u64 (nr:Int)]] (.tup [.agg [.int .i64 zk,.int .u64 (zn:Int),byE zb,.sl .ext (Zv zl)],.int .i64 3]) []:=hW
 refine AP.ofA (Zl Tryz.func67 U Tryz.ntmps67 U U ?_)
 repeat'(first|(apply Zb (hE);kernel_rfl;(iterate 4 exact U))|(apply Zb (hW);kernel_rfl;(iterate 4 exact U))|(apply Zh Za;exact U)|(apply Zg Za;exact U)|(apply Zo Za;exact U)|refine Ze U U U Qt ?_|refine Zn U U U Qt ?_|refine Zj U Qt U U ?_|refine Zi U Qt U U ?_|refine Zd U Qt ?_|refine Zf U Qt ?_|refine Zm Za U U U U ?_|(apply Zq 19 ZE;decide +kernel;kernel_rfl;kernel_rfl;kernel_rfl;exact U;exact U)|(apply Zt;(iterate 4 exact U))|exact AE.nil _ _ _ _|(apply Zx;exact U)|(apply YD;exact U)|(apply Zz;exact U;exact U;decide +kernel;exact U)|(apply ZA;exact U)|(apply Y4;exact U)|exact AO.nil _ _ _|(apply Zs;(decide +kernel))|(apply Yj;(iterate 3 exact U))|exact AOs.nil|exact ZF rfl rfl|exact WL rfl rfl|(apply Zr Za;(iterate 6 exact U);(first|exact Qt|rotate_left);(first|with_reducible assumption|decide +kernel|exact U);(first|exact Zk rfl|with_reducible assumption|decide +kernel|rotate_left)))
 all_goals exact Qe
theorem Dw [Known](x:EidV)(y z:It)(n:Nat)(b:List UInt8)(n2:Nat)(b2:List UInt8)(kp:Int)(np:Nat)(bp:List UInt8)(lp:List It)(kr:Int)(nr:Nat)(br:List UInt8)(lr:List It)(R:Bool)
  (hE:AP Tryz.prog 112 [itD y] (.tup [.agg (eC x),.int .i64 0]) []) (hW:AP Tryz.prog 62 [.agg (iC x np nr)] (.tup [itD z,.int .i64 0]) [])
  (hS:AP Tryz.prog 96 [itD z,itD (.mk 4 n b [y,.mk 4 n2 b2 [.mk kp np bp lp,.mk kr nr br lr]])] (.bool R) []) :
  AP Tryz.prog 67 [itD (.mk 4 n b [y,.mk 4 n2 b2 [.mk kp np bp lp,.mk kr nr br lr]])] (Sv x np nr R) []:=by
 have hU:=YH [y,.mk 4 n2 b2 [.mk kp np bp lp,.mk kr nr br lr]]
 have hU2:=YH [.mk kp np bp lp,.mk kr nr br lr]
 have t2:(((Zv [y,.mk 4 n2 b2 [.mk kp np bp lp,.mk kr nr br lr]]).length:Int) != 2)=false:=rfl
 have t3:(((Zv [.mk kp np bp lp,.mk kr nr br lr]).length:Int) != 2)=false:=rfl
 obtain⟨yk,yn,yb,yl⟩:=y
 obtain⟨zk,zn,zb,zl⟩:=z
 obtain⟨xi,xn,xs,xh,xd⟩:=x
 replace hE:AP Tryz.prog _ [.agg [.int .i64 yk,.int .u64 (yn:Int),byE yb,.sl .ext (Zv yl)]] (.tup [.agg [.bool xi,.int .u64 (xn:Int),.int .u64 (xs:Int),.str xh,.str xd],.int .i64 0]) []:=hE
 replace hW:AP Tryz.prog _ [.agg [.bool xi,.int .u64 (xn:Int),.int .u64 (xs:Int),.str xh,.str xd,.int .u64 (np:Int),.int .u64 (nr:Int)]] (.tup [.agg [.int .i64 zk,.int .u64 (zn:Int),byE zb,.sl .ext (Zv zl)],.int .i64 0]) []:=hW
 replace hS:AP Tryz.prog _ [.agg [.int .i64 zk,.int .u64 (zn:Int),byE zb,.sl .ext (Zv zl)],itD (.mk 4 n b [.mk yk yn yb yl,.mk 4 n2 b2 [.mk kp np bp lp,.mk kr nr br lr]])] (.bool R) []:=hS
 cases R with
 | true=>
  show AP Tryz.prog _ _ (.tup [.agg [.bool xi,.int .u64 (xn:Int),.int .u64 (xs:Int),.str xh,.str xd,.int .u64 (np:Int),.int .u64 (nr:Int)],.int .i64 0]) []
  refine AP.ofA (Zl Tryz.func67 U Tryz.ntmps67 U U ?_)
  repeat'(first|(apply Zb (hE);kernel_rfl;(iterate 4 exact U))|(apply Zb (hW);kernel_rfl;(iterate 4 exact U))|(apply Zb (hS);kernel_rfl;(iterate 4 exact U))|(apply Zh Za;exact U)|(apply Zg Za;exact U)|(apply Zo Za;exact U)|refine Ze U U U Qt ?_|refine Zi U Qt U U ?_|refine Zf U Qt ?_|refine Zm Za U U U U ?_|(apply Zq 19 ZE;decide +kernel;kernel_rfl;kernel_rfl;kernel_rfl;exact U;exact U)|(apply Zt;(iterate 4 exact U))|exact AE.nil _ _ _ _|(apply Zx;exact U)|(apply YD;exact U)|(apply Zz;exact U;exact U;decide +kernel;exact U)|(apply ZA;exact U)|(apply Y4;exact U)|exact AO.nil _ _ _|(apply Zs;(decide +kernel))|(apply Yj;(iterate 3 exact U))|exact AOs.nil|exact ZF rfl rfl|exact WL rfl rfl|(apply Zr Za;(iterate 6 exact U);(first|exact Qt|rotate_left);(first|with_reducible assumption|decide +kernel|exact U);(first|exact Zk rfl|with_reducible assumption|decide +kernel|rotate_left)))
  all_goals exact Qe
 | false=>
  show AP Tryz.prog _ _ (.tup [.agg [.bool false,.int .u64 0,.int .u64 0,.str [],.str [],.int .u64 0,.int .u64 0],.int .i64 3]) []
  refine AP.ofA (Zl Tryz.func67 U Tryz.ntmps67 U U ?_)
  repeat'(first|(apply Zb (hE);kernel_rfl;(iterate 4 exact U))|(apply Zb (hW);kernel_rfl;(iterate 4 exact U))|(apply Zb (hS);kernel_rfl;(iterate 4 exact U))|(apply Zh Za;exact U)|(apply Zg Za;exact U)|(apply Zo Za;exact U)|refine Ze U U U Qt ?_|refine Zi U Qt U U ?_|refine Zd U Qt ?_|refine Zf U Qt ?_|refine Zm Za U U U U ?_|(apply Zq 19 ZE;decide +kernel;kernel_rfl;kernel_rfl;kernel_rfl;exact U;exact U)|(apply Zt;(iterate 4 exact U))|exact AE.nil _ _ _ _|(apply Zx;exact U)|(apply YD;exact U)|(apply Zz;exact U;exact U;decide +kernel;exact U)|(apply ZA;exact U)|(apply Y4;exact U)|exact AO.nil _ _ _|(apply Zs;(decide +kernel))|(apply Yj;(iterate 3 exact U))|exact AOs.nil|exact ZF rfl rfl|exact WL rfl rfl|(apply Zr Za;(iterate 6 exact U);(first|exact Qt|rotate_left);(first|with_reducible assumption|decide +kernel|exact U);(first|exact Zk rfl|with_reducible assumption|decide +kernel|rotate_left)))
  all_goals exact Qe
theorem G1 [Known][KnownU8](n:Nat)(b:List UInt8)(y:It)(n2:Nat)(b2:List UInt8)(p r:It)(hw:wfI (.mk 4 n b [y,.mk 4 n2 b2 [p,r]])) :
  AP Tryz.prog 67 [itD (.mk 4 n b [y,.mk 4 n2 b2 [p,r]])] (Sv (Qo y) p.n r.n (Jw y p r (.mk 4 n b [y,.mk 4 n2 b2 [p,r]]))) []:=by
 have hwy:wfI y:=hw.2.2.2.1
 have hE:=J0 y hwy
 have hW:=O1 (Qo y) p.n r.n
 unfold Jw
 cases hv:(ZT y).2 with
 | false=>
  have e0:Qo y=YS:=by unfold Qo;rw[hv]
  unfold Td at hE
  rw[hv]at hE
  rw[e0]at hW
  obtain⟨kp,np,bp,lp⟩:=p
  obtain⟨kr,nr,br,lr⟩:=r
  exact Du y _ n b n2 b2 kp np bp lp kr nr br lr _ hE hW
 | true=>
  have e0:Qo y=(ZT y).1:=by unfold Qo;rw[hv]
  unfold Td at hE
  rw[hv]at hE
  rw[<- e0]at hE
  cases hr:Wz (Qo y) p.n r.n with
  | false=>
   rw[hr]at hW
   obtain⟨kp,np,bp,lp⟩:=p
   obtain⟨kr,nr,br,lr⟩:=r
   exact Dv _ y _ n b n2 b2 kp np bp lp kr nr br lr hE hW
  | true=>
   rw[hr,if_pos rfl,if_pos rfl]at hW
   have hS:=Um _ (LM hr) _ hw
   obtain⟨kp,np,bp,lp⟩:=p
   obtain⟨kr,nr,br,lr⟩:=r
   exact Dw _ y _ n b n2 b2 kp np bp lp kr nr br lr _ hE hW hS
def Vq (z:It):EidV × Nat × Nat × Bool:=match z with
 | .mk k n b [y,.mk k2 n2 b2 [p,r]]=>(match k==4&&k2==4 with
  | false=>(YS,0,0,false)
  | true=>match Jw y p r (.mk k n b [y,.mk k2 n2 b2 [p,r]]) with
   | true=>(Qo y,p.n,r.n,true)
   | false=>(YS,0,0,false))
 | _=>(YS,0,0,false)
theorem LO [Known][KnownU8](z:It)(hw:wfI z):AP Tryz.prog 67 [itD z] (.tup [.agg (iC (Vq z).1 (Vq z).2.1 (Vq z).2.2.1),.int .i64 (match(Vq z).2.2.2 with|true=>0|false=>3)]) []:=by
 cases h:KL z with
 | true=>
  have e:Vq z=(YS,0,0,false):=by
   unfold KL at h
   unfold Vq
   split at h
   ·rw[Bool.not_eq_true']at h
    first|(rw[h];done)|(dsimp only;rw[h])
   ·rename_i hno
    first|rfl|(split<;>first|exact absurd rfl (hno _ _ _ _ _ _ _ _ _)|rfl)
  rw[e]
  exact Te z h
 | false=>
  obtain⟨n,b,y,n2,b2,p,r,rfl⟩:∃ n b y n2 b2 p r,z=.mk 4 n b [y,.mk 4 n2 b2 [p,r]]:=by
   unfold KL at h
   split at h
   ·simp only[Bool.not_eq_false',Bool.and_eq_true,beq_iff_eq]at h
    obtain⟨rfl,rfl⟩:=h
    exact⟨_,_,_,_,_,_,_,rfl⟩
   ·cases h
  have hR:=G1 n b y n2 b2 p r hw
  have e:Vq (.mk 4 n b [y,.mk 4 n2 b2 [p,r]])=(match Jw y p r (.mk 4 n b [y,.mk 4 n2 b2 [p,r]]) with
   | true=>(Qo y,p.n,r.n,true)
   | false=>(YS,0,0,false)):=rfl
  rw[e]
  unfold Sv at hR
  cases hb:Jw y p r (.mk 4 n b [y,.mk 4 n2 b2 [p,r]]) with
  | false=>rw[hb]at hR;exact hR
  | true=>rw[hb]at hR;exact hR
theorem Vr {x:EidV}(h:ZR x=true):(ZM (Z5 x)).length<=200:=by
 unfold Z5
 repeat' split
 ·exact Nat.le_trans (J3 1 0) (by decide)
 ·have h0:=YI 4 0 [] [.mk 0 2 [] [],N2 x.n x.s]
  have h1:=YP 2
  have h2:=J3 x.n x.s
  simp only[ZJ,List.length_append,List.length_nil,Nat.add_zero,Nat.zero_add]at h0
  exact Nat.le_trans h0 (by omega)
 ·have h0:=YI 4 0 [] [.mk 0 1 [] [],.mk 3 0 (Wr x) []]
  have h1:=YP 1
  have h2:=YI 3 0 (Wr x) []
  rename_i hz hi
  have h3:(Wr x).length<=100:=by
   have ht:=Wn h (by simpa using hz) (by simpa using hi)
   simp only[Wr,List.length_append,List.length_cons,List.length_nil]
   omega
  simp only[ZJ,List.length_append,List.length_nil,Nat.add_zero,Nat.zero_add]at h0 h2
  exact Nat.le_trans h0 (by omega)
theorem V2 (a c:List It):ZJ (a++c)=ZJ a++ZJ c:=by
 induction a with
 | nil=>rfl
 | cons y a ih=>rw[List.cons_append,ZJ,ZJ,ih,List.append_assoc]
theorem Dx {p:PriV}(h:Yq p=true)(s:Nat)(hs:s=1\/s=2):(ZM (ZP s (YA p))).length<=1000000000:=by
 obtain⟨h1,h2,h3,h4,h5,h6⟩:=W1 h
 obtain⟨i1,_,_⟩:=WA.1 h5
 have h0:=YI 4 0 [] (YA p++[.mk 2 0 (List.replicate (2*s) 0) []])
 have hb:=YI 2 0 (List.replicate (2*s) 0) []
 have n1:=YP 7
 have n2:=YP p.fl
 have n3:=YP p.sum.toNat
 have n4:=Vr h3
 have n5:=Vr i1
 have n6:=Vr h4
 have n7:=J3 p.t p.q
 have n8:=YP p.life
 have e7:N2 p.t p.q=.mk 4 0 [] [.mk 0 p.t [] [],.mk 0 p.q [] []]:=rfl
 rw[e7]at n7
 rw[V2]at h0
 simp only[YA,ZJ,List.length_append,List.length_nil,List.length_replicate,Nat.add_zero,Nat.zero_add]at h0 hb
 show(ZM (.mk 4 0 [] (YA p++[.mk 2 0 (List.replicate (2*s) 0) []]))).length<=1000000000
 exact Nat.le_trans h0 (by omega)
theorem KM [Known][KnownU8](p:PriV)(hfl:p.fl<18446744073709551616):AP Tryz.prog 107 [.agg (prC p)] (JZ (YB p)) []:=by
 cases h:Yq p with
 | true=>exact N6 p hfl (Dx h)
 | false=>
  have hR:=O0 p
  unfold YB
  rw[h]at hR ⊢
  obtain⟨fl,sum,⟨di,dn,ds,dh,dd⟩,⟨ri,rn,rs,rh,rd⟩,⟨xi,xn,xs,xh,xd⟩,t,q,life⟩:=p
  dsimp only[z0]at *
  refine AP.ofA (Zl Tryz.func107 U Tryz.ntmps107 U U ?_)
  repeat'(first|(apply Zb (hR);kernel_rfl;(iterate 4 exact U))|(apply Zh Za;exact U)|(apply Zg Za;exact U)|(apply Zo Za;exact U)|refine Zd U Qt ?_)
  all_goals exact Qe
theorem UM {p:PriV}(hfl:p.fl<18446744073709551616):wfI (YB p).1:=by
 unfold YB
 cases h:Yq p with
 | false=>exact LG
 | true=>exact Nj 2 (LN h hfl) (by simp[YA])
def pr0:PriV:=⟨0,0,YS,YS,YS,0,0,0⟩
abbrev prD (r:PriV × Int):D:=.tup [.agg (prC r.1),.int .i64 r.2]
def eZ (y:It):EidV:=match(ZT y).2 with|true=>(ZT y).1|false=>YS
def XT (m1 m2 m3 m4 m5 m6 m7:It):PriV:=⟨m1.n,IntKind.i64.wrap (m2.n:Int),eZ m3,eZ m5,(Vq (.mk 4 0 [] [m4,m6])).1,(Vq (.mk 4 0 [] [m4,m6])).2.1,(Vq (.mk 4 0 [] [m4,m6])).2.2.1,m7.n⟩
def Nl (x:It)(o:List It × Int):PriV × Int:=match o.2 != 0 with
 | true=>(pr0,o.2)
 | false=>match o.1 with
  | [_,m1,m2,m3,m4,m5,m6,m7]=>(match(ZT m3).2&&((ZT m5).2&&(Vq (.mk 4 0 [] [m4,m6])).2.2.2) with
   | false=>(pr0,3)
   | true=>match(YB (XT m1 m2 m3 m4 m5 m6 m7)).2 != 0 with
    | true=>(pr0,3)
    | false=>match It.beq (YB (XT m1 m2 m3 m4 m5 m6 m7)).1 x with
     | false=>(pr0,3)
     | true=>(XT m1 m2 m3 m4 m5 m6 m7,0))
  | _=>(pr0,3)
def QN (x:It):PriV × Int:=Nl x (Uo x 2)
theorem LP [Known][KnownU8](x:It)(hw:wfI x)(hxl:x.l.length<=1000000)(hlim:∀ s m,s=1\/s=2->(ZM (ZP s (x.l.take m))).length<=1000000000):AP Tryz.prog 59 [itD x] (prD (QN x)) []:=by
 have hO:=Nc x 2 hw hxl hlim
 have hsub:=QL x 2
 have hws:wfs x.l:=by obtain⟨k,n,b,l⟩:=x;exact hw.2.2.2
 unfold QN
 generalize Uo x 2=o at *
 obtain⟨ol,oe⟩:=o
 have hlen:=Zw ol
 have hUo:=YH ol
 dsimp only at hsub
 have hSame:=fun(B:PriV) (h1:B.fl<18446744073709551616)=>Um (YB B).1 (UM h1) x hw
 obtain⟨k,n,b,l⟩:=x
 dsimp only[It.l]at *
 unfold Nl
 dsimp only
 replace hO:AP Tryz.prog 111 [.agg [.int .i64 k,.int .u64 (n:Int),byE b,.sl .ext (Zv l)],.int .i64 2] (.tup [.sl .ext (Zv ol),.int .i64 oe]) []:=hO
 cases t1:(oe != 0) with
 | true=>exact Fe k n b _ _ oe hO t1
 | false=>
 have hno:ol.length ≠ 8->AP Tryz.prog 59 [itD (.mk k n b l)] (prD (pr0,3)) []:=fun h=>Ff k n b _ _ oe hO t1 (by rw[hlen];simp;omega)
 match ol,hO,hsub,hlen,hUo,hno with
 | [],_,_,_,_,h=>exact h (by simp)
 | [_],_,_,_,_,h=>exact h (by simp)
 | [_,_],_,_,_,_,h=>exact h (by simp)
 | [_,_,_],_,_,_,_,h=>exact h (by simp)
 | [_,_,_,_],_,_,_,_,h=>exact h (by simp)
 | [_,_,_,_,_],_,_,_,_,h=>exact h (by simp)
 | [_,_,_,_,_,_],_,_,_,_,h=>exact h (by simp)
 | [_,_,_,_,_,_,_],_,_,_,_,h=>exact h (by simp)
 | _::_::_::_::_::_::_::_::_::_,_,_,_,_,h=>exact h (by simp)
 | [.mk k0 n0 b0 l0,.mk k1 n1 b1 l1,.mk k2 n2 b2 l2,.mk k3 n3 b3 l3,.mk k4 n4 b4 l4,.mk k5 n5 b5 l5,.mk k6 n6 b6 l6,.mk k7 n7 b7 l7],hO,hsub,hlen,hUo,_=>
 have hwm:∀ y ∈ [It.mk k0 n0 b0 l0,.mk k1 n1 b1 l1,.mk k2 n2 b2 l2,.mk k3 n3 b3 l3,.mk k4 n4 b4 l4,.mk k5 n5 b5 l5,.mk k6 n6 b6 l6,.mk k7 n7 b7 l7],wfI y:=fun y hy=>Yt hws y (hsub y hy)
 clear hsub
 have t2:(((Zv [It.mk k0 n0 b0 l0,.mk k1 n1 b1 l1,.mk k2 n2 b2 l2,.mk k3 n3 b3 l3,.mk k4 n4 b4 l4,.mk k5 n5 b5 l5,.mk k6 n6 b6 l6,.mk k7 n7 b7 l7]).length:Int) != 8)=false:=by rw[hlen];rfl
 dsimp only
 have w1:n1<18446744073709551616:=(hwm (.mk k1 n1 b1 l1) (by simp)).1
 have w3:=hwm (.mk k3 n3 b3 l3) (by simp)
 have w4:=hwm (.mk k4 n4 b4 l4) (by simp)
 have w5:=hwm (.mk k5 n5 b5 l5) (by simp)
 have w6:=hwm (.mk k6 n6 b6 l6) (by simp)
 have w46:wfI (.mk 4 0 [] [.mk k4 n4 b4 l4,.mk k6 n6 b6 l6]):=⟨by decide,by simp,by simp,w4,w6,trivial⟩
 have hD:AP Tryz.prog 112 [itD (.mk k3 n3 b3 l3)] (.tup [.agg (eC (eZ (.mk k3 n3 b3 l3))),.int .i64 (match(ZT (.mk k3 n3 b3 l3)).2 with|true=>0|false=>3)]) []:=J0 _ w3
 have hR:AP Tryz.prog 112 [itD (.mk k5 n5 b5 l5)] (.tup [.agg (eC (eZ (.mk k5 n5 b5 l5))),.int .i64 (match(ZT (.mk k5 n5 b5 l5)).2 with|true=>0|false=>3)]) []:=J0 _ w5
 have hI:=LO _ w46
 have hL:=Vj [.mk k4 n4 b4 l4,.mk k6 n6 b6 l6] (by simp) ⟨w4,w6,trivial⟩
 have hW:=KM (XT (.mk k1 n1 b1 l1) (.mk k2 n2 b2 l2) (.mk k3 n3 b3 l3) (.mk k4 n4 b4 l4) (.mk k5 n5 b5 l5) (.mk k6 n6 b6 l6) (.mk k7 n7 b7 l7)) w1
 have hS:=hSame (XT (.mk k1 n1 b1 l1) (.mk k2 n2 b2 l2) (.mk k3 n3 b3 l3) (.mk k4 n4 b4 l4) (.mk k5 n5 b5 l5) (.mk k6 n6 b6 l6) (.mk k7 n7 b7 l7)) w1
 clear hSame hwm w3 w4 w5 w6 w46 w1 hws hlim hw
 unfold XT at *
 dsimp only[It.n]at *
 generalize eZ (.mk k3 n3 b3 l3)=dz at *
 generalize eZ (.mk k5 n5 b5 l5)=rz at *
 generalize (ZT (.mk k3 n3 b3 l3)).2=d2 at *
 generalize (ZT (.mk k5 n5 b5 l5)).2=r2 at *
 generalize Vq (.mk 4 0 [] [.mk k4 n4 b4 l4,.mk k6 n6 b6 l6])=u at *
 obtain⟨u,ut,uq,u2⟩:=u
 try dsimp only at *
 generalize YB ⟨n1,IntKind.i64.wrap (n2:Int),dz,rz,u,ut,uq,n7⟩=wr at *
 obtain⟨⟨wk,wn,wb,wl⟩,we⟩:=wr
 try dsimp only at *
 cases d2 with
 | false=>exact(Xs k n b _ _ oe k0 n0 b0 l0 k1 n1 b1 l1 k2 n2 b2 l2 k3 n3 b3 l3 k4 n4 b4 l4 k5 n5 b5 l5 k6 n6 b6 l6 k7 n7 b7 l7 dz.i dz.n dz.s dz.h dz.d rz.i rz.n rz.s rz.h rz.d u.i u.n u.s u.h u.d ut uq _ _ _ we wk wn wb _ _ hO t1 t2 hUo rfl rfl rfl rfl rfl rfl rfl hD hR hL hI hW hS).1 rfl
 | true=>
 cases r2 with
 | false=>exact(Xs k n b _ _ oe k0 n0 b0 l0 k1 n1 b1 l1 k2 n2 b2 l2 k3 n3 b3 l3 k4 n4 b4 l4 k5 n5 b5 l5 k6 n6 b6 l6 k7 n7 b7 l7 dz.i dz.n dz.s dz.h dz.d rz.i rz.n rz.s rz.h rz.d u.i u.n u.s u.h u.d ut uq _ _ _ we wk wn wb _ _ hO t1 t2 hUo rfl rfl rfl rfl rfl rfl rfl hD hR hL hI hW hS).2.1 rfl rfl
 | true=>
 cases u2 with
 | false=>exact(Xs k n b _ _ oe k0 n0 b0 l0 k1 n1 b1 l1 k2 n2 b2 l2 k3 n3 b3 l3 k4 n4 b4 l4 k5 n5 b5 l5 k6 n6 b6 l6 k7 n7 b7 l7 dz.i dz.n dz.s dz.h dz.d rz.i rz.n rz.s rz.h rz.d u.i u.n u.s u.h u.d ut uq _ _ _ we wk wn wb _ _ hO t1 t2 hUo rfl rfl rfl rfl rfl rfl rfl hD hR hL hI hW hS).2.2 rfl rfl rfl
 | true=>
 try dsimp only[Bool.and_self]
 cases t4:(we != 0) with
 | true=>exact(Xt k n b _ _ oe k0 n0 b0 l0 k1 n1 b1 l1 k2 n2 b2 l2 k3 n3 b3 l3 k4 n4 b4 l4 k5 n5 b5 l5 k6 n6 b6 l6 k7 n7 b7 l7 dz.i dz.n dz.s dz.h dz.d rz.i rz.n rz.s rz.h rz.d u.i u.n u.s u.h u.d ut uq _ _ _ we wk wn wb _ _ hO t1 t2 hUo rfl rfl rfl rfl rfl rfl rfl hD hR hL hI hW hS rfl rfl rfl).1 t4
 | false=>
 try dsimp only
 cases t5:It.beq (.mk wk wn wb wl) (.mk k n b l) with
 | false=>
  rw[t5]at hS
  exact(Xt k n b _ _ oe k0 n0 b0 l0 k1 n1 b1 l1 k2 n2 b2 l2 k3 n3 b3 l3 k4 n4 b4 l4 k5 n5 b5 l5 k6 n6 b6 l6 k7 n7 b7 l7 dz.i dz.n dz.s dz.h dz.d rz.i rz.n rz.s rz.h rz.d u.i u.n u.s u.h u.d ut uq _ _ _ we wk wn wb _ _ hO t1 t2 hUo rfl rfl rfl rfl rfl rfl rfl hD hR hL hI hW hS rfl rfl rfl).2.1 t4 hS
 | true=>
  rw[t5]at hS
  exact(Xt k n b _ _ oe k0 n0 b0 l0 k1 n1 b1 l1 k2 n2 b2 l2 k3 n3 b3 l3 k4 n4 b4 l4 k5 n5 b5 l5 k6 n6 b6 l6 k7 n7 b7 l7 dz.i dz.n dz.s dz.h dz.d rz.i rz.n rz.s rz.h rz.d u.i u.n u.s u.h u.d ut uq _ _ _ we wk wn wb _ _ hO t1 t2 hUo rfl rfl rfl rfl rfl rfl rfl hD hR hL hI hW hS rfl rfl rfl).2.2 t4 hS
theorem G2 {x:EidV}{t q:Nat}(h:Wz x t q=true):Vq (J4 x t q)=(x,t,q,true):=by
 obtain⟨h1,_,_⟩:=WA.1 h
 have hr:=Uq h1 (VP h1)
 have hz:Qo (Z5 x)=x:=by show(match(ZT (Z5 x)).2 with|true=>(ZT (Z5 x)).1|false=>YS)=x;rw[hr]
 unfold J4 Vq
 dsimp only
 have e:Jw (Z5 x) (.mk 0 t [] []) (.mk 0 q [] []) (.mk 4 0 [] [Z5 x,.mk 4 0 [] [.mk 0 t [] [],.mk 0 q [] []]])=true:=by
  unfold Jw
  rw[hz,hr]
  dsimp only[It.n]
  rw[h]
  exact J2 _
 rw[e,hz]
 rfl
theorem Of {p:PriV}(hs:p.sum=IntKind.i64.wrap ((p.sum.toNat:Nat):Int)){x:It}(h:YB p=(x,0)):QN x=(p,0):=by
 have hr:Yq p=true:=by
  unfold YB at h
  cases hr:Yq p with
  | true=>rfl
  | false=>rw[hr]at h;simp at h
 have h2:=h
 unfold YB at h2
 rw[hr]at h2
 have ho:=OY h2
 obtain⟨_,_,d1,d2,d3,_⟩:=W1 hr
 have r1:=Uq d1 (VP d1)
 have r2:=Uq d2 (VP d2)
 have r3:=G2 d3
 have e1:eZ (Z5 p.dest)=p.dest:=by unfold eZ;rw[r1]
 have e2:eZ (Z5 p.rep)=p.rep:=by unfold eZ;rw[r2]
 unfold J4 at r3
 unfold QN
 rw[ho]
 unfold Nl YA
 dsimp only
 have e:XT (.mk 0 p.fl [] []) (.mk 0 p.sum.toNat [] []) (Z5 p.dest) (Z5 p.src) (Z5 p.rep) (.mk 4 0 [] [.mk 0 p.t [] [],.mk 0 p.q [] []]) (.mk 0 p.life [] [])=p:=by
  unfold XT
  rw[e1,e2,r3]
  dsimp only[It.n]
  rw[<- hs]
 rw[e,r1,r2,r3,h]
 simp[J2]
theorem Wd {p:PriV}{x:It}(h:YB p=(x,0)):Yq p=true/\Vm (YA p) 2=(x,0):=by
 unfold YB at h
 cases hr:Yq p with
 | true=>rw[hr]at h;exact⟨rfl,h⟩
 | false=>rw[hr]at h;simp at h
theorem S1 {z:It}(hw:wfI z):(QN z).1.fl<18446744073709551616:=by
 have hsub:=QL z 2
 have hws:wfs z.l:=by obtain⟨k,n,b,l⟩:=z;exact hw.2.2.2
 unfold QN
 generalize Uo z 2=o at *
 have h0:pr0.fl<18446744073709551616:=by decide
 unfold Nl
 split
 ·exact h0
 ·split
  ·rename_i heq
   rw[heq]at hsub
   split
   ·exact h0
   ·split
    ·exact h0
    ·split
     ·exact h0
     ·exact LJ (Yt hws _ (hsub _ (List.mem_cons_of_mem _ (List.mem_cons_self ..))))
  ·exact h0
theorem Tf {p:PriV}(h:Yq p=true):(ZJ (YA p)).length<=1000000:=by
 obtain⟨h1,h2,h3,h4,h5,h6⟩:=W1 h
 obtain⟨i1,_,_⟩:=WA.1 h5
 have n1:=YP 7
 have n2:=YP p.fl
 have n3:=YP p.sum.toNat
 have n4:=Vr h3
 have n5:=Vr i1
 have n6:=Vr h4
 have n7:=J3 p.t p.q
 have n8:=YP p.life
 have e7:N2 p.t p.q=.mk 4 0 [] [.mk 0 p.t [] [],.mk 0 p.q [] []]:=rfl
 rw[e7]at n7
 simp only[YA,ZJ,List.length_append,List.length_nil,Nat.add_zero]
 omega
structure BunV where
 p:PriV
 bl:List BlkV
def Ur (k:Nat):Bool:=k==1||(k==6||(k==7||k==10))
def J5:List BlkV->List BlkV->Bool
 | _,[]=>true
 | pre,b::r=>ZU b&&(pre.all (fun c=>c.num != b.num&&(c.ty != b.ty || !Ur b.ty))&&J5 (pre++[b]) r)
def Og (l:List BlkV):Bool:=match l.getLast? with
 | none=>false
 | some b=>decide (l.length<=8)&&(b.ty==1&&(b.num==1&&J5 [] l))
theorem KN:∀ {l pre:List BlkV},J5 pre l=true->∀ b ∈ l,ZU b=true
 | [],_,_,b,hb=>by simp at hb
 | x::l,pre,h,b,hb=>by
  rw[J5]at h
  simp only[Bool.and_eq_true]at h
  rcases List.mem_cons.1 hb with rfl|hb
  ·exact h.1
  ·exact KN h.2.2 b hb
theorem Uy {l:List BlkV}(h:Og l=true):l.length<=8/\∀ b ∈ l,ZU b=true:=by
 unfold Og at h
 split at h
 ·cases h
 ·simp only[Bool.and_eq_true,decide_eq_true_eq]at h
  exact⟨h.1,KN h.2.2.2⟩
def Wo (b:BunV):List It:=(YB b.p).1::b.bl.map fun c=>(Yc c).1
def Qp (b:BunV):Bool:=(YB b.p).2==0&&b.bl.all fun c=>(Yc c).2==0
def Vt (b:BunV):List UInt8:=159::(ZJ (Wo b)++[255])
def Yl (b:BunV):Bool:=Og b.bl&&(Qp b&&decide (((ZJ (Wo b)).length:Int)<=598))
theorem O2:∀(l:List It) (k m:Nat),(∀ x ∈ l,Yz x 5=true/\Yw x=true/\Yf x<=k)->l.length*k<=m->∃ m',Yv l 2 m=some m'
 | [],k,m,_,_=>⟨m,by rw[Yv]⟩
 | x::l,k,m,h,hm=>by
  obtain⟨h1,h2,h3⟩:=h x (List.mem_cons_self ..)
  rw[List.length_cons,Nat.add_mul,Nat.one_mul]at hm
  obtain⟨m',h4⟩:=O2 l k (m-Yf x) (fun y hy=>h y (List.mem_cons_of_mem _ hy)) (by omega)
  refine⟨m',?_⟩
  rw[Yv,Kz,if_pos ⟨h1,by omega,h2⟩]
  exact h4
theorem W7 {l:List It}{a:Int}{x:It}(h:Vm l a=(x,0)):ZB x=true:=by
 unfold Vm at h
 split at h
 ·simp at h
 ·split at h
  ·simp at h
  ·split at h
   ·split at h
    ·rename_i hr
     simp only[Prod.mk.injEq,and_true]at h
     subst h;exact hr
    ·simp at h
   ·split at h
    ·simp at h
    ·split at h
     ·simp at h
     ·rename_i hr
      simp only[Prod.mk.injEq,and_true]at h
      subst h;exact hr
theorem Qh {x:It}(h:ZB x=true):Yw x=true:=by
 rw[Wc]at h
 simp only[Bool.and_eq_true]at h
 exact h.2.2
theorem N7 {c:BlkV}{x:It}(h:Yc c=(x,0)):Yz x 5=true/\Yw x=true/\Yf x<=24:=by
 obtain⟨_,hs⟩:=Vp h
 refine⟨?_,Qh (W7 hs),?_⟩
 ·rcases Ug hs with rfl|⟨s,_,rfl⟩
  ·simp[YC,Yz,YE]
  ·simp[VM,YC,Yz,YE]
 ·rcases Ug hs with rfl|⟨s,_,rfl⟩
  ·simp[YC,Yf,Z2]
  ·simp[VM,YC,Yf,Z2]
theorem IP (x:EidV):Yz (Z5 x) 4=true/\Yf (Z5 x)<=5:=by
 unfold Z5
 repeat' split
 all_goals simp[Yz,YE,Yf,Z2]
theorem LQ {p:PriV}{x:It}(h:YB p=(x,0)):Yz x 5=true/\Yw x=true/\Yf x<=24:=by
 obtain⟨_,hs⟩:=Wd h
 obtain⟨a1,a2⟩:=IP p.dest
 obtain⟨b1,b2⟩:=IP p.src
 obtain⟨c1,c2⟩:=IP p.rep
 refine⟨?_,Qh (W7 hs),?_⟩
 ·rcases Ug hs with rfl|⟨s,_,rfl⟩
  ·simp[YA,Yz,YE,a1,b1,c1]
  ·simp[VM,YA,Yz,YE,a1,b1,c1]
 ·rcases Ug hs with rfl|⟨s,_,rfl⟩
  ·simp[YA,Yf,Z2];omega
  ·simp[VM,YA,Yf,Z2];omega
theorem Tg {b:BunV}(hb:Yl b=true)(hw:wfs (Wo b)):Ye (Vt b) 0=(.mk 4 0 [] (Wo b),(Vt b).length,0):=by
 unfold Yl Qp at hb
 simp only[Bool.and_eq_true,List.all_eq_true,beq_iff_eq]at hb
 obtain⟨hf,⟨hp,hc⟩,_⟩:=hb
 have hl:=(Uy hf).1
 obtain⟨m',h⟩:=O2 (Wo b) 24 255 (fun x hx=>by
  unfold Wo at hx
  rcases List.mem_cons.1 hx with rfl|hx
  ·exact LQ (Prod.ext rfl hp)
  ·obtain⟨c,hcm,rfl⟩:=List.mem_map.1 hx
   exact N7 (Prod.ext rfl (hc c hcm))) (by unfold Wo;simp;omega)
 have:=NV hw h
 unfold Vt
 rw[this]
 simp
end Go.Proofs.YtmljabhmajehnaaGreatDoor
end
