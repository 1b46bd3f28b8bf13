/- Package canon: a first block, read, by cases. -/
import Derived.Test.YtakblclkflnnpaaGreatDoorP29
import Derived.Test.YtakblclkflnnpaaGreatDoorP12
set_option linter.unusedVariables false
set_option linter.unusedSimpArgs false
section
open Go.RowKit Go.Pl Go.Av
namespace Go.Proofs.YtakblclkflnnpaaGreatDoor
set_option maxHeartbeats 4000000
theorem Zfy [Known][KnownU8](k:Int)(n:Nat)(b:List UInt8)(xl:List E)(L:List E)(e:Int)(k0:Int)(n0:Nat)(b0:List UInt8)(l0:List It)(k1:Int)(n1:Nat)(b1:List UInt8)(l1:List It)(k2:Int)(n2:Nat)(b2:List UInt8)(l2:List It)(k3:Int)(n3:Nat)(b3:List UInt8)(l3:List It)(k4:Int)(n4:Nat)(b4:List UInt8)(l4:List It)(k5:Int)(n5:Nat)(b5:List UInt8)(l5:List It)(k6:Int)(n6:Nat)(b6:List UInt8)(l6:List It)(k7:Int)(n7:Nat)(b7:List UInt8)(l7:List It)(di:Bool)(dn ds:Nat)(dh dd:List UInt8)(ri:Bool)(rn rs:Nat)(rh rd:List UInt8)(ui:Bool)(un us:Nat)(uh ud:List UInt8)(ut uq:Nat)(de re ie we:Int)(wk:Int)(wn:Nat)(wb:List UInt8)(wl:List E)(s:Bool)(hO:AP Tryz.prog 84 [.agg [.int .i64 k,.int .u64 (n:Int),byE b,.sl .ext xl],.int .i64 2] (.tup [.sl .ext L,.int .i64 e]) [])(t1:(e != 0)=false)(t2:((L.length:Int) != 8)=false)(hU:Uni 4 L)(hv1:L[(1:Int).toNat]?=some (.agg [.int .i64 k1,.int .u64 (n1:Int),.sl (b1.map E.byte),.sl (Zas l1)]))(hv2:L[(2:Int).toNat]?=some (.agg [.int .i64 k2,.int .u64 (n2:Int),.sl (b2.map E.byte),.sl (Zas l2)]))(hv3:L[(3:Int).toNat]?=some (.agg [.int .i64 k3,.int .u64 (n3:Int),.sl (b3.map E.byte),.sl (Zas l3)]))(hv4:L[(4:Int).toNat]?=some (.agg [.int .i64 k4,.int .u64 (n4:Int),.sl (b4.map E.byte),.sl (Zas l4)]))(hv5:L[(5:Int).toNat]?=some (.agg [.int .i64 k5,.int .u64 (n5:Int),.sl (b5.map E.byte),.sl (Zas l5)]))(hv6:L[(6:Int).toNat]?=some (.agg [.int .i64 k6,.int .u64 (n6:Int),.sl (b6.map E.byte),.sl (Zas l6)]))(hv7:L[(7:Int).toNat]?=some (.agg [.int .i64 k7,.int .u64 (n7:Int),.sl (b7.map E.byte),.sl (Zas l7)]))(hD:AP Tryz.prog 85 [.agg [.int .i64 k3,.int .u64 (n3:Int),.sl .ext (b3.map E.byte),.sl .ext (Zas l3)]] (.tup [.agg [.bool di,.int .u64 (dn:Int),.int .u64 (ds:Int),.str dh,.str dd],.int .i64 de]) [])(hR:AP Tryz.prog 85 [.agg [.int .i64 k5,.int .u64 (n5:Int),.sl .ext (b5.map E.byte),.sl .ext (Zas l5)]] (.tup [.agg [.bool ri,.int .u64 (rn:Int),.int .u64 (rs:Int),.str rh,.str rd],.int .i64 re]) [])(hL:AP Tryz.prog 87 [.sl .ext [.agg [.int .i64 k4,.int .u64 (n4:Int),.sl (b4.map E.byte),.sl (Zas l4)],.agg [.int .i64 k6,.int .u64 (n6:Int),.sl (b6.map E.byte),.sl (Zas l6)]]] (.agg [.int .i64 4,.int .u64 0,.sl .ext [],.sl .ext [.agg [.int .i64 k4,.int .u64 (n4:Int),.sl (b4.map E.byte),.sl (Zas l4)],.agg [.int .i64 k6,.int .u64 (n6:Int),.sl (b6.map E.byte),.sl (Zas l6)]]]) [])(hI:AP Tryz.prog 86 [.agg [.int .i64 4,.int .u64 0,.sl .ext [],.sl .ext [.agg [.int .i64 k4,.int .u64 (n4:Int),.sl (b4.map E.byte),.sl (Zas l4)],.agg [.int .i64 k6,.int .u64 (n6:Int),.sl (b6.map E.byte),.sl (Zas l6)]]]] (.tup [.agg [.bool ui,.int .u64 (un:Int),.int .u64 (us:Int),.str uh,.str ud,.int .u64 (ut:Int),.int .u64 (uq:Int)],.int .i64 ie]) [])(hW:AP Tryz.prog 16 [.agg [.int .u64 (n1:Int),.int .i64 (IntKind.i64.wrap (n2:Int)),.bool di,.int .u64 (dn:Int),.int .u64 (ds:Int),.str dh,.str dd,.bool ri,.int .u64 (rn:Int),.int .u64 (rs:Int),.str rh,.str rd,.bool ui,.int .u64 (un:Int),.int .u64 (us:Int),.str uh,.str ud,.int .u64 (ut:Int),.int .u64 (uq:Int),.int .u64 (n7:Int)]] (.tup [.agg [.int .i64 wk,.int .u64 (wn:Int),byE wb,.sl .ext wl],.int .i64 we]) [])(hS:AP Tryz.prog 88 [.agg [.int .i64 wk,.int .u64 (wn:Int),byE wb,.sl .ext wl],.agg [.int .i64 k,.int .u64 (n:Int),byE b,.sl .ext xl]] (.bool s) []) :
  (∀(c1:(de != 0)=true),
  AP Tryz.prog 17 [.agg [.int .i64 k,.int .u64 (n:Int),byE b,.sl .ext xl]] (.tup [.agg [.int .u64 0,.int .i64 0,.bool false,.int .u64 0,.int .u64 0,.str [],.str [],.bool false,.int .u64 0,.int .u64 0,.str [],.str [],.bool false,.int .u64 0,.int .u64 0,.str [],.str [],.int .u64 0,.int .u64 0,.int .u64 0],.int .i64 3]) []) /\
  (∀(c1:(de != 0)=false) (c2:(re != 0)=true),
  AP Tryz.prog 17 [.agg [.int .i64 k,.int .u64 (n:Int),byE b,.sl .ext xl]] (.tup [.agg [.int .u64 0,.int .i64 0,.bool false,.int .u64 0,.int .u64 0,.str [],.str [],.bool false,.int .u64 0,.int .u64 0,.str [],.str [],.bool false,.int .u64 0,.int .u64 0,.str [],.str [],.int .u64 0,.int .u64 0,.int .u64 0],.int .i64 3]) []) /\
  (∀(c1:(de != 0)=false) (c2:(re != 0)=false) (c3:(ie != 0)=true),
  AP Tryz.prog 17 [.agg [.int .i64 k,.int .u64 (n:Int),byE b,.sl .ext xl]] (.tup [.agg [.int .u64 0,.int .i64 0,.bool false,.int .u64 0,.int .u64 0,.str [],.str [],.bool false,.int .u64 0,.int .u64 0,.str [],.str [],.bool false,.int .u64 0,.int .u64 0,.str [],.str [],.int .u64 0,.int .u64 0,.int .u64 0],.int .i64 3]) []):=by
 refine⟨fun c1=>?_,fun c1 c2=>?_,fun c1 c2 c3=>?_⟩
 all_goals
  refine AP.ofA ?_
  refine Zap Tryz.func17 rfl Tryz.ntmps17 rfl rfl ?_
  repeat'(first|(apply Zaa (hO);kernel_rfl;(iterate 4 exact Z))|(apply Zaa (hD);kernel_rfl;(iterate 4 exact Z))|(apply Zaa (hR);kernel_rfl;(iterate 4 exact Z))|(apply Zaa (hL);kernel_rfl;(iterate 4 exact Z))|(apply Zaa (hI);kernel_rfl;(iterate 4 exact Z))|(apply Zaa (hW);kernel_rfl;(iterate 4 exact Z))|(apply Zaj Zab;exact Z)|(apply Zai Zab;exact Z)|(apply Zay Zab;exact Z)|(apply Zaf;(iterate 3 exact Z);exact Go.Zqn)|(apply Zao;(iterate 3 exact Z);exact Go.Zqn)|(apply Zak;exact Z;exact Go.Zqn;exact Z;exact Z)|(apply Zah;exact Z;exact Go.Zqn;exact Z;exact Z)|(apply Zac;exact Z;exact Go.Zqn)|(apply Zae;exact Z;exact Go.Zqn)|(apply Zal Zab;(iterate 4 exact Z))|(apply Za5 Zab;(iterate 12 exact Z))|(apply Zam 14 ZaR;decide +kernel;kernel_rfl;kernel_rfl;kernel_rfl;exact Z;exact Z)|(apply Zam 18 ZaR;decide +kernel;kernel_rfl;kernel_rfl;kernel_rfl;exact Z;exact Z)|(apply Zar;(iterate 4 exact Z))|exact AE.nil _ _ _ _|(apply Zav;exact Z)|(apply Za8;exact Z)|(apply Zfe;exact Z)|(apply Zaz;exact Z;exact Z;decide +kernel;exact Z)|(apply ZaA;exact Z)|(apply Zbp;exact Z)|(apply Zh0;exact Z)|exact AO.nil _ _ _|(apply Zaq;(decide +kernel))|(apply ZaZ;(iterate 3 exact Z))|exact AOs.nil|exact ZaI rfl rfl|exact ZdO rfl rfl rfl rfl rfl|exact Zca rfl rfl|exact ZfU rfl|(apply Zat Zab;(iterate 6 exact Z);(first|exact Go.Zqn|rotate_left);(first|with_reducible assumption|decide +kernel|exact Z);(first|exact Zag rfl|with_reducible assumption|decide +kernel|rotate_left)))
  all_goals(apply Zax [];(apply Zad Zab;exact Z);(iterate 4 exact Z))
  all_goals first|rfl|(exfalso;simp_all;done)
theorem Zfz [Known][KnownU8](k:Int)(n:Nat)(b:List UInt8)(xl:List E)(L:List E)(e:Int)(k0:Int)(n0:Nat)(b0:List UInt8)(l0:List It)(k1:Int)(n1:Nat)(b1:List UInt8)(l1:List It)(k2:Int)(n2:Nat)(b2:List UInt8)(l2:List It)(k3:Int)(n3:Nat)(b3:List UInt8)(l3:List It)(k4:Int)(n4:Nat)(b4:List UInt8)(l4:List It)(k5:Int)(n5:Nat)(b5:List UInt8)(l5:List It)(k6:Int)(n6:Nat)(b6:List UInt8)(l6:List It)(k7:Int)(n7:Nat)(b7:List UInt8)(l7:List It)(di:Bool)(dn ds:Nat)(dh dd:List UInt8)(ri:Bool)(rn rs:Nat)(rh rd:List UInt8)(ui:Bool)(un us:Nat)(uh ud:List UInt8)(ut uq:Nat)(de re ie we:Int)(wk:Int)(wn:Nat)(wb:List UInt8)(wl:List E)(s:Bool)(hO:AP Tryz.prog 84 [.agg [.int .i64 k,.int .u64 (n:Int),byE b,.sl .ext xl],.int .i64 2] (.tup [.sl .ext L,.int .i64 e]) [])(t1:(e != 0)=false)(t2:((L.length:Int) != 8)=false)(hU:Uni 4 L)(hv1:L[(1:Int).toNat]?=some (.agg [.int .i64 k1,.int .u64 (n1:Int),.sl (b1.map E.byte),.sl (Zas l1)]))(hv2:L[(2:Int).toNat]?=some (.agg [.int .i64 k2,.int .u64 (n2:Int),.sl (b2.map E.byte),.sl (Zas l2)]))(hv3:L[(3:Int).toNat]?=some (.agg [.int .i64 k3,.int .u64 (n3:Int),.sl (b3.map E.byte),.sl (Zas l3)]))(hv4:L[(4:Int).toNat]?=some (.agg [.int .i64 k4,.int .u64 (n4:Int),.sl (b4.map E.byte),.sl (Zas l4)]))(hv5:L[(5:Int).toNat]?=some (.agg [.int .i64 k5,.int .u64 (n5:Int),.sl (b5.map E.byte),.sl (Zas l5)]))(hv6:L[(6:Int).toNat]?=some (.agg [.int .i64 k6,.int .u64 (n6:Int),.sl (b6.map E.byte),.sl (Zas l6)]))(hv7:L[(7:Int).toNat]?=some (.agg [.int .i64 k7,.int .u64 (n7:Int),.sl (b7.map E.byte),.sl (Zas l7)]))(hD:AP Tryz.prog 85 [.agg [.int .i64 k3,.int .u64 (n3:Int),.sl .ext (b3.map E.byte),.sl .ext (Zas l3)]] (.tup [.agg [.bool di,.int .u64 (dn:Int),.int .u64 (ds:Int),.str dh,.str dd],.int .i64 de]) [])(hR:AP Tryz.prog 85 [.agg [.int .i64 k5,.int .u64 (n5:Int),.sl .ext (b5.map E.byte),.sl .ext (Zas l5)]] (.tup [.agg [.bool ri,.int .u64 (rn:Int),.int .u64 (rs:Int),.str rh,.str rd],.int .i64 re]) [])(hL:AP Tryz.prog 87 [.sl .ext [.agg [.int .i64 k4,.int .u64 (n4:Int),.sl (b4.map E.byte),.sl (Zas l4)],.agg [.int .i64 k6,.int .u64 (n6:Int),.sl (b6.map E.byte),.sl (Zas l6)]]] (.agg [.int .i64 4,.int .u64 0,.sl .ext [],.sl .ext [.agg [.int .i64 k4,.int .u64 (n4:Int),.sl (b4.map E.byte),.sl (Zas l4)],.agg [.int .i64 k6,.int .u64 (n6:Int),.sl (b6.map E.byte),.sl (Zas l6)]]]) [])(hI:AP Tryz.prog 86 [.agg [.int .i64 4,.int .u64 0,.sl .ext [],.sl .ext [.agg [.int .i64 k4,.int .u64 (n4:Int),.sl (b4.map E.byte),.sl (Zas l4)],.agg [.int .i64 k6,.int .u64 (n6:Int),.sl (b6.map E.byte),.sl (Zas l6)]]]] (.tup [.agg [.bool ui,.int .u64 (un:Int),.int .u64 (us:Int),.str uh,.str ud,.int .u64 (ut:Int),.int .u64 (uq:Int)],.int .i64 ie]) [])(hW:AP Tryz.prog 16 [.agg [.int .u64 (n1:Int),.int .i64 (IntKind.i64.wrap (n2:Int)),.bool di,.int .u64 (dn:Int),.int .u64 (ds:Int),.str dh,.str dd,.bool ri,.int .u64 (rn:Int),.int .u64 (rs:Int),.str rh,.str rd,.bool ui,.int .u64 (un:Int),.int .u64 (us:Int),.str uh,.str ud,.int .u64 (ut:Int),.int .u64 (uq:Int),.int .u64 (n7:Int)]] (.tup [.agg [.int .i64 wk,.int .u64 (wn:Int),byE wb,.sl .ext wl],.int .i64 we]) [])(hS:AP Tryz.prog 88 [.agg [.int .i64 wk,.int .u64 (wn:Int),byE wb,.sl .ext wl],.agg [.int .i64 k,.int .u64 (n:Int),byE b,.sl .ext xl]] (.bool s) [])(c1:(de != 0)=false)(c2:(re != 0)=false)(c3:(ie != 0)=false) :
  (∀(c4:(we != 0)=true),
  AP Tryz.prog 17 [.agg [.int .i64 k,.int .u64 (n:Int),byE b,.sl .ext xl]] (.tup [.agg [.int .u64 0,.int .i64 0,.bool false,.int .u64 0,.int .u64 0,.str [],.str [],.bool false,.int .u64 0,.int .u64 0,.str [],.str [],.bool false,.int .u64 0,.int .u64 0,.str [],.str [],.int .u64 0,.int .u64 0,.int .u64 0],.int .i64 3]) []) /\
  (∀(c4:(we != 0)=false) (hSn:AP Tryz.prog 88 [.agg [.int .i64 wk,.int .u64 (wn:Int),byE wb,.sl .ext wl],.agg [.int .i64 k,.int .u64 (n:Int),byE b,.sl .ext xl]] (.bool false) []),
  AP Tryz.prog 17 [.agg [.int .i64 k,.int .u64 (n:Int),byE b,.sl .ext xl]] (.tup [.agg [.int .u64 0,.int .i64 0,.bool false,.int .u64 0,.int .u64 0,.str [],.str [],.bool false,.int .u64 0,.int .u64 0,.str [],.str [],.bool false,.int .u64 0,.int .u64 0,.str [],.str [],.int .u64 0,.int .u64 0,.int .u64 0],.int .i64 3]) []) /\
  (∀(c4:(we != 0)=false) (hSn:AP Tryz.prog 88 [.agg [.int .i64 wk,.int .u64 (wn:Int),byE wb,.sl .ext wl],.agg [.int .i64 k,.int .u64 (n:Int),byE b,.sl .ext xl]] (.bool true) []),
  AP Tryz.prog 17 [.agg [.int .i64 k,.int .u64 (n:Int),byE b,.sl .ext xl]] (.tup [.agg [.int .u64 (n1:Int),.int .i64 (IntKind.i64.wrap (n2:Int)),.bool di,.int .u64 (dn:Int),.int .u64 (ds:Int),.str dh,.str dd,.bool ri,.int .u64 (rn:Int),.int .u64 (rs:Int),.str rh,.str rd,.bool ui,.int .u64 (un:Int),.int .u64 (us:Int),.str uh,.str ud,.int .u64 (ut:Int),.int .u64 (uq:Int),.int .u64 (n7:Int)],.int .i64 0]) []):=by
 refine⟨fun c4=>?_,fun c4 hSn=>?_,fun c4 hSn=>?_⟩
 all_goals
  refine AP.ofA ?_
  refine Zap Tryz.func17 rfl Tryz.ntmps17 rfl rfl ?_
  repeat'(first|(apply Zaa (hO);kernel_rfl;(iterate 4 exact Z))|(apply Zaa (hD);kernel_rfl;(iterate 4 exact Z))|(apply Zaa (hR);kernel_rfl;(iterate 4 exact Z))|(apply Zaa (hL);kernel_rfl;(iterate 4 exact Z))|(apply Zaa (hI);kernel_rfl;(iterate 4 exact Z))|(apply Zaa (hW);kernel_rfl;(iterate 4 exact Z))|(apply Zaa (hSn);kernel_rfl;(iterate 4 exact Z))|(apply Zaj Zab;exact Z)|(apply Zai Zab;exact Z)|(apply Zay Zab;exact Z)|(apply Zaf;(iterate 3 exact Z);exact Go.Zqn)|(apply Zao;(iterate 3 exact Z);exact Go.Zqn)|(apply Zak;exact Z;exact Go.Zqn;exact Z;exact Z)|(apply Zah;exact Z;exact Go.Zqn;exact Z;exact Z)|(apply Zac;exact Z;exact Go.Zqn)|(apply Zae;exact Z;exact Go.Zqn)|(apply Zal Zab;(iterate 4 exact Z))|(apply Za5 Zab;(iterate 12 exact Z))|(apply Zam 14 ZaR;decide +kernel;kernel_rfl;kernel_rfl;kernel_rfl;exact Z;exact Z)|(apply Zam 18 ZaR;decide +kernel;kernel_rfl;kernel_rfl;kernel_rfl;exact Z;exact Z)|(apply Zar;(iterate 4 exact Z))|exact AE.nil _ _ _ _|(apply Zav;exact Z)|(apply Za8;exact Z)|(apply Zfe;exact Z)|(apply Zaz;exact Z;exact Z;decide +kernel;exact Z)|(apply ZaA;exact Z)|(apply Zbp;exact Z)|(apply Zh0;exact Z)|exact AO.nil _ _ _|(apply Zaq;(decide +kernel))|(apply ZaZ;(iterate 3 exact Z))|exact AOs.nil|exact ZaI rfl rfl|exact ZdO rfl rfl rfl rfl rfl|exact Zca rfl rfl|exact ZfU rfl|(apply Zat Zab;(iterate 6 exact Z);(first|exact Go.Zqn|rotate_left);(first|with_reducible assumption|decide +kernel|exact Z);(first|exact Zag rfl|with_reducible assumption|decide +kernel|rotate_left)))
  all_goals(apply Zax [];(apply Zad Zab;exact Z);(iterate 4 exact Z))
  all_goals first|rfl|(exfalso;simp_all;done)
abbrev ZeN (y:It):EidV:=match(ZaQ y).2 with|true=>(ZaQ y).1|false=>Zcf
def ZfA (y p r x:It):Bool:=match(ZaQ y).2,Zb9 (ZeN y) p.n r.n with
 | true,true=>It.beq (ZfO (ZeN y) p.n r.n) x
 | _,_=>false
abbrev Zo6 (x:EidV)(t q:Nat)(b:Bool):D:=.tup [.agg (iC (match b with|true=>x|false=>Zcf) (match b with|true=>t|false=>0) (match b with|true=>q|false=>0)),.int .i64 (match b with|true=>0|false=>3)]
def Zhy:It->Bool
 | .mk k _ _ [_,.mk k2 _ _ [_,_]]=>!(k==4&&k2==4)
 | _=>true
theorem ZjR [Known][KnownU8](x:It)(h:Zhy x=true):AP Tryz.prog 86 [itD x] (Zo6 Zcf 0 0 false) []:=by
 show AP Tryz.prog _ _ (.tup [.agg [.bool false,.int .u64 0,.int .u64 0,.str [],.str [],.int .u64 0,.int .u64 0],.int .i64 3]) []
 obtain⟨k,n,b,l⟩:=x
 by_cases hk:k=4
 ·have t1:(k != 4)=false:=by simpa using hk
  by_cases hl:l.length=2
  ·obtain⟨y,z,rfl⟩:∃ y z,l=[y,z]:=by
    match l,hl with
    | [y,z],_=>exact⟨y,z,rfl⟩
   have t2:(((Zas [y,z]).length:Int) != 2)=false:=rfl
   have hU:=ZbG [y,z]
   obtain⟨ky,ny,bY,ly⟩:=y
   obtain⟨kz,nz,bz,lz⟩:=z
   by_cases hk2:kz=4
   ·have t3:(kz != 4)=false:=by simpa using hk2
    have hl2:lz.length ≠ 2:=by
     intro e
     match lz,e with
     | [p,r],_=>simp[Zhy,hk,hk2]at h
    have t4:(((Zas lz).length:Int) != 2)=true:=by rw[Zan];simp;omega
    refine AP.ofA ?_
    refine Zap Tryz.func86 rfl Tryz.ntmps86 rfl rfl ?_
    repeat'(first|(apply Zaj Zab;exact Z)|(apply Zai Zab;exact Z)|(apply Zay Zab;exact Z)|(apply Zaf;(iterate 3 exact Z);exact Go.Zqn)|(apply Zah;exact Z;exact Go.Zqn;exact Z;exact Z)|(apply Zac;exact Z;exact Go.Zqn)|(apply Zal Zab;(iterate 4 exact Z))|(apply Zat Zab;(iterate 6 exact Z);(first|exact Go.Zqn|rotate_left);(first|with_reducible assumption|decide +kernel|exact Z);(first|exact Zag rfl|with_reducible assumption|decide +kernel|rotate_left)))
    all_goals(apply Zax [];(apply Zad Zab;exact Z);(iterate 4 exact Z))
    all_goals rfl
   ·have t3:(kz != 4)=true:=by simpa using hk2
    refine AP.ofA ?_
    refine Zap Tryz.func86 rfl Tryz.ntmps86 rfl rfl ?_
    repeat'(first|(apply Zaj Zab;exact Z)|(apply Zai Zab;exact Z)|(apply Zay Zab;exact Z)|(apply Zaf;(iterate 3 exact Z);exact Go.Zqn)|(apply Zao;(iterate 3 exact Z);exact Go.Zqn)|(apply Zak;exact Z;exact Go.Zqn;exact Z;exact Z)|(apply Zah;exact Z;exact Go.Zqn;exact Z;exact Z)|(apply Zac;exact Z;exact Go.Zqn)|(apply Zal Zab;(iterate 4 exact Z))|(apply Zat Zab;(iterate 6 exact Z);(first|exact Go.Zqn|rotate_left);(first|with_reducible assumption|decide +kernel|exact Z);(first|exact Zag rfl|with_reducible assumption|decide +kernel|rotate_left)))
    all_goals(apply Zax [];(apply Zad Zab;exact Z);(iterate 4 exact Z))
    all_goals rfl
  ·have t2:(((Zas l).length:Int) != 2)=true:=by rw[Zan];simp;omega
   refine AP.ofA ?_
   refine Zap Tryz.func86 rfl Tryz.ntmps86 rfl rfl ?_
   repeat'(first|(apply Zaj Zab;exact Z)|(apply Zai Zab;exact Z)|(apply Zay Zab;exact Z)|(apply Zaf;(iterate 3 exact Z);exact Go.Zqn)|(apply Zao;(iterate 3 exact Z);exact Go.Zqn)|(apply Zak;exact Z;exact Go.Zqn;exact Z;exact Z)|(apply Zah;exact Z;exact Go.Zqn;exact Z;exact Z)|(apply Zac;exact Z;exact Go.Zqn)|(apply Zal Zab;(iterate 4 exact Z)))
   all_goals(apply Zax [];(apply Zad Zab;exact Z);(iterate 4 exact Z))
   all_goals rfl
 ·have t1:(k != 4)=true:=by simpa using hk
  refine AP.ofA ?_
  refine Zap Tryz.func86 rfl Tryz.ntmps86 rfl rfl ?_
  repeat'(first|(apply Zaj Zab;exact Z)|(apply Zai Zab;exact Z)|(apply Zay Zab;exact Z)|(apply Zao;(iterate 3 exact Z);exact Go.Zqn)|(apply Zak;exact Z;exact Go.Zqn;exact Z;exact Z)|(apply Zac;exact Z;exact Go.Zqn))
  all_goals(apply Zax [];(apply Zad Zab;exact Z);(iterate 4 exact Z))
  all_goals rfl
theorem Zpw [Known](y z:It)(n:Nat)(b:List UInt8)(n2:Nat)(b2:List UInt8)(kp:Int)(np:Nat)(bp:List UInt8)(lp:List It)(kr:Int)(nr:Nat)(br:List UInt8)(lr:List It)(c:Int)
  (hE:AP Tryz.prog 85 [itD y] (.tup [.agg (eC Zcf),.int .i64 3]) []) (hW:AP Tryz.prog 82 [.agg (iC Zcf np nr)] (.tup [itD z,.int .i64 c]) []) :
  AP Tryz.prog 86 [itD (.mk 4 n b [y,.mk 4 n2 b2 [.mk kp np bp lp,.mk kr nr br lr]])] (.tup [.agg (iC Zcf 0 0),.int .i64 3]) []:=by
 have hU:=ZbG [y,.mk 4 n2 b2 [.mk kp np bp lp,.mk kr nr br lr]]
 have hU2:=ZbG [.mk kp np bp lp,.mk kr nr br lr]
 have t2:(((Zas [y,.mk 4 n2 b2 [.mk kp np bp lp,.mk kr nr br lr]]).length:Int) != 2)=false:=rfl
 have t3:(((Zas [.mk kp np bp lp,.mk kr nr br lr]).length:Int) != 2)=false:=rfl
 obtain⟨yk,yn,yb,yl⟩:=y
 obtain⟨zk,zn,zb,zl⟩:=z
 replace hE:AP Tryz.prog _ [.agg [.int .i64 yk,.int .u64 (yn:Int),byE yb,.sl .ext (Zas yl)]] (.tup [.agg [.bool false,.int .u64 0,.int .u64 0,.str [],.str []],.int .i64 3]) []:=hE
 replace hW:AP Tryz.prog _ [.agg [.bool false,.int .u64 0,.int .u64 0,.str [],.str [],.int .u64 (np:Int),.int .u64 (nr:Int)]] (.tup [.agg [.int .i64 zk,.int .u64 (zn:Int),byE zb,.sl .ext (Zas zl)],.int .i64 c]) []:=hW
 refine AP.ofA ?_
 refine Zap Tryz.func86 rfl Tryz.ntmps86 rfl rfl ?_
 repeat'(first|(apply Zaa (hE);kernel_rfl;(iterate 4 exact Z))|(apply Zaa (hW);kernel_rfl;(iterate 4 exact Z))|(apply Zaj Zab;exact Z)|(apply Zai Zab;exact Z)|(apply Zay Zab;exact Z)|(apply Zaf;(iterate 3 exact Z);exact Go.Zqn)|(apply Zao;(iterate 3 exact Z);exact Go.Zqn)|(apply Zak;exact Z;exact Go.Zqn;exact Z;exact Z)|(apply Zah;exact Z;exact Go.Zqn;exact Z;exact Z)|(apply Zac;exact Z;exact Go.Zqn)|(apply Zae;exact Z;exact Go.Zqn)|(apply Zal Zab;(iterate 4 exact Z))|(apply Zam 19 ZaR;decide +kernel;kernel_rfl;kernel_rfl;kernel_rfl;exact Z;exact Z)|(apply Zar;(iterate 4 exact Z))|exact AE.nil _ _ _ _|(apply Zav;exact Z)|(apply Za8;exact Z)|(apply Zaz;exact Z;exact Z;decide +kernel;exact Z)|(apply ZaA;exact Z)|(apply Zbp;exact Z)|exact AO.nil _ _ _|(apply Zaq;(decide +kernel))|(apply ZaZ;(iterate 3 exact Z))|exact AOs.nil|exact ZaI rfl rfl|exact Zca rfl rfl|(apply Zat Zab;(iterate 6 exact Z);(first|exact Go.Zqn|rotate_left);(first|with_reducible assumption|decide +kernel|exact Z);(first|exact Zag rfl|with_reducible assumption|decide +kernel|rotate_left)))
 all_goals(apply Zax [];(apply Zad Zab;exact Z);(iterate 4 exact Z))
 all_goals rfl
theorem Zpx [Known](x:EidV)(y z:It)(n:Nat)(b:List UInt8)(n2:Nat)(b2:List UInt8)(kp:Int)(np:Nat)(bp:List UInt8)(lp:List It)(kr:Int)(nr:Nat)(br:List UInt8)(lr:List It)
  (hE:AP Tryz.prog 85 [itD y] (.tup [.agg (eC x),.int .i64 0]) []) (hW:AP Tryz.prog 82 [.agg (iC x np nr)] (.tup [itD z,.int .i64 3]) []) :
  AP Tryz.prog 86 [itD (.mk 4 n b [y,.mk 4 n2 b2 [.mk kp np bp lp,.mk kr nr br lr]])] (.tup [.agg (iC Zcf 0 0),.int .i64 3]) []:=by
 have hU:=ZbG [y,.mk 4 n2 b2 [.mk kp np bp lp,.mk kr nr br lr]]
 have hU2:=ZbG [.mk kp np bp lp,.mk kr nr br lr]
 have t2:(((Zas [y,.mk 4 n2 b2 [.mk kp np bp lp,.mk kr nr br lr]]).length:Int) != 2)=false:=rfl
 have t3:(((Zas [.mk kp np bp lp,.mk kr nr br lr]).length:Int) != 2)=false:=rfl
 obtain⟨yk,yn,yb,yl⟩:=y
 obtain⟨zk,zn,zb,zl⟩:=z
 obtain⟨xi,xn,xs,xh,xd⟩:=x
 replace hE:AP Tryz.prog _ [.agg [.int .i64 yk,.int .u64 (yn:Int),byE yb,.sl .ext (Zas yl)]] (.tup [.agg [.bool xi,.int .u64 (xn:Int),.int .u64 (xs:Int),.str xh,.str xd],.int .i64 0]) []:=hE
 replace hW:AP Tryz.prog _ [.agg [.bool xi,.int .u64 (xn:Int),.int .u64 (xs:Int),.str xh,.str xd,.int .u64 (np:Int),.int .u64 (nr:Int)]] (.tup [.agg [.int .i64 zk,.int .u64 (zn:Int),byE zb,.sl .ext (Zas zl)],.int .i64 3]) []:=hW
 refine AP.ofA ?_
 refine Zap Tryz.func86 rfl Tryz.ntmps86 rfl rfl ?_
 repeat'(first|(apply Zaa (hE);kernel_rfl;(iterate 4 exact Z))|(apply Zaa (hW);kernel_rfl;(iterate 4 exact Z))|(apply Zaj Zab;exact Z)|(apply Zai Zab;exact Z)|(apply Zay Zab;exact Z)|(apply Zaf;(iterate 3 exact Z);exact Go.Zqn)|(apply Zao;(iterate 3 exact Z);exact Go.Zqn)|(apply Zak;exact Z;exact Go.Zqn;exact Z;exact Z)|(apply Zah;exact Z;exact Go.Zqn;exact Z;exact Z)|(apply Zac;exact Z;exact Go.Zqn)|(apply Zae;exact Z;exact Go.Zqn)|(apply Zal Zab;(iterate 4 exact Z))|(apply Zam 19 ZaR;decide +kernel;kernel_rfl;kernel_rfl;kernel_rfl;exact Z;exact Z)|(apply Zar;(iterate 4 exact Z))|exact AE.nil _ _ _ _|(apply Zav;exact Z)|(apply Za8;exact Z)|(apply Zaz;exact Z;exact Z;decide +kernel;exact Z)|(apply ZaA;exact Z)|(apply Zbp;exact Z)|exact AO.nil _ _ _|(apply Zaq;(decide +kernel))|(apply ZaZ;(iterate 3 exact Z))|exact AOs.nil|exact ZaI rfl rfl|exact Zca rfl rfl|(apply Zat Zab;(iterate 6 exact Z);(first|exact Go.Zqn|rotate_left);(first|with_reducible assumption|decide +kernel|exact Z);(first|exact Zag rfl|with_reducible assumption|decide +kernel|rotate_left)))
 all_goals(apply Zax [];(apply Zad Zab;exact Z);(iterate 4 exact Z))
 all_goals rfl
theorem Zpy [Known](x:EidV)(y z:It)(n:Nat)(b:List UInt8)(n2:Nat)(b2:List UInt8)(kp:Int)(np:Nat)(bp:List UInt8)(lp:List It)(kr:Int)(nr:Nat)(br:List UInt8)(lr:List It)(R:Bool)
  (hE:AP Tryz.prog 85 [itD y] (.tup [.agg (eC x),.int .i64 0]) []) (hW:AP Tryz.prog 82 [.agg (iC x np nr)] (.tup [itD z,.int .i64 0]) [])
  (hS:AP Tryz.prog 88 [itD z,itD (.mk 4 n b [y,.mk 4 n2 b2 [.mk kp np bp lp,.mk kr nr br lr]])] (.bool R) []) :
  AP Tryz.prog 86 [itD (.mk 4 n b [y,.mk 4 n2 b2 [.mk kp np bp lp,.mk kr nr br lr]])] (Zo6 x np nr R) []:=by
 have hU:=ZbG [y,.mk 4 n2 b2 [.mk kp np bp lp,.mk kr nr br lr]]
 have hU2:=ZbG [.mk kp np bp lp,.mk kr nr br lr]
 have t2:(((Zas [y,.mk 4 n2 b2 [.mk kp np bp lp,.mk kr nr br lr]]).length:Int) != 2)=false:=rfl
 have t3:(((Zas [.mk kp np bp lp,.mk kr nr br lr]).length:Int) != 2)=false:=rfl
 obtain⟨yk,yn,yb,yl⟩:=y
 obtain⟨zk,zn,zb,zl⟩:=z
 obtain⟨xi,xn,xs,xh,xd⟩:=x
 replace hE:AP Tryz.prog _ [.agg [.int .i64 yk,.int .u64 (yn:Int),byE yb,.sl .ext (Zas yl)]] (.tup [.agg [.bool xi,.int .u64 (xn:Int),.int .u64 (xs:Int),.str xh,.str xd],.int .i64 0]) []:=hE
 replace hW:AP Tryz.prog _ [.agg [.bool xi,.int .u64 (xn:Int),.int .u64 (xs:Int),.str xh,.str xd,.int .u64 (np:Int),.int .u64 (nr:Int)]] (.tup [.agg [.int .i64 zk,.int .u64 (zn:Int),byE zb,.sl .ext (Zas zl)],.int .i64 0]) []:=hW
 replace hS:AP Tryz.prog _ [.agg [.int .i64 zk,.int .u64 (zn:Int),byE zb,.sl .ext (Zas zl)],itD (.mk 4 n b [.mk yk yn yb yl,.mk 4 n2 b2 [.mk kp np bp lp,.mk kr nr br lr]])] (.bool R) []:=hS
 cases R with
 | true=>
  show AP Tryz.prog _ _ (.tup [.agg [.bool xi,.int .u64 (xn:Int),.int .u64 (xs:Int),.str xh,.str xd,.int .u64 (np:Int),.int .u64 (nr:Int)],.int .i64 0]) []
  refine AP.ofA ?_
  refine Zap Tryz.func86 rfl Tryz.ntmps86 rfl rfl ?_
  repeat'(first|(apply Zaa (hE);kernel_rfl;(iterate 4 exact Z))|(apply Zaa (hW);kernel_rfl;(iterate 4 exact Z))|(apply Zaa (hS);kernel_rfl;(iterate 4 exact Z))|(apply Zaj Zab;exact Z)|(apply Zai Zab;exact Z)|(apply Zay Zab;exact Z)|(apply Zaf;(iterate 3 exact Z);exact Go.Zqn)|(apply Zah;exact Z;exact Go.Zqn;exact Z;exact Z)|(apply Zae;exact Z;exact Go.Zqn)|(apply Zal Zab;(iterate 4 exact Z))|(apply Zam 19 ZaR;decide +kernel;kernel_rfl;kernel_rfl;kernel_rfl;exact Z;exact Z)|(apply Zar;(iterate 4 exact Z))|exact AE.nil _ _ _ _|(apply Zav;exact Z)|(apply Za8;exact Z)|(apply Zaz;exact Z;exact Z;decide +kernel;exact Z)|(apply ZaA;exact Z)|(apply Zbp;exact Z)|exact AO.nil _ _ _|(apply Zaq;(decide +kernel))|(apply ZaZ;(iterate 3 exact Z))|exact AOs.nil|exact ZaI rfl rfl|exact Zca rfl rfl|(apply Zat Zab;(iterate 6 exact Z);(first|exact Go.Zqn|rotate_left);(first|with_reducible assumption|decide +kernel|exact Z);(first|exact Zag rfl|with_reducible assumption|decide +kernel|rotate_left)))
  all_goals(apply Zax [];(apply Zad Zab;exact Z);(iterate 4 exact Z))
  all_goals rfl
 | false=>
  show AP Tryz.prog _ _ (.tup [.agg [.bool false,.int .u64 0,.int .u64 0,.str [],.str [],.int .u64 0,.int .u64 0],.int .i64 3]) []
  refine AP.ofA ?_
  refine Zap Tryz.func86 rfl Tryz.ntmps86 rfl rfl ?_
  repeat'(first|(apply Zaa (hE);kernel_rfl;(iterate 4 exact Z))|(apply Zaa (hW);kernel_rfl;(iterate 4 exact Z))|(apply Zaa (hS);kernel_rfl;(iterate 4 exact Z))|(apply Zaj Zab;exact Z)|(apply Zai Zab;exact Z)|(apply Zay Zab;exact Z)|(apply Zaf;(iterate 3 exact Z);exact Go.Zqn)|(apply Zah;exact Z;exact Go.Zqn;exact Z;exact Z)|(apply Zac;exact Z;exact Go.Zqn)|(apply Zae;exact Z;exact Go.Zqn)|(apply Zal Zab;(iterate 4 exact Z))|(apply Zam 19 ZaR;decide +kernel;kernel_rfl;kernel_rfl;kernel_rfl;exact Z;exact Z)|(apply Zar;(iterate 4 exact Z))|exact AE.nil _ _ _ _|(apply Zav;exact Z)|(apply Za8;exact Z)|(apply Zaz;exact Z;exact Z;decide +kernel;exact Z)|(apply ZaA;exact Z)|(apply Zbp;exact Z)|exact AO.nil _ _ _|(apply Zaq;(decide +kernel))|(apply ZaZ;(iterate 3 exact Z))|exact AOs.nil|exact ZaI rfl rfl|exact Zca rfl rfl|(apply Zat Zab;(iterate 6 exact Z);(first|exact Go.Zqn|rotate_left);(first|with_reducible assumption|decide +kernel|exact Z);(first|exact Zag rfl|with_reducible assumption|decide +kernel|rotate_left)))
  all_goals(apply Zax [];(apply Zad Zab;exact Z);(iterate 4 exact Z))
  all_goals rfl
theorem Zih [Known][KnownU8](n:Nat)(b:List UInt8)(y:It)(n2:Nat)(b2:List UInt8)(p r:It)(hw:wfI (.mk 4 n b [y,.mk 4 n2 b2 [p,r]])) :
  AP Tryz.prog 86 [itD (.mk 4 n b [y,.mk 4 n2 b2 [p,r]])] (Zo6 (ZeN y) p.n r.n (ZfA y p r (.mk 4 n b [y,.mk 4 n2 b2 [p,r]]))) []:=by
 have hwy:wfI y:=hw.2.2.2.1
 have hE:=ZgB y hwy
 have hW:=Zfx (ZeN y) p.n r.n
 unfold ZfA
 cases hv:(ZaQ y).2 with
 | false=>
  have e0:ZeN y=Zcf:=by unfold ZeN;rw[hv]
  unfold Zn7 at hE
  rw[hv]at hE
  rw[e0]at hW
  obtain⟨kp,np,bp,lp⟩:=p
  obtain⟨kr,nr,br,lr⟩:=r
  exact Zpw y _ n b n2 b2 kp np bp lp kr nr br lr _ hE hW
 | true=>
  have e0:ZeN y=(ZaQ y).1:=by unfold ZeN;rw[hv]
  unfold Zn7 at hE
  rw[hv]at hE
  rw[<- e0]at hE
  cases hr:Zb9 (ZeN y) p.n r.n with
  | false=>
   rw[hr]at hW
   obtain⟨kp,np,bp,lp⟩:=p
   obtain⟨kr,nr,br,lr⟩:=r
   exact Zpx _ y _ n b n2 b2 kp np bp lp kr nr br lr hE hW
  | true=>
   rw[hr,if_pos rfl,if_pos rfl]at hW
   have hS:=Zfk _ (Zmy hr) _ hw
   obtain⟨kp,np,bp,lp⟩:=p
   obtain⟨kr,nr,br,lr⟩:=r
   exact Zpy _ y _ n b n2 b2 kp np bp lp kr nr br lr _ hE hW hS
def ZcR (z:It):EidV × Nat × Nat × Bool:=match z with
 | .mk k n b [y,.mk k2 n2 b2 [p,r]]=>(match k==4&&k2==4 with
  | false=>(Zcf,0,0,false)
  | true=>match ZfA y p r (.mk k n b [y,.mk k2 n2 b2 [p,r]]) with
   | true=>(ZeN y,p.n,r.n,true)
   | false=>(Zcf,0,0,false))
 | _=>(Zcf,0,0,false)
theorem Zmz [Known][KnownU8](z:It)(hw:wfI z):AP Tryz.prog 86 [itD z] (.tup [.agg (iC (ZcR z).1 (ZcR z).2.1 (ZcR z).2.2.1),.int .i64 (match(ZcR z).2.2.2 with|true=>0|false=>3)]) []:=by
 cases h:Zhy z with
 | true=>
  have e:ZcR z=(Zcf,0,0,false):=by
   unfold Zhy at h
   unfold ZcR
   split at h
   ·rw[Bool.not_eq_true']at h
    first|(rw[h];done)|(dsimp only;rw[h])
   ·rename_i hno
    first|rfl|(split <;> first|exact absurd rfl (hno _ _ _ _ _ _ _ _ _)|rfl)
  rw[e]
  exact ZjR z h
 | false=>
  obtain⟨n,b,y,n2,b2,p,r,rfl⟩:∃ n b y n2 b2 p r,z=.mk 4 n b [y,.mk 4 n2 b2 [p,r]]:=by
   unfold Zhy at h
   split at h
   ·simp only[Bool.not_eq_false',Bool.and_eq_true,beq_iff_eq]at h
    obtain⟨rfl,rfl⟩:=h
    exact⟨_,_,_,_,_,_,_,rfl⟩
   ·cases h
  have hR:=Zih n b y n2 b2 p r hw
  have e:ZcR (.mk 4 n b [y,.mk 4 n2 b2 [p,r]])=(match ZfA y p r (.mk 4 n b [y,.mk 4 n2 b2 [p,r]]) with
   | true=>(ZeN y,p.n,r.n,true)
   | false=>(Zcf,0,0,false)):=rfl
  rw[e]
  unfold Zo6 at hR
  cases hb:ZfA y p r (.mk 4 n b [y,.mk 4 n2 b2 [p,r]]) with
  | false=>rw[hb]at hR;exact hR
  | true=>rw[hb]at hR;exact hR
theorem ZdL {x:EidV}(h:ZaL x=true):(Za1 (Za2 x)).length<=200:=by
 unfold Za2
 repeat' split
 ·exact Nat.le_trans (ZgD 1 0) (by decide)
 ·have h0:=Zbi 4 0 [] [.mk 0 2 [] [],ZoJ x.n x.s]
  have h1:=Zcn 2
  have h2:=ZgD x.n x.s
  simp only[Za0,List.length_append,List.length_nil,Nat.add_zero,Nat.zero_add]at h0
  exact Nat.le_trans h0 (by omega)
 ·have h0:=Zbi 4 0 [] [.mk 0 1 [] [],.mk 3 0 (Zcg x) []]
  have h1:=Zcn 1
  have h2:=Zbi 3 0 (Zcg x) []
  rename_i hz hi
  have h3:(Zcg x).length<=100:=by
   have ht:=Zbx h (by simpa using hz) (by simpa using hi)
   simp only[Zcg,List.length_append,List.length_cons,List.length_nil]
   omega
  simp only[Za0,List.length_append,List.length_nil,Nat.add_zero,Nat.zero_add]at h0 h2
  exact Nat.le_trans h0 (by omega)
theorem Zhz (a c:List It):Za0 (a++c)=Za0 a++Za0 c:=by
 induction a with
 | nil=>rfl
 | cons y a ih=>rw[List.cons_append,Za0,Za0,ih,List.append_assoc]
theorem Zpz {p:PriV}(h:Zbc p=true)(s:Nat)(hs:s=1\/s=2):(Za1 (ZaJ s (Za6 p))).length<=1000000000:=by
 obtain⟨h1,h2,h3,h4,h5,h6⟩:=ZbT h
 obtain⟨i1,_,_⟩:=ZbM.1 h5
 have h0:=Zbi 4 0 [] (Za6 p++[.mk 2 0 (List.replicate (2*s) 0) []])
 have hb:=Zbi 2 0 (List.replicate (2*s) 0) []
 have n1:=Zcn 7
 have n2:=Zcn p.fl
 have n3:=Zcn p.sum.toNat
 have n4:=ZdL h3
 have n5:=ZdL i1
 have n6:=ZdL h4
 have n7:=ZgD p.t p.q
 have n8:=Zcn p.life
 have e7:ZoJ p.t p.q=.mk 4 0 [] [.mk 0 p.t [] [],.mk 0 p.q [] []]:=rfl
 rw[e7]at n7
 rw[Zhz]at h0
 simp only[Za6,Za0,List.length_append,List.length_nil,List.length_replicate,Nat.add_zero,Nat.zero_add]at h0 hb
 show(Za1 (.mk 4 0 [] (Za6 p++[.mk 2 0 (List.replicate (2*s) 0) []]))).length<=1000000000
 exact Nat.le_trans h0 (by omega)
theorem ZdM [Known][KnownU8](p:PriV)(hfl:p.fl<18446744073709551616):AP Tryz.prog 16 [.agg (prC p)] (ZkT (ZbF p)) []:=by
 cases h:Zbc p with
 | true=>exact Zln p hfl (Zpz h)
 | false=>
  have hR:=Zeg p
  unfold ZbF
  rw[h]at hR ⊢
  obtain⟨fl,sum,⟨di,dn,ds,dh,dd⟩,⟨ri,rn,rs,rh,rd⟩,⟨xi,xn,xs,xh,xd⟩,t,q,life⟩:=p
  dsimp only[z0]at *
  refine AP.ofA ?_
  refine Zap Tryz.func16 rfl Tryz.ntmps16 rfl rfl ?_
  repeat'(first|(apply Zaa (hR);kernel_rfl;(iterate 4 exact Z))|(apply Zaj Zab;exact Z)|(apply Zai Zab;exact Z)|(apply Zay Zab;exact Z)|(apply Zac;exact Z;exact Go.Zqn))
  all_goals(apply Zax [];(apply Zad Zab;exact Z);(iterate 4 exact Z))
  all_goals rfl
theorem Zlo {p:PriV}(hfl:p.fl<18446744073709551616):wfI (ZbF p).1:=by
 unfold ZbF
 cases h:Zbc p with
 | false=>exact ZoK
 | true=>exact ZnW 2 (Zlm h hfl) (by simp[Za6])
def pr0:PriV:=⟨0,0,Zcf,Zcf,Zcf,0,0,0⟩
abbrev prD (r:PriV × Int):D:=.tup [.agg (prC r.1),.int .i64 r.2]
def eZ (y:It):EidV:=match(ZaQ y).2 with|true=>(ZaQ y).1|false=>Zcf
def ZhA (m1 m2 m3 m4 m5 m6 m7:It):PriV:=⟨m1.n,IntKind.i64.wrap (m2.n:Int),eZ m3,eZ m5,(ZcR (.mk 4 0 [] [m4,m6])).1,(ZcR (.mk 4 0 [] [m4,m6])).2.1,(ZcR (.mk 4 0 [] [m4,m6])).2.2.1,m7.n⟩
def ZhB (x:It)(o:List It × Int):PriV × Int:=match o.2 != 0 with
 | true=>(pr0,o.2)
 | false=>match o.1 with
  | [_,m1,m2,m3,m4,m5,m6,m7]=>(match(ZaQ m3).2&&((ZaQ m5).2&&(ZcR (.mk 4 0 [] [m4,m6])).2.2.2) with
   | false=>(pr0,3)
   | true=>match(ZbF (ZhA m1 m2 m3 m4 m5 m6 m7)).2 != 0 with
    | true=>(pr0,3)
    | false=>match It.beq (ZbF (ZhA m1 m2 m3 m4 m5 m6 m7)).1 x with
     | false=>(pr0,3)
     | true=>(ZhA m1 m2 m3 m4 m5 m6 m7,0))
  | _=>(pr0,3)
def Zdw (x:It):PriV × Int:=ZhB x (Zee x 2)
theorem ZeW [Known][KnownU8](x:It)(hw:wfI x)(hxl:x.l.length<=1000000)(hlim:∀ s m,s=1\/s=2->(Za1 (ZaJ s (x.l.take m))).length<=1000000000):AP Tryz.prog 17 [itD x] (prD (Zdw x)) []:=by
 have hO:=ZnE x 2 hw hxl hlim
 have hsub:=Zjd x 2
 have hws:wfs x.l:=by obtain⟨k,n,b,l⟩:=x;exact hw.2.2.2
 unfold Zdw
 generalize Zee x 2=o at *
 obtain⟨ol,oe⟩:=o
 have hlen:=Zan ol
 have hUo:=ZbG ol
 dsimp only at hsub
 have hSame:=fun(B:PriV) (h1:B.fl<18446744073709551616)=>Zfk (ZbF B).1 (Zlo h1) x hw
 obtain⟨k,n,b,l⟩:=x
 dsimp only[It.l]at *
 unfold ZhB
 dsimp only
 replace hO:AP Tryz.prog 84 [.agg [.int .i64 k,.int .u64 (n:Int),byE b,.sl .ext (Zas l)],.int .i64 2] (.tup [.sl .ext (Zas ol),.int .i64 oe]) []:=hO
 cases t1:(oe != 0) with
 | true=>exact ZpW k n b _ _ oe hO t1
 | false=>
 have hno:ol.length ≠ 8->AP Tryz.prog 17 [itD (.mk k n b l)] (prD (pr0,3)) []:=fun h=>ZpX k n b _ _ oe hO t1 (by rw[hlen];simp;omega)
 match ol,hO,hsub,hlen,hUo,hno with
 | [],_,_,_,_,h=>exact h (by simp)
 | [_],_,_,_,_,h=>exact h (by simp)
 | [_,_],_,_,_,_,h=>exact h (by simp)
 | [_,_,_],_,_,_,_,h=>exact h (by simp)
 | [_,_,_,_],_,_,_,_,h=>exact h (by simp)
 | [_,_,_,_,_],_,_,_,_,h=>exact h (by simp)
 | [_,_,_,_,_,_],_,_,_,_,h=>exact h (by simp)
 | [_,_,_,_,_,_,_],_,_,_,_,h=>exact h (by simp)
 | _::_::_::_::_::_::_::_::_::_,_,_,_,_,h=>exact h (by simp)
 | [.mk k0 n0 b0 l0,.mk k1 n1 b1 l1,.mk k2 n2 b2 l2,.mk k3 n3 b3 l3,.mk k4 n4 b4 l4,.mk k5 n5 b5 l5,.mk k6 n6 b6 l6,.mk k7 n7 b7 l7],hO,hsub,hlen,hUo,_=>
 have hwm:∀ y ∈ [It.mk k0 n0 b0 l0,.mk k1 n1 b1 l1,.mk k2 n2 b2 l2,.mk k3 n3 b3 l3,.mk k4 n4 b4 l4,.mk k5 n5 b5 l5,.mk k6 n6 b6 l6,.mk k7 n7 b7 l7],wfI y:=fun y hy=>ZaP hws y (hsub y hy)
 clear hsub
 have t2:(((Zas [It.mk k0 n0 b0 l0,.mk k1 n1 b1 l1,.mk k2 n2 b2 l2,.mk k3 n3 b3 l3,.mk k4 n4 b4 l4,.mk k5 n5 b5 l5,.mk k6 n6 b6 l6,.mk k7 n7 b7 l7]).length:Int) != 8)=false:=by rw[hlen];rfl
 dsimp only
 have w1:n1<18446744073709551616:=(hwm (.mk k1 n1 b1 l1) (by simp)).1
 have w3:=hwm (.mk k3 n3 b3 l3) (by simp)
 have w4:=hwm (.mk k4 n4 b4 l4) (by simp)
 have w5:=hwm (.mk k5 n5 b5 l5) (by simp)
 have w6:=hwm (.mk k6 n6 b6 l6) (by simp)
 have w46:wfI (.mk 4 0 [] [.mk k4 n4 b4 l4,.mk k6 n6 b6 l6]):=⟨by decide,by simp,by simp,w4,w6,trivial⟩
 have hD:AP Tryz.prog 85 [itD (.mk k3 n3 b3 l3)] (.tup [.agg (eC (eZ (.mk k3 n3 b3 l3))),.int .i64 (match(ZaQ (.mk k3 n3 b3 l3)).2 with|true=>0|false=>3)]) []:=ZgB _ w3
 have hR:AP Tryz.prog 85 [itD (.mk k5 n5 b5 l5)] (.tup [.agg (eC (eZ (.mk k5 n5 b5 l5))),.int .i64 (match(ZaQ (.mk k5 n5 b5 l5)).2 with|true=>0|false=>3)]) []:=ZgB _ w5
 have hI:=Zmz _ w46
 have hL:=ZcE [.mk k4 n4 b4 l4,.mk k6 n6 b6 l6] (by simp) ⟨w4,w6,trivial⟩
 have hW:=ZdM (ZhA (.mk k1 n1 b1 l1) (.mk k2 n2 b2 l2) (.mk k3 n3 b3 l3) (.mk k4 n4 b4 l4) (.mk k5 n5 b5 l5) (.mk k6 n6 b6 l6) (.mk k7 n7 b7 l7)) w1
 have hS:=hSame (ZhA (.mk k1 n1 b1 l1) (.mk k2 n2 b2 l2) (.mk k3 n3 b3 l3) (.mk k4 n4 b4 l4) (.mk k5 n5 b5 l5) (.mk k6 n6 b6 l6) (.mk k7 n7 b7 l7)) w1
 clear hSame hwm w3 w4 w5 w6 w46 w1 hws hlim hw
 unfold ZhA at *
 dsimp only[It.n]at *
 generalize eZ (.mk k3 n3 b3 l3)=dz at *
 generalize eZ (.mk k5 n5 b5 l5)=rz at *
 generalize (ZaQ (.mk k3 n3 b3 l3)).2=d2 at *
 generalize (ZaQ (.mk k5 n5 b5 l5)).2=r2 at *
 generalize ZcR (.mk 4 0 [] [.mk k4 n4 b4 l4,.mk k6 n6 b6 l6])=u at *
 obtain⟨u,ut,uq,u2⟩:=u
 try dsimp only at *
 generalize ZbF ⟨n1,IntKind.i64.wrap (n2:Int),dz,rz,u,ut,uq,n7⟩=wr at *
 obtain⟨⟨wk,wn,wb,wl⟩,we⟩:=wr
 try dsimp only at *
 cases d2 with
 | false=>exact(Zfy k n b _ _ oe k0 n0 b0 l0 k1 n1 b1 l1 k2 n2 b2 l2 k3 n3 b3 l3 k4 n4 b4 l4 k5 n5 b5 l5 k6 n6 b6 l6 k7 n7 b7 l7 dz.i dz.n dz.s dz.h dz.d rz.i rz.n rz.s rz.h rz.d u.i u.n u.s u.h u.d ut uq _ _ _ we wk wn wb _ _ hO t1 t2 hUo rfl rfl rfl rfl rfl rfl rfl hD hR hL hI hW hS).1 rfl
 | true=>
 cases r2 with
 | false=>exact(Zfy k n b _ _ oe k0 n0 b0 l0 k1 n1 b1 l1 k2 n2 b2 l2 k3 n3 b3 l3 k4 n4 b4 l4 k5 n5 b5 l5 k6 n6 b6 l6 k7 n7 b7 l7 dz.i dz.n dz.s dz.h dz.d rz.i rz.n rz.s rz.h rz.d u.i u.n u.s u.h u.d ut uq _ _ _ we wk wn wb _ _ hO t1 t2 hUo rfl rfl rfl rfl rfl rfl rfl hD hR hL hI hW hS).2.1 rfl rfl
 | true=>
 cases u2 with
 | false=>exact(Zfy k n b _ _ oe k0 n0 b0 l0 k1 n1 b1 l1 k2 n2 b2 l2 k3 n3 b3 l3 k4 n4 b4 l4 k5 n5 b5 l5 k6 n6 b6 l6 k7 n7 b7 l7 dz.i dz.n dz.s dz.h dz.d rz.i rz.n rz.s rz.h rz.d u.i u.n u.s u.h u.d ut uq _ _ _ we wk wn wb _ _ hO t1 t2 hUo rfl rfl rfl rfl rfl rfl rfl hD hR hL hI hW hS).2.2 rfl rfl rfl
 | true=>
 try dsimp only[Bool.and_self]
 cases t4:(we != 0) with
 | true=>exact(Zfz k n b _ _ oe k0 n0 b0 l0 k1 n1 b1 l1 k2 n2 b2 l2 k3 n3 b3 l3 k4 n4 b4 l4 k5 n5 b5 l5 k6 n6 b6 l6 k7 n7 b7 l7 dz.i dz.n dz.s dz.h dz.d rz.i rz.n rz.s rz.h rz.d u.i u.n u.s u.h u.d ut uq _ _ _ we wk wn wb _ _ hO t1 t2 hUo rfl rfl rfl rfl rfl rfl rfl hD hR hL hI hW hS rfl rfl rfl).1 t4
 | false=>
 try dsimp only
 cases t5:It.beq (.mk wk wn wb wl) (.mk k n b l) with
 | false=>
  rw[t5]at hS
  exact(Zfz k n b _ _ oe k0 n0 b0 l0 k1 n1 b1 l1 k2 n2 b2 l2 k3 n3 b3 l3 k4 n4 b4 l4 k5 n5 b5 l5 k6 n6 b6 l6 k7 n7 b7 l7 dz.i dz.n dz.s dz.h dz.d rz.i rz.n rz.s rz.h rz.d u.i u.n u.s u.h u.d ut uq _ _ _ we wk wn wb _ _ hO t1 t2 hUo rfl rfl rfl rfl rfl rfl rfl hD hR hL hI hW hS rfl rfl rfl).2.1 t4 hS
 | true=>
  rw[t5]at hS
  exact(Zfz k n b _ _ oe k0 n0 b0 l0 k1 n1 b1 l1 k2 n2 b2 l2 k3 n3 b3 l3 k4 n4 b4 l4 k5 n5 b5 l5 k6 n6 b6 l6 k7 n7 b7 l7 dz.i dz.n dz.s dz.h dz.d rz.i rz.n rz.s rz.h rz.d u.i u.n u.s u.h u.d ut uq _ _ _ we wk wn wb _ _ hO t1 t2 hUo rfl rfl rfl rfl rfl rfl rfl hD hR hL hI hW hS rfl rfl rfl).2.2 t4 hS
theorem Zii {x:EidV}{t q:Nat}(h:Zb9 x t q=true):ZcR (ZfO x t q)=(x,t,q,true):=by
 obtain⟨h1,_,_⟩:=ZbM.1 h
 have hr:=ZbE h1 (Zbu h1)
 have hz:ZeN (Za2 x)=x:=by show(match(ZaQ (Za2 x)).2 with|true=>(ZaQ (Za2 x)).1|false=>Zcf)=x;rw[hr]
 unfold ZfO ZcR
 dsimp only
 have e:ZfA (Za2 x) (.mk 0 t [] []) (.mk 0 q [] []) (.mk 4 0 [] [Za2 x,.mk 4 0 [] [.mk 0 t [] [],.mk 0 q [] []]])=true:=by
  unfold ZfA
  rw[hz,hr]
  dsimp only[It.n]
  rw[h]
  exact ZgC _
 rw[e,hz]
 rfl
theorem ZgF {p:PriV}(hs:p.sum=IntKind.i64.wrap ((p.sum.toNat:Nat):Int)){x:It}(h:ZbF p=(x,0)):Zdw x=(p,0):=by
 have hr:Zbc p=true:=by
  unfold ZbF at h
  cases hr:Zbc p with
  | true=>rfl
  | false=>rw[hr]at h;simp at h
 have h2:=h
 unfold ZbF at h2
 rw[hr]at h2
 have ho:=Zhx h2
 obtain⟨_,_,d1,d2,d3,_⟩:=ZbT hr
 have r1:=ZbE d1 (Zbu d1)
 have r2:=ZbE d2 (Zbu d2)
 have r3:=Zii d3
 have e1:eZ (Za2 p.dest)=p.dest:=by unfold eZ;rw[r1]
 have e2:eZ (Za2 p.rep)=p.rep:=by unfold eZ;rw[r2]
 unfold ZfO at r3
 unfold Zdw
 rw[ho]
 unfold ZhB Za6
 dsimp only
 have e:ZhA (.mk 0 p.fl [] []) (.mk 0 p.sum.toNat [] []) (Za2 p.dest) (Za2 p.src) (Za2 p.rep) (.mk 4 0 [] [.mk 0 p.t [] [],.mk 0 p.q [] []]) (.mk 0 p.life [] [])=p:=by
  unfold ZhA
  rw[e1,e2,r3]
  dsimp only[It.n]
  rw[<- hs]
 rw[e,r1,r2,r3,h]
 simp[ZgC]
theorem ZgG {x:It}{p:PriV}(h:Zdw x=(p,0)):ZbF p=(x,0):=by
 unfold Zdw ZhB at h
 cases d0:((Zee x 2).2 != 0) with
 | true=>
  rw[d0]at h
  simp only[Prod.mk.injEq]at h
  rw[h.2]at d0
  cases d0
 | false=>
 rw[d0]at h
 dsimp only at h
 split at h
 ·split at h
  ·simp at h
  ·split at h
   ·simp at h
   ·rename_i d2
    split at h
    ·simp at h
    ·rename_i d3
     simp only[Prod.mk.injEq,and_true]at h
     subst h
     have e1:=It.beq_iff.1 d3
     have e2:=d2
     simp only[bne,Bool.not_eq_false',beq_iff_eq]at e2
     exact Prod.ext e1 e2
 ·simp at h
end Go.Proofs.YtakblclkflnnpaaGreatDoor
end
