/- Package canon: a first block, read, by cases. -/
import Derived.Test.YtchlgagdbflkmaaDoorS24
import Derived.Test.YtchlgagdbflkmaaDoorS21
import Derived.Test.YtchlgagdbflkmaaDoorS12
import Derived.Test.YtchlgagdbflkmaaDoorS15
set_option linter.unusedVariables false
set_option linter.unusedSimpArgs false
section
open Go.RowKit Go.Pl Go.Av
namespace Go.Proofs.YtchlgagdbflkmaaDoor
set_option maxHeartbeats 4000000
theorem UG [Known][KnownU8](k:Int)(n:Nat)(b:List UInt8)(xl:List E)(L:List E)(e:Int)(k0:Int)(n0:Nat)(b0:List UInt8)(l0:List It)(k1:Int)(n1:Nat)(b1:List UInt8)(l1:List It)(k2:Int)(n2:Nat)(b2:List UInt8)(l2:List It)(k3:Int)(n3:Nat)(b3:List UInt8)(l3:List It)(k4:Int)(n4:Nat)(b4:List UInt8)(l4:List It)(k5:Int)(n5:Nat)(b5:List UInt8)(l5:List It)(k6:Int)(n6:Nat)(b6:List UInt8)(l6:List It)(k7:Int)(n7:Nat)(b7:List UInt8)(l7:List It)(di:Bool)(dn ds:Nat)(dh dd:List UInt8)(ri:Bool)(rn rs:Nat)(rh rd:List UInt8)(ui:Bool)(un us:Nat)(uh ud:List UInt8)(ut uq:Nat)(de re ie we:Int)(wk:Int)(wn:Nat)(wb:List UInt8)(wl:List E)(s:Bool)(hO:AP Tryd.prog 8 [.agg [.int .i64 k,.int .u64 (n:Int),byE b,.sl .ext xl],.int .i64 2] (.tup [.sl .ext L,.int .i64 e]) [])(t1:(e != 0)=false)(t2:((L.length:Int) != 8)=false)(hU:Uni 4 L)(hv1:L[(1:Int).toNat]?=some (.agg [.int .i64 k1,.int .u64 (n1:Int),.sl (b1.map E.byte),.sl (Zh l1)]))(hv2:L[(2:Int).toNat]?=some (.agg [.int .i64 k2,.int .u64 (n2:Int),.sl (b2.map E.byte),.sl (Zh l2)]))(hv3:L[(3:Int).toNat]?=some (.agg [.int .i64 k3,.int .u64 (n3:Int),.sl (b3.map E.byte),.sl (Zh l3)]))(hv4:L[(4:Int).toNat]?=some (.agg [.int .i64 k4,.int .u64 (n4:Int),.sl (b4.map E.byte),.sl (Zh l4)]))(hv5:L[(5:Int).toNat]?=some (.agg [.int .i64 k5,.int .u64 (n5:Int),.sl (b5.map E.byte),.sl (Zh l5)]))(hv6:L[(6:Int).toNat]?=some (.agg [.int .i64 k6,.int .u64 (n6:Int),.sl (b6.map E.byte),.sl (Zh l6)]))(hv7:L[(7:Int).toNat]?=some (.agg [.int .i64 k7,.int .u64 (n7:Int),.sl (b7.map E.byte),.sl (Zh l7)]))(hD:AP Tryd.prog 24 [.agg [.int .i64 k3,.int .u64 (n3:Int),.sl .ext (b3.map E.byte),.sl .ext (Zh l3)]] (.tup [.agg [.bool di,.int .u64 (dn:Int),.int .u64 (ds:Int),.str dh,.str dd],.int .i64 de]) [])(hR:AP Tryd.prog 24 [.agg [.int .i64 k5,.int .u64 (n5:Int),.sl .ext (b5.map E.byte),.sl .ext (Zh l5)]] (.tup [.agg [.bool ri,.int .u64 (rn:Int),.int .u64 (rs:Int),.str rh,.str rd],.int .i64 re]) [])(hL:AP Tryd.prog 15 [.sl .ext [.agg [.int .i64 k4,.int .u64 (n4:Int),.sl (b4.map E.byte),.sl (Zh l4)],.agg [.int .i64 k6,.int .u64 (n6:Int),.sl (b6.map E.byte),.sl (Zh l6)]]] (.agg [.int .i64 4,.int .u64 0,.sl .ext [],.sl .ext [.agg [.int .i64 k4,.int .u64 (n4:Int),.sl (b4.map E.byte),.sl (Zh l4)],.agg [.int .i64 k6,.int .u64 (n6:Int),.sl (b6.map E.byte),.sl (Zh l6)]]]) [])(hI:AP Tryd.prog 25 [.agg [.int .i64 4,.int .u64 0,.sl .ext [],.sl .ext [.agg [.int .i64 k4,.int .u64 (n4:Int),.sl (b4.map E.byte),.sl (Zh l4)],.agg [.int .i64 k6,.int .u64 (n6:Int),.sl (b6.map E.byte),.sl (Zh l6)]]]] (.tup [.agg [.bool ui,.int .u64 (un:Int),.int .u64 (us:Int),.str uh,.str ud,.int .u64 (ut:Int),.int .u64 (uq:Int)],.int .i64 ie]) [])(hW:AP Tryd.prog 9 [.agg [.int .u64 (n1:Int),.int .i64 (IntKind.i64.wrap (n2:Int)),.bool di,.int .u64 (dn:Int),.int .u64 (ds:Int),.str dh,.str dd,.bool ri,.int .u64 (rn:Int),.int .u64 (rs:Int),.str rh,.str rd,.bool ui,.int .u64 (un:Int),.int .u64 (us:Int),.str uh,.str ud,.int .u64 (ut:Int),.int .u64 (uq:Int),.int .u64 (n7:Int)]] (.tup [.agg [.int .i64 wk,.int .u64 (wn:Int),byE wb,.sl .ext wl],.int .i64 we]) [])(hS:AP Tryd.prog 18 [.agg [.int .i64 wk,.int .u64 (wn:Int),byE wb,.sl .ext wl],.agg [.int .i64 k,.int .u64 (n:Int),byE b,.sl .ext xl]] (.bool s) []) :
  (∀(c1:(de != 0)=true),
  AP Tryd.prog 10 [.agg [.int .i64 k,.int .u64 (n:Int),byE b,.sl .ext xl]] (.tup [.agg [.int .u64 0,.int .i64 0,.bool false,.int .u64 0,.int .u64 0,.str [],.str [],.bool false,.int .u64 0,.int .u64 0,.str [],.str [],.bool false,.int .u64 0,.int .u64 0,.str [],.str [],.int .u64 0,.int .u64 0,.int .u64 0],.int .i64 3]) []) /\
  (∀(c1:(de != 0)=false) (c2:(re != 0)=true),
  AP Tryd.prog 10 [.agg [.int .i64 k,.int .u64 (n:Int),byE b,.sl .ext xl]] (.tup [.agg [.int .u64 0,.int .i64 0,.bool false,.int .u64 0,.int .u64 0,.str [],.str [],.bool false,.int .u64 0,.int .u64 0,.str [],.str [],.bool false,.int .u64 0,.int .u64 0,.str [],.str [],.int .u64 0,.int .u64 0,.int .u64 0],.int .i64 3]) []) /\
  (∀(c1:(de != 0)=false) (c2:(re != 0)=false) (c3:(ie != 0)=true),
  AP Tryd.prog 10 [.agg [.int .i64 k,.int .u64 (n:Int),byE b,.sl .ext xl]] (.tup [.agg [.int .u64 0,.int .i64 0,.bool false,.int .u64 0,.int .u64 0,.str [],.str [],.bool false,.int .u64 0,.int .u64 0,.str [],.str [],.bool false,.int .u64 0,.int .u64 0,.str [],.str [],.int .u64 0,.int .u64 0,.int .u64 0],.int .i64 3]) []):=by
 refine⟨fun c1=>?_,fun c1 c2=>?_,fun c1 c2 c3=>?_⟩
 all_goals
  refine AP.ofA (Zm Tryd.func10 Z Tryd.ntmps10 Z Z ?_)
  repeat'(first|refine Zb hO Qk Z Z Z Z ?_|refine Zb hD Qk Z Z Z Z ?_|refine Zb hR Qk Z Z Z Z ?_|refine Zb hL Qk Z Z Z Z ?_|refine Zb hI Qk Z Z Z Z ?_|refine Zb hW Qk Z Z Z Z ?_|refine Zj Za Z ?_|refine Zg Za Z ?_|refine Zv Za Z ?_|refine Zi Z Z Z Qt ?_|refine Zw Z Z Z Qt ?_|refine Zp Z Qt Z Z ?_|refine Zk Z Qt Z Z ?_|refine Zd Z Qt ?_|refine Ze Z Qt ?_|refine Zn Za Z Z Z Z ?_|refine Yd Za Z Z Z Z Z Z Z Z Z Z Z Z ?_|(apply Zo 14 ZG;decide +kernel;kernel_rfl;kernel_rfl;kernel_rfl;exact Z;exact Z)|(apply Zo 18 ZG;decide +kernel;kernel_rfl;kernel_rfl;kernel_rfl;exact Z;exact Z)|(apply Zr;(iterate 4 exact Z))|exact AE.nil _ _ _ _|(apply Zt;exact Z)|(apply Z4;exact Z)|(apply VV;exact Z)|(apply Zx;exact Z;exact Z;decide +kernel;exact Z)|(apply Zz;exact Z)|(apply Yl;exact Z)|(apply Qh;exact Z)|exact AO.nil _ _ _|(apply Zq;(decide +kernel))|(apply ZY;(iterate 3 exact Z))|exact AOs.nil|exact ZM rfl rfl|exact WE rfl rfl rfl rfl rfl|exact YM rfl rfl|exact Ux rfl|(apply Zs Za;(iterate 6 exact Z);(first|exact Qt|rotate_left);(first|with_reducible assumption|decide +kernel|exact Z);(first|exact Zf rfl|with_reducible assumption|decide +kernel|rotate_left)))
  all_goals(apply Zu [];(apply Zc Za;exact Z);(iterate 4 exact Z))
  all_goals first|rfl|(exfalso;simp_all;done)
theorem UH [Known][KnownU8](k:Int)(n:Nat)(b:List UInt8)(xl:List E)(L:List E)(e:Int)(k0:Int)(n0:Nat)(b0:List UInt8)(l0:List It)(k1:Int)(n1:Nat)(b1:List UInt8)(l1:List It)(k2:Int)(n2:Nat)(b2:List UInt8)(l2:List It)(k3:Int)(n3:Nat)(b3:List UInt8)(l3:List It)(k4:Int)(n4:Nat)(b4:List UInt8)(l4:List It)(k5:Int)(n5:Nat)(b5:List UInt8)(l5:List It)(k6:Int)(n6:Nat)(b6:List UInt8)(l6:List It)(k7:Int)(n7:Nat)(b7:List UInt8)(l7:List It)(di:Bool)(dn ds:Nat)(dh dd:List UInt8)(ri:Bool)(rn rs:Nat)(rh rd:List UInt8)(ui:Bool)(un us:Nat)(uh ud:List UInt8)(ut uq:Nat)(de re ie we:Int)(wk:Int)(wn:Nat)(wb:List UInt8)(wl:List E)(s:Bool)(hO:AP Tryd.prog 8 [.agg [.int .i64 k,.int .u64 (n:Int),byE b,.sl .ext xl],.int .i64 2] (.tup [.sl .ext L,.int .i64 e]) [])(t1:(e != 0)=false)(t2:((L.length:Int) != 8)=false)(hU:Uni 4 L)(hv1:L[(1:Int).toNat]?=some (.agg [.int .i64 k1,.int .u64 (n1:Int),.sl (b1.map E.byte),.sl (Zh l1)]))(hv2:L[(2:Int).toNat]?=some (.agg [.int .i64 k2,.int .u64 (n2:Int),.sl (b2.map E.byte),.sl (Zh l2)]))(hv3:L[(3:Int).toNat]?=some (.agg [.int .i64 k3,.int .u64 (n3:Int),.sl (b3.map E.byte),.sl (Zh l3)]))(hv4:L[(4:Int).toNat]?=some (.agg [.int .i64 k4,.int .u64 (n4:Int),.sl (b4.map E.byte),.sl (Zh l4)]))(hv5:L[(5:Int).toNat]?=some (.agg [.int .i64 k5,.int .u64 (n5:Int),.sl (b5.map E.byte),.sl (Zh l5)]))(hv6:L[(6:Int).toNat]?=some (.agg [.int .i64 k6,.int .u64 (n6:Int),.sl (b6.map E.byte),.sl (Zh l6)]))(hv7:L[(7:Int).toNat]?=some (.agg [.int .i64 k7,.int .u64 (n7:Int),.sl (b7.map E.byte),.sl (Zh l7)]))(hD:AP Tryd.prog 24 [.agg [.int .i64 k3,.int .u64 (n3:Int),.sl .ext (b3.map E.byte),.sl .ext (Zh l3)]] (.tup [.agg [.bool di,.int .u64 (dn:Int),.int .u64 (ds:Int),.str dh,.str dd],.int .i64 de]) [])(hR:AP Tryd.prog 24 [.agg [.int .i64 k5,.int .u64 (n5:Int),.sl .ext (b5.map E.byte),.sl .ext (Zh l5)]] (.tup [.agg [.bool ri,.int .u64 (rn:Int),.int .u64 (rs:Int),.str rh,.str rd],.int .i64 re]) [])(hL:AP Tryd.prog 15 [.sl .ext [.agg [.int .i64 k4,.int .u64 (n4:Int),.sl (b4.map E.byte),.sl (Zh l4)],.agg [.int .i64 k6,.int .u64 (n6:Int),.sl (b6.map E.byte),.sl (Zh l6)]]] (.agg [.int .i64 4,.int .u64 0,.sl .ext [],.sl .ext [.agg [.int .i64 k4,.int .u64 (n4:Int),.sl (b4.map E.byte),.sl (Zh l4)],.agg [.int .i64 k6,.int .u64 (n6:Int),.sl (b6.map E.byte),.sl (Zh l6)]]]) [])(hI:AP Tryd.prog 25 [.agg [.int .i64 4,.int .u64 0,.sl .ext [],.sl .ext [.agg [.int .i64 k4,.int .u64 (n4:Int),.sl (b4.map E.byte),.sl (Zh l4)],.agg [.int .i64 k6,.int .u64 (n6:Int),.sl (b6.map E.byte),.sl (Zh l6)]]]] (.tup [.agg [.bool ui,.int .u64 (un:Int),.int .u64 (us:Int),.str uh,.str ud,.int .u64 (ut:Int),.int .u64 (uq:Int)],.int .i64 ie]) [])(hW:AP Tryd.prog 9 [.agg [.int .u64 (n1:Int),.int .i64 (IntKind.i64.wrap (n2:Int)),.bool di,.int .u64 (dn:Int),.int .u64 (ds:Int),.str dh,.str dd,.bool ri,.int .u64 (rn:Int),.int .u64 (rs:Int),.str rh,.str rd,.bool ui,.int .u64 (un:Int),.int .u64 (us:Int),.str uh,.str ud,.int .u64 (ut:Int),.int .u64 (uq:Int),.int .u64 (n7:Int)]] (.tup [.agg [.int .i64 wk,.int .u64 (wn:Int),byE wb,.sl .ext wl],.int .i64 we]) [])(hS:AP Tryd.prog 18 [.agg [.int .i64 wk,.int .u64 (wn:Int),byE wb,.sl .ext wl],.agg [.int .i64 k,.int .u64 (n:Int),byE b,.sl .ext xl]] (.bool s) [])(c1:(de != 0)=false)(c2:(re != 0)=false)(c3:(ie != 0)=false) :
  (∀(c4:(we != 0)=true),
  AP Tryd.prog 10 [.agg [.int .i64 k,.int .u64 (n:Int),byE b,.sl .ext xl]] (.tup [.agg [.int .u64 0,.int .i64 0,.bool false,.int .u64 0,.int .u64 0,.str [],.str [],.bool false,.int .u64 0,.int .u64 0,.str [],.str [],.bool false,.int .u64 0,.int .u64 0,.str [],.str [],.int .u64 0,.int .u64 0,.int .u64 0],.int .i64 3]) []) /\
  (∀(c4:(we != 0)=false) (hSn:AP Tryd.prog 18 [.agg [.int .i64 wk,.int .u64 (wn:Int),byE wb,.sl .ext wl],.agg [.int .i64 k,.int .u64 (n:Int),byE b,.sl .ext xl]] (.bool false) []),
  AP Tryd.prog 10 [.agg [.int .i64 k,.int .u64 (n:Int),byE b,.sl .ext xl]] (.tup [.agg [.int .u64 0,.int .i64 0,.bool false,.int .u64 0,.int .u64 0,.str [],.str [],.bool false,.int .u64 0,.int .u64 0,.str [],.str [],.bool false,.int .u64 0,.int .u64 0,.str [],.str [],.int .u64 0,.int .u64 0,.int .u64 0],.int .i64 3]) []) /\
  (∀(c4:(we != 0)=false) (hSn:AP Tryd.prog 18 [.agg [.int .i64 wk,.int .u64 (wn:Int),byE wb,.sl .ext wl],.agg [.int .i64 k,.int .u64 (n:Int),byE b,.sl .ext xl]] (.bool true) []),
  AP Tryd.prog 10 [.agg [.int .i64 k,.int .u64 (n:Int),byE b,.sl .ext xl]] (.tup [.agg [.int .u64 (n1:Int),.int .i64 (IntKind.i64.wrap (n2:Int)),.bool di,.int .u64 (dn:Int),.int .u64 (ds:Int),.str dh,.str dd,.bool ri,.int .u64 (rn:Int),.int .u64 (rs:Int),.str rh,.str rd,.bool ui,.int .u64 (un:Int),.int .u64 (us:Int),.str uh,.str ud,.int .u64 (ut:Int),.int .u64 (uq:Int),.int .u64 (n7:Int)],.int .i64 0]) []):=by
 refine⟨fun c4=>?_,fun c4 hSn=>?_,fun c4 hSn=>?_⟩
 all_goals
  refine AP.ofA (Zm Tryd.func10 Z Tryd.ntmps10 Z Z ?_)
  repeat'(first|refine Zb hO Qk Z Z Z Z ?_|refine Zb hD Qk Z Z Z Z ?_|refine Zb hR Qk Z Z Z Z ?_|refine Zb hL Qk Z Z Z Z ?_|refine Zb hI Qk Z Z Z Z ?_|refine Zb hW Qk Z Z Z Z ?_|refine Zb hSn Qk Z Z Z Z ?_|refine Zj Za Z ?_|refine Zg Za Z ?_|refine Zv Za Z ?_|refine Zi Z Z Z Qt ?_|refine Zw Z Z Z Qt ?_|refine Zp Z Qt Z Z ?_|refine Zk Z Qt Z Z ?_|refine Zd Z Qt ?_|refine Ze Z Qt ?_|refine Zn Za Z Z Z Z ?_|refine Yd Za Z Z Z Z Z Z Z Z Z Z Z Z ?_|(apply Zo 14 ZG;decide +kernel;kernel_rfl;kernel_rfl;kernel_rfl;exact Z;exact Z)|(apply Zo 18 ZG;decide +kernel;kernel_rfl;kernel_rfl;kernel_rfl;exact Z;exact Z)|(apply Zr;(iterate 4 exact Z))|exact AE.nil _ _ _ _|(apply Zt;exact Z)|(apply Z4;exact Z)|(apply VV;exact Z)|(apply Zx;exact Z;exact Z;decide +kernel;exact Z)|(apply Zz;exact Z)|(apply Yl;exact Z)|(apply Qh;exact Z)|exact AO.nil _ _ _|(apply Zq;(decide +kernel))|(apply ZY;(iterate 3 exact Z))|exact AOs.nil|exact ZM rfl rfl|exact WE rfl rfl rfl rfl rfl|exact YM rfl rfl|exact Ux rfl|(apply Zs Za;(iterate 6 exact Z);(first|exact Qt|rotate_left);(first|with_reducible assumption|decide +kernel|exact Z);(first|exact Zf rfl|with_reducible assumption|decide +kernel|rotate_left)))
  all_goals(apply Zu [];(apply Zc Za;exact Z);(iterate 4 exact Z))
  all_goals first|rfl|(exfalso;simp_all;done)
theorem Iy (x:It)(a:Int):∀ y ∈ (UT x a).1,y ∈ x.l:=by
 obtain⟨k,n,b,l⟩:=x
 unfold UT
 dsimp only[It.l]
 have hs:∀(m:Nat) (y:It),y ∈ l.take m->y ∈ l:=fun m y h=>List.mem_of_mem_take h
 repeat' split
 all_goals first|exact hs _|(intro y h;exact h)|(intro y h;exact absurd h (by simp))
theorem GF:wfI z0:=⟨by decide,by simp,by simp,trivial⟩
theorem Gs (s:Nat){l:List It}(hws:wfs l)(hl:l.length<=1000000):wfI (WD s l):=by
 refine⟨by decide,by simp,by simp;omega,Uh hws ⟨⟨by decide,?_,by simp,trivial⟩,trivial⟩⟩
 have:(YP s (ZC (ZI s l))).length<=4:=by
  unfold YP
  split<;>simp
 omega
theorem Gt {l:List It}(a:Int)(hws:wfs l)(hl:l.length<=1000000):wfI (Uj l a).1:=by
 unfold Uj
 have h0:wfI (.mk 4 0 [] l):=⟨by decide,by simp,by omega,hws⟩
 repeat' split
 all_goals first|exact GF|exact h0|exact Gs _ hws hl
end Go.Proofs.YtchlgagdbflkmaaDoor
end
section
open Go.RowKit Go.Pl Go.Av
namespace Go.Proofs.YtchlgagdbflkmaaDoor
set_option maxHeartbeats 4000000
mutual
def Z7:It->Nat->Int->Int
 | .mk k n b l,d,m=>if 9<d then -1 else if 3000<b.length then -1 else Ym l (d+1) (m-1)
def Ym:List It->Nat->Int->Int
 | [],_,m=>m
 | x::l,d,m=>if m<0 then m else Ym l d (Z7 x d m)
end
mutual
theorem Ww:∀(x:It) (d:Nat) (m:Int),0<=m->Z7 x d m<m /\ -1<=Z7 x d m
 | .mk k n b l,d,m,h=>by
  rw[Z7]
  split
  ·omega
  ·split
   ·omega
   ·have:=WW l (d+1) (m-1) (by omega);omega
theorem WW:∀(l:List It) (d:Nat) (m:Int),-1<=m->Ym l d m<=m /\ -1<=Ym l d m
 | [],_,m,h=>by rw[Ym];omega
 | x::l,d,m,h=>by
  rw[Ym]
  split
  ·omega
  ·have h1:=Ww x d m (by omega)
   have h2:=WW l d (Z7 x d m) (by omega)
   omega
end
mutual
def nI:It->Prop
 | .mk _ n _ l=>n<18446744073709551616/\nIs l
def nIs:List It->Prop
 | []=>True
 | x::l=>nI x/\nIs l
end
mutual
def Vy:It->Nat->Bool
 | .mk _ _ _ l,d=>match d with
  | 0=>false
  | d+1=>WI l d
def WI:List It->Nat->Bool
 | [],_=>true
 | x::l,d=>Vy x d&&WI l d
end
mutual
theorem Xz:∀(x:It) (d:Nat) (m:Int),m<=400->0<=Z7 x d m->nI x->wfI x/\(ZC x).length<=3009*(m-Z7 x d m)/\m-Z7 x d m ≥ 1/\Vy x (10-d)=true
 | .mk k n b l,d,m,hm,h,hn=>by
  rw[Z7]at h ⊢
  split at h
  ·omega
  split at h
  ·omega
  rename_i h1 h2
  rw[if_neg h1,if_neg h2]
  obtain⟨q1,q2,q3,q4⟩:=Jm l (d+1) (m-1) (by omega) h hn.2
  refine⟨⟨hn.1,by omega,by omega,q1⟩,?_,by omega,?_⟩
  ·rw[ZC]
   have hw:(if Z5 (k,(It.mk k n b l).hn,false) then Z6 (k,(It.mk k n b l).hn,false) else []).length<=9:=by
    split
    ·rename_i hr;rw[Wg _ hr];exact OZ _
    ·exact Nat.zero_le _
   rw[List.length_append,List.length_append]
   omega
  ·obtain⟨e,he⟩:∃ e,10-d=e+1:=⟨9-d,by omega⟩
   rw[he,Vy]
   rw[show 10-(d+1)=e by omega]at q4
   exact q4
theorem Jm:∀(l:List It) (d:Nat) (m:Int),m<=400->0<=Ym l d m->nIs l->wfs l/\(ZH l).length<=3009*(m-Ym l d m)/\m-Ym l d m ≥ l.length/\WI l (10-d)=true
 | [],_,m,_,h,hn=>by simp[wfs,ZH,Ym,WI]
 | x::l,d,m,hm,h,hn=>by
  rw[Ym]at h ⊢
  split at h
  ·omega
  rename_i h1
  rw[if_neg h1]
  have h0:0<=Z7 x d m:=by
   rcases Int.lt_or_le (Z7 x d m) 0 with hlt|hge
   ·have:=WW l d (Z7 x d m) (by have:=Ww x d m (by omega);omega);omega
   ·exact hge
  obtain⟨q1,q2,q3,q4⟩:=Xz x d m hm h0 hn.1
  obtain⟨r1,r2,r3,r4⟩:=Jm l d _ (by have:=Ww x d m (by omega);omega) h hn.2
  refine⟨⟨q1,r1⟩,?_,?_,?_⟩
  ·rw[ZH,List.length_append];omega
  ·rw[List.length_cons];omega
  ·rw[WI,q4,r4];rfl
end
theorem Iz [Known]:∀(x:It) (d:Nat) (m:Int),d<=10->0<=m->m<=400->AP Tryd.prog 4 [itD x,.int .i64 (d:Int),.int .i64 m] (.int .i64 (Z7 x d m)) []:=by
 refine It.ind fun k n b l ih d m hd hm hm'=>?_
 have hlen:=Zl l
 have hbl:(b.map E.byte).length=b.length:=List.length_map ..
 show AP Tryd.prog _ [.agg (itC k n b l),_,_] _ _
 rw[Z7]
 have em:0<=m->IntKind.i64.wrap (m-1)=m-1:=fun h=>by rw[IntWalk.i64_in _ (by omega)]
 have ed:IntKind.i64.wrap ((d:Int)+1)=((d+1:Nat):Int):=by rw[IntWalk.i64_in _ (by omega)];omega
 by_cases hd9:9<d
 ·rw[if_pos hd9]
  have t1:decide ((d:Int)>9)=true:=by simp;omega
  refine AP.ofA (Zm Tryd.func4 Z Tryd.ntmps4 Z Z ?_)
  repeat'(first|refine Zj Za Z ?_|refine Zg Za Z ?_|refine Zv Za Z ?_|refine Zw Z Z Z Qt ?_|refine Zp Z Qt Z Z ?_|refine Zd Z Qt ?_)
  all_goals exact Qe
 have t1:decide ((d:Int)>9)=false:=by simp;omega
 rw[if_neg hd9]
 by_cases hb:3000<b.length
 ·rw[if_pos hb]
  have t2:decide ((((b.map E.byte).length:Nat):Int)>3000)=true:=by rw[hbl];simp;omega
  refine AP.ofA (Zm Tryd.func4 Z Tryd.ntmps4 Z Z ?_)
  repeat'(first|refine Zj Za Z ?_|refine Zg Za Z ?_|refine Zv Za Z ?_|refine Zi Z Z Z Qt ?_|refine Zk Z Qt Z Z ?_|refine Zd Z Qt ?_|refine Zn Za Z Z Z Z ?_)
  all_goals exact Qe
 have t2:decide ((((b.map E.byte).length:Nat):Int)>3000)=false:=by rw[hbl];simp;omega
 rw[if_neg hb]
 generalize hfin:Ym l (d+1) (m-1)=fin
 have em:=em hm
 refine AP.ofA (Zm Tryd.func4 Z Tryd.ntmps4 Z Z ?_)
 repeat'(first|rw[em]|refine Zj Za Z ?_|refine Zg Za Z ?_|refine Zv Za Z ?_|refine Zi Z Z Z Qt ?_|refine Zk Z Qt Z Z ?_|refine Ze Z Qt ?_|refine Zn Za Z Z Z Z ?_)
 refine ZT (fun f tm bx fr=>∃(i:Nat) (m':Int),f+i=l.length /\ -1<=m'/\m'+i<=399/\Ym (l.drop i) (d+1) m'=fin/\tm=[(1,.int .i64 (d:Int)),(2,.int .i64 m'),(3,.ptr 0 0),(7,.int .i64 (i:Int)),(6,.int .i64 0)]/\bx=[itC k n b l]/\fr=[]) (l.length+1) (Lands.mk' (m:=l.length) (Nat.lt_succ_self _) ⟨0,m-1,rfl,by omega,by omega,hfin,rfl,rfl,rfl⟩ ?_ rfl rfl rfl rfl rfl rfl) ?_
 ·exact .cons rfl (.cons rfl (.cons rfl (.cons rfl (.cons rfl .nil))))
 rintro f tm bx fr ⟨i,m',hf,hm1,hm2,hfin,rfl,rfl,rfl⟩
 have hU:=Yb l
 rcases Nat.lt_or_ge i l.length with hlt|hge
 ·have hdl:decide ((i:Int)<((Zh l).length:Int))=true:=decide_eq_true (by omega)
  obtain⟨⟨k1,n1,b1,l1⟩,hy⟩:∃ y,l[i]?=some y:=⟨_,List.getElem?_eq_getElem hlt⟩
  have hv:(Zh l)[((i:Nat):Int).toNat]?=some (.agg [.int .i64 k1,.int .u64 (n1:Int),.sl (b1.map E.byte),.sl (Zh l1)]):=by
   rw[Int.toNat_natCast,ZD,List.getElem?_map,hy];rfl
  have hdr:l.drop i=It.mk k1 n1 b1 l1::l.drop (i+1):=by
   rw[List.drop_eq_getElem_cons hlt];congr 1
   have:=(List.getElem?_eq_some_iff.1 hy).2;exact this
  rw[hdr,Ym]at hfin
  rcases Int.lt_or_le m' 0 with hml|hmg
  ·have hdm:decide (m' ≥ 0)=false:=decide_eq_false (by omega)
   rw[if_pos hml]at hfin
   subst hfin
   repeat'(first|refine Zj Za Z ?_|refine Zg Za Z ?_|refine Zv Za Z ?_|refine Zi Z Z Z Qt ?_|refine Zp Z Qt Z Z ?_|refine Ze Z Qt ?_|refine Zn Za Z Z Z Z ?_)
   all_goals exact Qe
  ·have hdm:decide (m' ≥ 0)=true:=decide_eq_true (by omega)
   rw[if_neg (by omega)]at hfin
   have hmem:=List.mem_of_getElem? hy
   have hc:=ih _ hmem (d+1) m' (by omega) hmg (by omega)
   have ei:IntKind.i64.wrap ((i:Int)+1)=((i+1:Nat):Int):=by rw[IntWalk.i64_in _ (by omega)];omega
   have hgl:=Ww (.mk k1 n1 b1 l1) (d+1) m' hmg
   generalize hgr:Z7 (.mk k1 n1 b1 l1) (d+1) m'=r at hc hfin hgl
   repeat'(first|rw[ed]|rw[ei]|refine Zb hc Qk Z Z Z Z ?_|refine Zj Za Z ?_|refine Zg Za Z ?_|refine Zv Za Z ?_|refine Zi Z Z Z Qt ?_|refine Zp Z Qt Z Z ?_|refine Zd Z Qt ?_|refine Zn Za Z Z Z Z ?_|(apply Zs Za;(iterate 6 exact Z);(first|exact Qt|rotate_left);(first|with_reducible assumption|decide +kernel|exact Z);(first|exact Zf rfl|with_reducible assumption|decide +kernel|rotate_left)))
   refine Lands.mk' (m:=f-1) (by omega) ⟨i+1,r,by omega,by omega,by omega,hfin,rfl,rfl,rfl⟩ ?_ rfl rfl rfl rfl rfl rfl
   exact .cons rfl (.cons rfl (.cons rfl (.cons rfl (.cons rfl .nil))))
 ·have hdl:decide ((i:Int)<((Zh l).length:Int))=false:=decide_eq_false (by omega)
  have hdr:l.drop i=[]:=List.drop_eq_nil_of_le hge
  rw[hdr,Ym]at hfin
  subst hfin
  repeat'(first|refine Zj Za Z ?_|refine Zg Za Z ?_|refine Zv Za Z ?_|refine ZE Z Z Z Qt ?_|refine Zk Z Qt Z Z ?_|refine Ze Z Qt ?_|refine Zn Za Z Z Z Z ?_)
  all_goals exact Qe
end Go.Proofs.YtchlgagdbflkmaaDoor
end
section
open Go.RowKit Go.Pl Go.Av
namespace Go.Proofs.YtchlgagdbflkmaaDoor
mutual
def Vz:It->Nat
 | .mk _ _ _ l=>1+WC l
def WC:List It->Nat
 | []=>0
 | x::l=>Vz x+WC l
end
mutual
def KG:It->Bool
 | .mk k n b l=>Vh k n b l&&QG l
def QG:List It->Bool
 | []=>true
 | x::l=>KG x&&QG l
end
mutual
theorem IA:∀(x:It) (d m:Nat),Yz x d m=if Vy x (7-d)=true/\Vz x<=m/\KG x=true then some (m-Vz x) else none
 | .mk k n b l,d,m=>by
  rw[Yz]
  split
  ·rename_i h
   rw[if_neg]
   rintro⟨h1,_⟩
   rw[show 7-d=0 by omega,Vy]at h1
   cases h1
  rename_i hd
  rw[show 7-d=(7-(d+1))+1 by omega,Vy,Vz,KG]
  split
  ·rename_i h
   rw[if_neg]
   rintro⟨_,h1,_⟩
   omega
  rename_i hm
  cases ho:Vh k n b l with
  | false=>
   dsimp only
   rw[if_neg]
   rintro⟨_,_,h1⟩
   simp at h1
  | true=>
   dsimp only
   rw[Jn l (d+1) (m-1),Bool.true_and]
   by_cases h:WI l (7-(d+1))=true/\WC l<=m-1/\QG l=true
   ·rw[if_pos h,if_pos ⟨h.1,by omega,h.2.2⟩]
    congr 1;omega
   ·rw[if_neg h,if_neg]
    exact fun⟨a,b,c⟩=>h ⟨a,by omega,c⟩
theorem Jn:∀(l:List It) (d m:Nat),Yu l d m=if WI l (7-d)=true/\WC l<=m/\QG l=true then some (m-WC l) else none
 | [],d,m=>by rw[Yu,if_pos ⟨by rw[WI],by rw[WC];omega,by rw[QG]⟩,WC];rfl
 | x::l,d,m=>by
  rw[Yu,IA x d m,WI,WC,QG]
  by_cases h:Vy x (7-d)=true/\Vz x<=m/\KG x=true
  ·rw[if_pos h]
   dsimp only
   rw[Jn l d (m-Vz x),h.1,h.2.2,Bool.true_and,Bool.true_and]
   by_cases h2:WI l (7-d)=true/\WC l<=m-Vz x/\QG l=true
   ·rw[if_pos h2,if_pos ⟨h2.1,by omega,h2.2.2⟩]
    congr 1;omega
   ·rw[if_neg h2,if_neg]
    exact fun⟨a,b,c⟩=>h2 ⟨a,by omega,c⟩
  ·rw[if_neg h]
   dsimp only
   rw[if_neg]
   rintro⟨a,b,c⟩
   rw[Bool.and_eq_true]at a c
   exact h ⟨a.1,by omega,c.1⟩
end
mutual
theorem X7:∀(x:It) (d e:Nat),Vy x d=true->d<=e->Vy x e=true
 | .mk k n b l,0,e,h,_=>by rw[Vy]at h;cases h
 | .mk k n b l,d+1,0,h,hle=>by omega
 | .mk k n b l,d+1,e+1,h,hle=>by
  rw[Vy]at h ⊢
  exact QH l d e h (by omega)
theorem QH:∀(l:List It) (d e:Nat),WI l d=true->d<=e->WI l e=true
 | [],_,_,_,_=>by rw[WI]
 | x::l,d,e,h,hle=>by
  rw[WI,Bool.and_eq_true]at h ⊢
  exact⟨X7 x d e h.1 hle,QH l d e h.2 hle⟩
end
mutual
theorem X8:∀(x:It) (d:Nat) (m:Int),0<=Z7 x d m->(Vz x:Int)=m-Z7 x d m
 | .mk k n b l,d,m,h=>by
  rw[Z7]at h ⊢
  split at h
  ·omega
  split at h
  ·omega
  rename_i h1 h2
  rw[if_neg h1,if_neg h2,Vz]
  have:=UV l (d+1) (m-1) h
  omega
theorem UV:∀(l:List It) (d:Nat) (m:Int),0<=Ym l d m->(WC l:Int)=m-Ym l d m
 | [],d,m,h=>by rw[Ym,WC];omega
 | x::l,d,m,h=>by
  rw[Ym]at h ⊢
  split at h
  ·omega
  rename_i h1
  rw[if_neg h1,WC]
  have h0:0<=Z7 x d m:=by
   rcases Int.lt_or_le (Z7 x d m) 0 with hlt|hge
   ·have:=WW l d (Z7 x d m) (by have:=Ww x d m (by omega);omega);omega
   ·exact hge
  have a:=X8 x d m h0
  have b:=UV l d _ h
  omega
end
end Go.Proofs.YtchlgagdbflkmaaDoor
end
section
open Go.RowKit Go.Pl Go.Av
namespace Go.Proofs.YtchlgagdbflkmaaDoor
set_option maxHeartbeats 4000000
abbrev Gu (n m:Nat):It:=.mk 4 0 [] [.mk 0 n [] [],.mk 0 m [] []]
theorem Z8 (k:Int)(n:Nat)(b:List UInt8)(l:List It):(ZC (.mk k n b l)).length<=9+(b.length+(ZH l).length):=by
 rw[ZC,List.length_append,List.length_append]
 split
 ·rename_i h
  have h1:=K3 h rfl
  have h2:ZN (It.mk k n b l).hn<=8:=by
   unfold ZN
   repeat' split
   all_goals omega
  dsimp only at h1
  omega
 ·simp
theorem WJ (n:Nat):(ZC (.mk 0 n [] [])).length<=9:=by
 have:=Z8 0 n [] []
 simpa[ZH]using this
theorem JD (n m:Nat):(ZC (Gu n m)).length<=27:=by
 have h0:=Z8 4 0 [] [.mk 0 n [] [],.mk 0 m [] []]
 have h1:=WJ n
 have h2:=WJ m
 simp only[ZH,List.length_append,List.length_nil,Nat.add_zero,Nat.zero_add]at h0
 have e:Gu n m=.mk 4 0 [] [.mk 0 n [] [],.mk 0 m [] []]:=rfl
 rw[e]
 omega
abbrev VA (y:It):EidV:=match(YA y).2 with|true=>(YA y).1|false=>YJ
def QI (y p r x:It):Bool:=match(YA y).2,Y5 (VA y) p.n r.n with
 | true,true=>It.beq (QF (VA y) p.n r.n) x
 | _,_=>false
abbrev Gv (x:EidV)(t q:Nat)(b:Bool):D:=.tup [.agg (iC (match b with|true=>x|false=>YJ) (match b with|true=>t|false=>0) (match b with|true=>q|false=>0)),.int .i64 (match b with|true=>0|false=>3)]
def QJ:It->Bool
 | .mk k _ _ [_,.mk k2 _ _ [_,_]]=>!(k==4&&k2==4)
 | _=>true
theorem X9 [Known][KnownU8](x:It)(h:QJ x=true):AP Tryd.prog 25 [itD x] (Gv YJ 0 0 false) []:=by
 show AP Tryd.prog _ _ (.tup [.agg [.bool false,.int .u64 0,.int .u64 0,.str [],.str [],.int .u64 0,.int .u64 0],.int .i64 3]) []
 obtain⟨k,n,b,l⟩:=x
 by_cases hk:k=4
 ·have t1:(k != 4)=false:=by simpa using hk
  by_cases hl:l.length=2
  ·obtain⟨y,z,rfl⟩:∃ y z,l=[y,z]:=by
    match l,hl with
    | [y,z],_=>exact⟨y,z,rfl⟩
   have t2:(((Zh [y,z]).length:Int) != 2)=false:=rfl
   have hU:=Yb [y,z]
   obtain⟨ky,ny,bY,ly⟩:=y
   obtain⟨kz,nz,bz,lz⟩:=z
   by_cases hk2:kz=4
   ·have t3:(kz != 4)=false:=by simpa using hk2
    have hl2:lz.length ≠ 2:=by
     intro e
     match lz,e with
     | [p,r],_=>simp[QJ,hk,hk2]at h
    have t4:(((Zh lz).length:Int) != 2)=true:=by rw[Zl];simp;omega
    refine AP.ofA (Zm Tryd.func25 Z Tryd.ntmps25 Z Z ?_)
    repeat'(first|refine Zj Za Z ?_|refine Zg Za Z ?_|refine Zv Za Z ?_|refine Zi Z Z Z Qt ?_|refine Zk Z Qt Z Z ?_|refine Zd Z Qt ?_|refine Zn Za Z Z Z Z ?_|(apply Zs Za;(iterate 6 exact Z);(first|exact Qt|rotate_left);(first|with_reducible assumption|decide +kernel|exact Z);(first|exact Zf rfl|with_reducible assumption|decide +kernel|rotate_left)))
    all_goals exact Qe
   ·have t3:(kz != 4)=true:=by simpa using hk2
    refine AP.ofA (Zm Tryd.func25 Z Tryd.ntmps25 Z Z ?_)
    repeat'(first|refine Zj Za Z ?_|refine Zg Za Z ?_|refine Zv Za Z ?_|refine Zi Z Z Z Qt ?_|refine Zw Z Z Z Qt ?_|refine Zp Z Qt Z Z ?_|refine Zk Z Qt Z Z ?_|refine Zd Z Qt ?_|refine Zn Za Z Z Z Z ?_|(apply Zs Za;(iterate 6 exact Z);(first|exact Qt|rotate_left);(first|with_reducible assumption|decide +kernel|exact Z);(first|exact Zf rfl|with_reducible assumption|decide +kernel|rotate_left)))
    all_goals exact Qe
  ·have t2:(((Zh l).length:Int) != 2)=true:=by rw[Zl];simp;omega
   refine AP.ofA (Zm Tryd.func25 Z Tryd.ntmps25 Z Z ?_)
   repeat'(first|refine Zj Za Z ?_|refine Zg Za Z ?_|refine Zv Za Z ?_|refine Zi Z Z Z Qt ?_|refine Zw Z Z Z Qt ?_|refine Zp Z Qt Z Z ?_|refine Zk Z Qt Z Z ?_|refine Zd Z Qt ?_|refine Zn Za Z Z Z Z ?_)
   all_goals exact Qe
 ·have t1:(k != 4)=true:=by simpa using hk
  refine AP.ofA (Zm Tryd.func25 Z Tryd.ntmps25 Z Z ?_)
  repeat'(first|refine Zj Za Z ?_|refine Zg Za Z ?_|refine Zv Za Z ?_|refine Zw Z Z Z Qt ?_|refine Zp Z Qt Z Z ?_|refine Zd Z Qt ?_)
  all_goals exact Qe
end Go.Proofs.YtchlgagdbflkmaaDoor
end
