/- Package ident: an item of a number's form. -/
import Derived.Test.YtchlgagdbflkmaaDoorS25
import Derived.Test.YtchlgagdbflkmaaDoorS24
import Derived.Test.YtchlgagdbflkmaaDoorS20
import Derived.Test.YtchlgagdbflkmaaDoorS21
import Derived.Test.YtchlgagdbflkmaaDoorS11
import Derived.Laws.BitsAllLaws
set_option linter.unusedVariables false
set_option linter.unusedSimpArgs false
section
open Go.RowKit Go.Pl Go.Av
namespace Go.Proofs.YtchlgagdbflkmaaDoor
set_option maxHeartbeats 4000000
theorem HH [Known](y z:It)(n:Nat)(b:List UInt8)(n2:Nat)(b2:List UInt8)(kp:Int)(np:Nat)(bp:List UInt8)(lp:List It)(kr:Int)(nr:Nat)(br:List UInt8)(lr:List It)(c:Int)
  (hE:AP Tryd.prog 24 [itD y] (.tup [.agg (eC YJ),.int .i64 3]) []) (hW:AP Tryd.prog 23 [.agg (iC YJ np nr)] (.tup [itD z,.int .i64 c]) []) :
  AP Tryd.prog 25 [itD (.mk 4 n b [y,.mk 4 n2 b2 [.mk kp np bp lp,.mk kr nr br lr]])] (.tup [.agg (iC YJ 0 0),.int .i64 3]) []:=by
 have hU:=Yb [y,.mk 4 n2 b2 [.mk kp np bp lp,.mk kr nr br lr]]
 have hU2:=Yb [.mk kp np bp lp,.mk kr nr br lr]
 have t2:(((Zh [y,.mk 4 n2 b2 [.mk kp np bp lp,.mk kr nr br lr]]).length:Int) != 2)=false:=rfl
 have t3:(((Zh [.mk kp np bp lp,.mk kr nr br lr]).length:Int) != 2)=false:=rfl
 obtain⟨yk,yn,yb,yl⟩:=y
 obtain⟨zk,zn,zb,zl⟩:=z
 replace hE:AP Tryd.prog _ [.agg [.int .i64 yk,.int .u64 (yn:Int),byE yb,.sl .ext (Zh yl)]] (.tup [.agg [.bool false,.int .u64 0,.int .u64 0,.str [],.str []],.int .i64 3]) []:=hE
 replace hW:AP Tryd.prog _ [.agg [.bool false,.int .u64 0,.int .u64 0,.str [],.str [],.int .u64 (np:Int),.int .u64 (nr:Int)]] (.tup [.agg [.int .i64 zk,.int .u64 (zn:Int),byE zb,.sl .ext (Zh zl)],.int .i64 c]) []:=hW
 refine AP.ofA (Zm Tryd.func25 Z Tryd.ntmps25 Z Z ?_)
 repeat'(first|refine Zb hE Qk Z Z Z Z ?_|refine Zb hW Qk Z Z Z Z ?_|refine Zj Za Z ?_|refine Zg Za Z ?_|refine Zv Za Z ?_|refine Zi Z Z Z Qt ?_|refine Zw Z Z Z Qt ?_|refine Zp Z Qt Z Z ?_|refine Zk Z Qt Z Z ?_|refine Zd Z Qt ?_|refine Ze Z Qt ?_|refine Zn Za Z Z Z Z ?_|(apply Zo 19 ZG;decide +kernel;kernel_rfl;kernel_rfl;kernel_rfl;exact Z;exact Z)|(apply Zr;(iterate 4 exact Z))|exact AE.nil _ _ _ _|(apply Zt;exact Z)|(apply Z4;exact Z)|(apply Zx;exact Z;exact Z;decide +kernel;exact Z)|(apply Zz;exact Z)|(apply Yl;exact Z)|exact AO.nil _ _ _|(apply Zq;(decide +kernel))|(apply ZY;(iterate 3 exact Z))|exact AOs.nil|exact ZM rfl rfl|exact YM rfl rfl|(apply Zs Za;(iterate 6 exact Z);(first|exact Qt|rotate_left);(first|with_reducible assumption|decide +kernel|exact Z);(first|exact Zf rfl|with_reducible assumption|decide +kernel|rotate_left)))
 all_goals exact Qe
theorem HI [Known](x:EidV)(y z:It)(n:Nat)(b:List UInt8)(n2:Nat)(b2:List UInt8)(kp:Int)(np:Nat)(bp:List UInt8)(lp:List It)(kr:Int)(nr:Nat)(br:List UInt8)(lr:List It)
  (hE:AP Tryd.prog 24 [itD y] (.tup [.agg (eC x),.int .i64 0]) []) (hW:AP Tryd.prog 23 [.agg (iC x np nr)] (.tup [itD z,.int .i64 3]) []) :
  AP Tryd.prog 25 [itD (.mk 4 n b [y,.mk 4 n2 b2 [.mk kp np bp lp,.mk kr nr br lr]])] (.tup [.agg (iC YJ 0 0),.int .i64 3]) []:=by
 have hU:=Yb [y,.mk 4 n2 b2 [.mk kp np bp lp,.mk kr nr br lr]]
 have hU2:=Yb [.mk kp np bp lp,.mk kr nr br lr]
 have t2:(((Zh [y,.mk 4 n2 b2 [.mk kp np bp lp,.mk kr nr br lr]]).length:Int) != 2)=false:=rfl
 have t3:(((Zh [.mk kp np bp lp,.mk kr nr br lr]).length:Int) != 2)=false:=rfl
 obtain⟨yk,yn,yb,yl⟩:=y
 obtain⟨zk,zn,zb,zl⟩:=z
 obtain⟨xi,xn,xs,xh,xd⟩:=x
 replace hE:AP Tryd.prog _ [.agg [.int .i64 yk,.int .u64 (yn:Int),byE yb,.sl .ext (Zh yl)]] (.tup [.agg [.bool xi,.int .u64 (xn:Int),.int .u64 (xs:Int),.str xh,.str xd],.int .i64 0]) []:=hE
 replace hW:AP Tryd.prog _ [.agg [.bool xi,.int .u64 (xn:Int),.int .u64 (xs:Int),.str xh,.str xd,.int .u64 (np:Int),.int .u64 (nr:Int)]] (.tup [.agg [.int .i64 zk,.int .u64 (zn:Int),byE zb,.sl .ext (Zh zl)],.int .i64 3]) []:=hW
 refine AP.ofA (Zm Tryd.func25 Z Tryd.ntmps25 Z Z ?_)
 repeat'(first|refine Zb hE Qk Z Z Z Z ?_|refine Zb hW Qk Z Z Z Z ?_|refine Zj Za Z ?_|refine Zg Za Z ?_|refine Zv Za Z ?_|refine Zi Z Z Z Qt ?_|refine Zw Z Z Z Qt ?_|refine Zp Z Qt Z Z ?_|refine Zk Z Qt Z Z ?_|refine Zd Z Qt ?_|refine Ze Z Qt ?_|refine Zn Za Z Z Z Z ?_|(apply Zo 19 ZG;decide +kernel;kernel_rfl;kernel_rfl;kernel_rfl;exact Z;exact Z)|(apply Zr;(iterate 4 exact Z))|exact AE.nil _ _ _ _|(apply Zt;exact Z)|(apply Z4;exact Z)|(apply Zx;exact Z;exact Z;decide +kernel;exact Z)|(apply Zz;exact Z)|(apply Yl;exact Z)|exact AO.nil _ _ _|(apply Zq;(decide +kernel))|(apply ZY;(iterate 3 exact Z))|exact AOs.nil|exact ZM rfl rfl|exact YM rfl rfl|(apply Zs Za;(iterate 6 exact Z);(first|exact Qt|rotate_left);(first|with_reducible assumption|decide +kernel|exact Z);(first|exact Zf rfl|with_reducible assumption|decide +kernel|rotate_left)))
 all_goals exact Qe
theorem HJ [Known](x:EidV)(y z:It)(n:Nat)(b:List UInt8)(n2:Nat)(b2:List UInt8)(kp:Int)(np:Nat)(bp:List UInt8)(lp:List It)(kr:Int)(nr:Nat)(br:List UInt8)(lr:List It)(R:Bool)
  (hE:AP Tryd.prog 24 [itD y] (.tup [.agg (eC x),.int .i64 0]) []) (hW:AP Tryd.prog 23 [.agg (iC x np nr)] (.tup [itD z,.int .i64 0]) [])
  (hS:AP Tryd.prog 18 [itD z,itD (.mk 4 n b [y,.mk 4 n2 b2 [.mk kp np bp lp,.mk kr nr br lr]])] (.bool R) []) :
  AP Tryd.prog 25 [itD (.mk 4 n b [y,.mk 4 n2 b2 [.mk kp np bp lp,.mk kr nr br lr]])] (Gv x np nr R) []:=by
 have hU:=Yb [y,.mk 4 n2 b2 [.mk kp np bp lp,.mk kr nr br lr]]
 have hU2:=Yb [.mk kp np bp lp,.mk kr nr br lr]
 have t2:(((Zh [y,.mk 4 n2 b2 [.mk kp np bp lp,.mk kr nr br lr]]).length:Int) != 2)=false:=rfl
 have t3:(((Zh [.mk kp np bp lp,.mk kr nr br lr]).length:Int) != 2)=false:=rfl
 obtain⟨yk,yn,yb,yl⟩:=y
 obtain⟨zk,zn,zb,zl⟩:=z
 obtain⟨xi,xn,xs,xh,xd⟩:=x
 replace hE:AP Tryd.prog _ [.agg [.int .i64 yk,.int .u64 (yn:Int),byE yb,.sl .ext (Zh yl)]] (.tup [.agg [.bool xi,.int .u64 (xn:Int),.int .u64 (xs:Int),.str xh,.str xd],.int .i64 0]) []:=hE
 replace hW:AP Tryd.prog _ [.agg [.bool xi,.int .u64 (xn:Int),.int .u64 (xs:Int),.str xh,.str xd,.int .u64 (np:Int),.int .u64 (nr:Int)]] (.tup [.agg [.int .i64 zk,.int .u64 (zn:Int),byE zb,.sl .ext (Zh zl)],.int .i64 0]) []:=hW
 replace hS:AP Tryd.prog _ [.agg [.int .i64 zk,.int .u64 (zn:Int),byE zb,.sl .ext (Zh zl)],itD (.mk 4 n b [.mk yk yn yb yl,.mk 4 n2 b2 [.mk kp np bp lp,.mk kr nr br lr]])] (.bool R) []:=hS
 cases R with
 | true=>
  show AP Tryd.prog _ _ (.tup [.agg [.bool xi,.int .u64 (xn:Int),.int .u64 (xs:Int),.str xh,.str xd,.int .u64 (np:Int),.int .u64 (nr:Int)],.int .i64 0]) []
  refine AP.ofA (Zm Tryd.func25 Z Tryd.ntmps25 Z Z ?_)
  repeat'(first|refine Zb hE Qk Z Z Z Z ?_|refine Zb hW Qk Z Z Z Z ?_|refine Zb hS Qk Z Z Z Z ?_|refine Zj Za Z ?_|refine Zg Za Z ?_|refine Zv Za Z ?_|refine Zi Z Z Z Qt ?_|refine Zk Z Qt Z Z ?_|refine Ze Z Qt ?_|refine Zn Za Z Z Z Z ?_|(apply Zo 19 ZG;decide +kernel;kernel_rfl;kernel_rfl;kernel_rfl;exact Z;exact Z)|(apply Zr;(iterate 4 exact Z))|exact AE.nil _ _ _ _|(apply Zt;exact Z)|(apply Z4;exact Z)|(apply Zx;exact Z;exact Z;decide +kernel;exact Z)|(apply Zz;exact Z)|(apply Yl;exact Z)|exact AO.nil _ _ _|(apply Zq;(decide +kernel))|(apply ZY;(iterate 3 exact Z))|exact AOs.nil|exact ZM rfl rfl|exact YM rfl rfl|(apply Zs Za;(iterate 6 exact Z);(first|exact Qt|rotate_left);(first|with_reducible assumption|decide +kernel|exact Z);(first|exact Zf rfl|with_reducible assumption|decide +kernel|rotate_left)))
  all_goals exact Qe
 | false=>
  show AP Tryd.prog _ _ (.tup [.agg [.bool false,.int .u64 0,.int .u64 0,.str [],.str [],.int .u64 0,.int .u64 0],.int .i64 3]) []
  refine AP.ofA (Zm Tryd.func25 Z Tryd.ntmps25 Z Z ?_)
  repeat'(first|refine Zb hE Qk Z Z Z Z ?_|refine Zb hW Qk Z Z Z Z ?_|refine Zb hS Qk Z Z Z Z ?_|refine Zj Za Z ?_|refine Zg Za Z ?_|refine Zv Za Z ?_|refine Zi Z Z Z Qt ?_|refine Zk Z Qt Z Z ?_|refine Zd Z Qt ?_|refine Ze Z Qt ?_|refine Zn Za Z Z Z Z ?_|(apply Zo 19 ZG;decide +kernel;kernel_rfl;kernel_rfl;kernel_rfl;exact Z;exact Z)|(apply Zr;(iterate 4 exact Z))|exact AE.nil _ _ _ _|(apply Zt;exact Z)|(apply Z4;exact Z)|(apply Zx;exact Z;exact Z;decide +kernel;exact Z)|(apply Zz;exact Z)|(apply Yl;exact Z)|exact AO.nil _ _ _|(apply Zq;(decide +kernel))|(apply ZY;(iterate 3 exact Z))|exact AOs.nil|exact ZM rfl rfl|exact YM rfl rfl|(apply Zs Za;(iterate 6 exact Z);(first|exact Qt|rotate_left);(first|with_reducible assumption|decide +kernel|exact Z);(first|exact Zf rfl|with_reducible assumption|decide +kernel|rotate_left)))
  all_goals exact Qe
theorem XA [Known][KnownU8](n:Nat)(b:List UInt8)(y:It)(n2:Nat)(b2:List UInt8)(p r:It)(hw:wfI (.mk 4 n b [y,.mk 4 n2 b2 [p,r]])) :
  AP Tryd.prog 25 [itD (.mk 4 n b [y,.mk 4 n2 b2 [p,r]])] (Gv (VA y) p.n r.n (QI y p r (.mk 4 n b [y,.mk 4 n2 b2 [p,r]]))) []:=by
 have hwy:wfI y:=hw.2.2.2.1
 have hE:=QD y hwy
 have hW:=UF (VA y) p.n r.n
 unfold QI
 cases hv:(YA y).2 with
 | false=>
  have e0:VA y=YJ:=by unfold VA;rw[hv]
  unfold Oh at hE
  rw[hv]at hE
  rw[e0]at hW
  obtain⟨kp,np,bp,lp⟩:=p
  obtain⟨kr,nr,br,lr⟩:=r
  exact HH y _ n b n2 b2 kp np bp lp kr nr br lr _ hE hW
 | true=>
  have e0:VA y=(YA y).1:=by unfold VA;rw[hv]
  unfold Oh at hE
  rw[hv]at hE
  rw[<- e0]at hE
  cases hr:Y5 (VA y) p.n r.n with
  | false=>
   rw[hr]at hW
   obtain⟨kp,np,bp,lp⟩:=p
   obtain⟨kr,nr,br,lr⟩:=r
   exact HI _ y _ n b n2 b2 kp np bp lp kr nr br lr hE hW
  | true=>
   rw[hr,if_pos rfl,if_pos rfl]at hW
   have hS:=Ue _ (Iw hr) _ hw
   obtain⟨kp,np,bp,lp⟩:=p
   obtain⟨kr,nr,br,lr⟩:=r
   exact HJ _ y _ n b n2 b2 kp np bp lp kr nr br lr _ hE hW hS
def Wo (z:It):EidV × Nat × Nat × Bool:=match z with
 | .mk k n b [y,.mk k2 n2 b2 [p,r]]=>(match k==4&&k2==4 with
  | false=>(YJ,0,0,false)
  | true=>match QI y p r (.mk k n b [y,.mk k2 n2 b2 [p,r]]) with
   | true=>(VA y,p.n,r.n,true)
   | false=>(YJ,0,0,false))
 | _=>(YJ,0,0,false)
theorem IB [Known][KnownU8](z:It)(hw:wfI z):AP Tryd.prog 25 [itD z] (.tup [.agg (iC (Wo z).1 (Wo z).2.1 (Wo z).2.2.1),.int .i64 (match(Wo z).2.2.2 with|true=>0|false=>3)]) []:=by
 cases h:QJ z with
 | true=>
  have e:Wo z=(YJ,0,0,false):=by
   unfold QJ at h
   unfold Wo
   split at h
   ·rw[Bool.not_eq_true']at h
    first|(rw[h];done)|(dsimp only;rw[h])
   ·rename_i hno
    first|rfl|(split<;>first|exact absurd rfl (hno _ _ _ _ _ _ _ _ _)|rfl)
  rw[e]
  exact X9 z h
 | false=>
  obtain⟨n,b,y,n2,b2,p,r,rfl⟩:∃ n b y n2 b2 p r,z=.mk 4 n b [y,.mk 4 n2 b2 [p,r]]:=by
   unfold QJ at h
   split at h
   ·simp only[Bool.not_eq_false',Bool.and_eq_true,beq_iff_eq]at h
    obtain⟨rfl,rfl⟩:=h
    exact⟨_,_,_,_,_,_,_,rfl⟩
   ·cases h
  have hR:=XA n b y n2 b2 p r hw
  have e:Wo (.mk 4 n b [y,.mk 4 n2 b2 [p,r]])=(match QI y p r (.mk 4 n b [y,.mk 4 n2 b2 [p,r]]) with
   | true=>(VA y,p.n,r.n,true)
   | false=>(YJ,0,0,false)):=rfl
  rw[e]
  unfold Gv at hR
  cases hb:QI y p r (.mk 4 n b [y,.mk 4 n2 b2 [p,r]]) with
  | false=>rw[hb]at hR;exact hR
  | true=>rw[hb]at hR;exact hR
theorem QK {x:EidV}(h:Ye x=true):(ZC (Y6 x)).length<=200:=by
 unfold Y6
 repeat' split
 ·exact Nat.le_trans (JD 1 0) (by decide)
 ·have h0:=Z8 4 0 [] [.mk 0 2 [] [],Gu x.n x.s]
  have h1:=WJ 2
  have h2:=JD x.n x.s
  simp only[ZH,List.length_append,List.length_nil,Nat.add_zero,Nat.zero_add]at h0
  exact Nat.le_trans h0 (by omega)
 ·have h0:=Z8 4 0 [] [.mk 0 1 [] [],.mk 3 0 (Vw x) []]
  have h1:=WJ 1
  have h2:=Z8 3 0 (Vw x) []
  rename_i hz hi
  have h3:(Vw x).length<=100:=by
   have ht:=VX h (by simpa using hz) (by simpa using hi)
   simp only[Vw,List.length_append,List.length_cons,List.length_nil]
   omega
  simp only[ZH,List.length_append,List.length_nil,Nat.add_zero,Nat.zero_add]at h0 h2
  exact Nat.le_trans h0 (by omega)
theorem Oj (a c:List It):ZH (a++c)=ZH a++ZH c:=by
 induction a with
 | nil=>rfl
 | cons y a ih=>rw[List.cons_append,ZH,ZH,ih,List.append_assoc]
theorem HK {p:PriV}(h:Wl p=true)(s:Nat)(hs:s=1\/s=2):(ZC (ZI s (Yk p))).length<=1000000000:=by
 obtain⟨h1,h2,h3,h4,h5,h6⟩:=Um h
 obtain⟨i1,_,_⟩:=Va.1 h5
 have h0:=Z8 4 0 [] (Yk p++[.mk 2 0 (List.replicate (2*s) 0) []])
 have hb:=Z8 2 0 (List.replicate (2*s) 0) []
 have n1:=WJ 7
 have n2:=WJ p.fl
 have n3:=WJ p.sum.toNat
 have n4:=QK h3
 have n5:=QK i1
 have n6:=QK h4
 have n7:=JD p.t p.q
 have n8:=WJ p.life
 have e7:Gu p.t p.q=.mk 4 0 [] [.mk 0 p.t [] [],.mk 0 p.q [] []]:=rfl
 rw[e7]at n7
 rw[Oj]at h0
 simp only[Yk,ZH,List.length_append,List.length_nil,List.length_replicate,Nat.add_zero,Nat.zero_add]at h0 hb
 show(ZC (.mk 4 0 [] (Yk p++[.mk 2 0 (List.replicate (2*s) 0) []]))).length<=1000000000
 exact Nat.le_trans h0 (by omega)
theorem VY [Known][KnownU8](p:PriV)(hfl:p.fl<18446744073709551616):AP Tryd.prog 9 [.agg (prC p)] (Xi (Wn p)) []:=by
 cases h:Wl p with
 | true=>exact Oi p hfl (HK h)
 | false=>
  have hR:=UC p
  unfold Wn
  rw[h]at hR ⊢
  obtain⟨fl,sum,⟨di,dn,ds,dh,dd⟩,⟨ri,rn,rs,rh,rd⟩,⟨xi,xn,xs,xh,xd⟩,t,q,life⟩:=p
  dsimp only[z0]at *
  refine AP.ofA (Zm Tryd.func9 Z Tryd.ntmps9 Z Z ?_)
  repeat'(first|refine Zb hR Qk Z Z Z Z ?_|refine Zj Za Z ?_|refine Zg Za Z ?_|refine Zv Za Z ?_|refine Zd Z Qt ?_)
  all_goals exact Qe
theorem Ok {p:PriV}(hfl:p.fl<18446744073709551616):wfI (Wn p).1:=by
 unfold Wn
 cases h:Wl p with
 | false=>exact GF
 | true=>exact Gt 2 (Ix h hfl) (by simp[Yk])
def pr0:PriV:=⟨0,0,YJ,YJ,YJ,0,0,0⟩
abbrev prD (r:PriV × Int):D:=.tup [.agg (prC r.1),.int .i64 r.2]
def eZ (y:It):EidV:=match(YA y).2 with|true=>(YA y).1|false=>YJ
def Jo (m1 m2 m3 m4 m5 m6 m7:It):PriV:=⟨m1.n,IntKind.i64.wrap (m2.n:Int),eZ m3,eZ m5,(Wo (.mk 4 0 [] [m4,m6])).1,(Wo (.mk 4 0 [] [m4,m6])).2.1,(Wo (.mk 4 0 [] [m4,m6])).2.2.1,m7.n⟩
def GG (x:It)(o:List It × Int):PriV × Int:=match o.2 != 0 with
 | true=>(pr0,o.2)
 | false=>match o.1 with
  | [_,m1,m2,m3,m4,m5,m6,m7]=>(match(YA m3).2&&((YA m5).2&&(Wo (.mk 4 0 [] [m4,m6])).2.2.2) with
   | false=>(pr0,3)
   | true=>match(Wn (Jo m1 m2 m3 m4 m5 m6 m7)).2 != 0 with
    | true=>(pr0,3)
    | false=>match It.beq (Wn (Jo m1 m2 m3 m4 m5 m6 m7)).1 x with
     | false=>(pr0,3)
     | true=>(Jo m1 m2 m3 m4 m5 m6 m7,0))
  | _=>(pr0,3)
def XB (x:It):PriV × Int:=GG x (UT x 2)
theorem QL [Known][KnownU8](x:It)(hw:wfI x)(hxl:x.l.length<=1000000)(hlim:∀ s m,s=1\/s=2->(ZC (ZI s (x.l.take m))).length<=1000000000):AP Tryd.prog 10 [itD x] (prD (XB x)) []:=by
 have hO:=KB x 2 hw hxl hlim
 have hsub:=Iy x 2
 have hws:wfs x.l:=by obtain⟨k,n,b,l⟩:=x;exact hw.2.2.2
 unfold XB
 generalize UT x 2=o at *
 obtain⟨ol,oe⟩:=o
 have hlen:=Zl ol
 have hUo:=Yb ol
 dsimp only at hsub
 have hSame:=fun(B:PriV) (h1:B.fl<18446744073709551616)=>Ue (Wn B).1 (Ok h1) x hw
 obtain⟨k,n,b,l⟩:=x
 dsimp only[It.l]at *
 unfold GG
 dsimp only
 replace hO:AP Tryd.prog 8 [.agg [.int .i64 k,.int .u64 (n:Int),byE b,.sl .ext (Zh l)],.int .i64 2] (.tup [.sl .ext (Zh ol),.int .i64 oe]) []:=hO
 cases t1:(oe != 0) with
 | true=>exact HX k n b _ _ oe hO t1
 | false=>
 have hno:ol.length ≠ 8->AP Tryd.prog 10 [itD (.mk k n b l)] (prD (pr0,3)) []:=fun h=>HY k n b _ _ oe hO t1 (by rw[hlen];simp;omega)
 match ol,hO,hsub,hlen,hUo,hno with
 | [],_,_,_,_,h=>exact h (by simp)
 | [_],_,_,_,_,h=>exact h (by simp)
 | [_,_],_,_,_,_,h=>exact h (by simp)
 | [_,_,_],_,_,_,_,h=>exact h (by simp)
 | [_,_,_,_],_,_,_,_,h=>exact h (by simp)
 | [_,_,_,_,_],_,_,_,_,h=>exact h (by simp)
 | [_,_,_,_,_,_],_,_,_,_,h=>exact h (by simp)
 | [_,_,_,_,_,_,_],_,_,_,_,h=>exact h (by simp)
 | _::_::_::_::_::_::_::_::_::_,_,_,_,_,h=>exact h (by simp)
 | [.mk k0 n0 b0 l0,.mk k1 n1 b1 l1,.mk k2 n2 b2 l2,.mk k3 n3 b3 l3,.mk k4 n4 b4 l4,.mk k5 n5 b5 l5,.mk k6 n6 b6 l6,.mk k7 n7 b7 l7],hO,hsub,hlen,hUo,_=>
 have hwm:∀ y ∈ [It.mk k0 n0 b0 l0,.mk k1 n1 b1 l1,.mk k2 n2 b2 l2,.mk k3 n3 b3 l3,.mk k4 n4 b4 l4,.mk k5 n5 b5 l5,.mk k6 n6 b6 l6,.mk k7 n7 b7 l7],wfI y:=fun y hy=>ZX hws y (hsub y hy)
 clear hsub
 have t2:(((Zh [It.mk k0 n0 b0 l0,.mk k1 n1 b1 l1,.mk k2 n2 b2 l2,.mk k3 n3 b3 l3,.mk k4 n4 b4 l4,.mk k5 n5 b5 l5,.mk k6 n6 b6 l6,.mk k7 n7 b7 l7]).length:Int) != 8)=false:=by rw[hlen];rfl
 dsimp only
 have w1:n1<18446744073709551616:=(hwm (.mk k1 n1 b1 l1) (by simp)).1
 have w3:=hwm (.mk k3 n3 b3 l3) (by simp)
 have w4:=hwm (.mk k4 n4 b4 l4) (by simp)
 have w5:=hwm (.mk k5 n5 b5 l5) (by simp)
 have w6:=hwm (.mk k6 n6 b6 l6) (by simp)
 have w46:wfI (.mk 4 0 [] [.mk k4 n4 b4 l4,.mk k6 n6 b6 l6]):=⟨by decide,by simp,by simp,w4,w6,trivial⟩
 have hD:AP Tryd.prog 24 [itD (.mk k3 n3 b3 l3)] (.tup [.agg (eC (eZ (.mk k3 n3 b3 l3))),.int .i64 (match(YA (.mk k3 n3 b3 l3)).2 with|true=>0|false=>3)]) []:=QD _ w3
 have hR:AP Tryd.prog 24 [itD (.mk k5 n5 b5 l5)] (.tup [.agg (eC (eZ (.mk k5 n5 b5 l5))),.int .i64 (match(YA (.mk k5 n5 b5 l5)).2 with|true=>0|false=>3)]) []:=QD _ w5
 have hI:=IB _ w46
 have hL:=Y2 [.mk k4 n4 b4 l4,.mk k6 n6 b6 l6] (by simp) ⟨w4,w6,trivial⟩
 have hW:=VY (Jo (.mk k1 n1 b1 l1) (.mk k2 n2 b2 l2) (.mk k3 n3 b3 l3) (.mk k4 n4 b4 l4) (.mk k5 n5 b5 l5) (.mk k6 n6 b6 l6) (.mk k7 n7 b7 l7)) w1
 have hS:=hSame (Jo (.mk k1 n1 b1 l1) (.mk k2 n2 b2 l2) (.mk k3 n3 b3 l3) (.mk k4 n4 b4 l4) (.mk k5 n5 b5 l5) (.mk k6 n6 b6 l6) (.mk k7 n7 b7 l7)) w1
 clear hSame hwm w3 w4 w5 w6 w46 w1 hws hlim hw
 unfold Jo at *
 dsimp only[It.n]at *
 generalize eZ (.mk k3 n3 b3 l3)=dz at *
 generalize eZ (.mk k5 n5 b5 l5)=rz at *
 generalize (YA (.mk k3 n3 b3 l3)).2=d2 at *
 generalize (YA (.mk k5 n5 b5 l5)).2=r2 at *
 generalize Wo (.mk 4 0 [] [.mk k4 n4 b4 l4,.mk k6 n6 b6 l6])=u at *
 obtain⟨u,ut,uq,u2⟩:=u
 try dsimp only at *
 generalize Wn ⟨n1,IntKind.i64.wrap (n2:Int),dz,rz,u,ut,uq,n7⟩=wr at *
 obtain⟨⟨wk,wn,wb,wl⟩,we⟩:=wr
 try dsimp only at *
 cases d2 with
 | false=>exact(UG k n b _ _ oe k0 n0 b0 l0 k1 n1 b1 l1 k2 n2 b2 l2 k3 n3 b3 l3 k4 n4 b4 l4 k5 n5 b5 l5 k6 n6 b6 l6 k7 n7 b7 l7 dz.i dz.n dz.s dz.h dz.d rz.i rz.n rz.s rz.h rz.d u.i u.n u.s u.h u.d ut uq _ _ _ we wk wn wb _ _ hO t1 t2 hUo rfl rfl rfl rfl rfl rfl rfl hD hR hL hI hW hS).1 rfl
 | true=>
 cases r2 with
 | false=>exact(UG k n b _ _ oe k0 n0 b0 l0 k1 n1 b1 l1 k2 n2 b2 l2 k3 n3 b3 l3 k4 n4 b4 l4 k5 n5 b5 l5 k6 n6 b6 l6 k7 n7 b7 l7 dz.i dz.n dz.s dz.h dz.d rz.i rz.n rz.s rz.h rz.d u.i u.n u.s u.h u.d ut uq _ _ _ we wk wn wb _ _ hO t1 t2 hUo rfl rfl rfl rfl rfl rfl rfl hD hR hL hI hW hS).2.1 rfl rfl
 | true=>
 cases u2 with
 | false=>exact(UG k n b _ _ oe k0 n0 b0 l0 k1 n1 b1 l1 k2 n2 b2 l2 k3 n3 b3 l3 k4 n4 b4 l4 k5 n5 b5 l5 k6 n6 b6 l6 k7 n7 b7 l7 dz.i dz.n dz.s dz.h dz.d rz.i rz.n rz.s rz.h rz.d u.i u.n u.s u.h u.d ut uq _ _ _ we wk wn wb _ _ hO t1 t2 hUo rfl rfl rfl rfl rfl rfl rfl hD hR hL hI hW hS).2.2 rfl rfl rfl
 | true=>
 try dsimp only[Bool.and_self]
 cases t4:(we != 0) with
 | true=>exact(UH k n b _ _ oe k0 n0 b0 l0 k1 n1 b1 l1 k2 n2 b2 l2 k3 n3 b3 l3 k4 n4 b4 l4 k5 n5 b5 l5 k6 n6 b6 l6 k7 n7 b7 l7 dz.i dz.n dz.s dz.h dz.d rz.i rz.n rz.s rz.h rz.d u.i u.n u.s u.h u.d ut uq _ _ _ we wk wn wb _ _ hO t1 t2 hUo rfl rfl rfl rfl rfl rfl rfl hD hR hL hI hW hS rfl rfl rfl).1 t4
 | false=>
 try dsimp only
 cases t5:It.beq (.mk wk wn wb wl) (.mk k n b l) with
 | false=>
  rw[t5]at hS
  exact(UH k n b _ _ oe k0 n0 b0 l0 k1 n1 b1 l1 k2 n2 b2 l2 k3 n3 b3 l3 k4 n4 b4 l4 k5 n5 b5 l5 k6 n6 b6 l6 k7 n7 b7 l7 dz.i dz.n dz.s dz.h dz.d rz.i rz.n rz.s rz.h rz.d u.i u.n u.s u.h u.d ut uq _ _ _ we wk wn wb _ _ hO t1 t2 hUo rfl rfl rfl rfl rfl rfl rfl hD hR hL hI hW hS rfl rfl rfl).2.1 t4 hS
 | true=>
  rw[t5]at hS
  exact(UH k n b _ _ oe k0 n0 b0 l0 k1 n1 b1 l1 k2 n2 b2 l2 k3 n3 b3 l3 k4 n4 b4 l4 k5 n5 b5 l5 k6 n6 b6 l6 k7 n7 b7 l7 dz.i dz.n dz.s dz.h dz.d rz.i rz.n rz.s rz.h rz.d u.i u.n u.s u.h u.d ut uq _ _ _ we wk wn wb _ _ hO t1 t2 hUo rfl rfl rfl rfl rfl rfl rfl hD hR hL hI hW hS rfl rfl rfl).2.2 t4 hS
theorem Ka [Known][KnownU8](p:PriV)(hfl:p.fl<18446744073709551616)(s:Nat)(hs:s=1\/s=2)(hps:p.sum=(s:Int))(hr:Wl p=true)(hlim:(ZC (ZI s (Yk p))).length<=1000000000)
  (hA:(Yk p).all ZB=true) (hz:ZB (ZI s (Yk p))=true) (hro:ZB (WD s (Yk p))=true) :
  AF Tryd.prog 9 [.agg (prC p)] 9 (fun c=>.tup [.agg [.int .i64 4,.int .u64 0,.sl .ext [],.bsl 0 0 9 c],.int .i64 0]) (fun c=>[[.row (c*4) (flat (Zh (WD s (Yk p)).l))]]):=by
 have hR:=UC p
 rw[hr]at hR
 obtain⟨h1,h2,h3,h4,h5,h6⟩:=Um hr
 have hty:Yp (Yk p) 2=(s:Int):=by
  have e:p.sum.toNat=s:=by omega
  unfold Yk Yp
  rcases hs with rfl|rfl<;>rw[e]<;>rfl
 have hS:=Ih (Yk p) 2 s hs hty (by decide) (by show(2:Int)<8;decide) (Ix hr hfl) (by simp[Yk]) hlim hA hz hro
 have hD:=WV p.dest
 have hP:=WV p.rep
 have hI:=UF p.src p.t p.q
 rw[if_pos h3,if_pos h3]at hD
 rw[if_pos h4,if_pos h4]at hP
 rw[if_pos h5,if_pos h5]at hI
 have hN:=Yy 7
 have hF:=Yy p.fl
 have hM:=Yy p.sum.toNat
 have hL:=Yy p.life
 have hrow:flat (Zh (WD s (Yk p)).l)=flat (Zh (Yk p)++[.agg [.int .i64 2,.int .u64 0,.sl ((YP s (ZC (ZI s (Yk p)))).map E.byte),.sl []]]):=by
  show flat (Zh (Yk p++[.mk 2 0 (YP s (ZC (ZI s (Yk p)))) []]))=_
  rw[YS]
  rfl
 rw[hrow]
 clear hrow hA hz hro hty
 generalize YP s (ZC (ZI s (Yk p)))=SB at *
 unfold Yk at hS ⊢
 unfold QF at hI
 obtain⟨fl,sum,⟨di,dn,ds,dh,dd⟩,⟨ri,rn,rs,rh,rd⟩,⟨xi,xn,xs,xh,xd⟩,t,q,life⟩:=p
 dsimp only at *
 clear hlim
 generalize Y6 ⟨di,dn,ds,dh,dd⟩=I1 at *
 generalize Y6 ⟨ri,rn,rs,rh,rd⟩=I2 at *
 generalize Y6 ⟨xi,xn,xs,xh,xd⟩=I3 at *
 obtain⟨ak,an,ab,al⟩:=I1
 obtain⟨bk,bn,bb,bl⟩:=I2
 obtain⟨ck,cn,cb,cl⟩:=I3
 have es:IntKind.u64.wrap sum=((sum.toNat:Nat):Int):=by rw[IntWalk.u64_in _ (by omega)];omega
 have hU:=Yb [It.mk ck cn cb cl,.mk 4 0 [] [.mk 0 t [] [],.mk 0 q [] []]]
 have hv0:(Zh [It.mk ck cn cb cl,.mk 4 0 [] [.mk 0 t [] [],.mk 0 q [] []]])[(0:Int).toNat]?=some (.agg [.int .i64 ck,.int .u64 (cn:Int),.sl (cb.map E.byte),.sl (Zh cl)]):=rfl
 have hv1:(Zh [It.mk ck cn cb cl,.mk 4 0 [] [.mk 0 t [] [],.mk 0 q [] []]])[(1:Int).toNat]?=some (.agg [.int .i64 4,.int .u64 0,.sl [],.sl [nmE t,nmE q]]):=rfl
 generalize hLe:Zh [It.mk ck cn cb cl,.mk 4 0 [] [.mk 0 t [] [],.mk 0 q [] []]]=LL at *
 replace hI:AP Tryd.prog 23 [.agg (iC ⟨xi,xn,xs,xh,xd⟩ t q)] (.tup [.agg [.int .i64 4,.int .u64 0,.sl .ext [],.sl .ext LL],.int .i64 0]) []:=by rw[<- hLe];exact hI
 replace hS:AF Tryd.prog 7 [.sl .ext [nmE 7,nmE fl,nmE sum.toNat,.agg [.int .i64 ak,.int .u64 (an:Int),.sl (ab.map E.byte),.sl (Zh al)],.agg [.int .i64 ck,.int .u64 (cn:Int),.sl (cb.map E.byte),.sl (Zh cl)],.agg [.int .i64 bk,.int .u64 (bn:Int),.sl (bb.map E.byte),.sl (Zh bl)],.agg [.int .i64 4,.int .u64 0,.sl [],.sl [nmE t,nmE q]],nmE life],.int .i64 2] 9
  (fun c=>.tup [.agg [.int .i64 4,.int .u64 0,.sl .ext [],.bsl 0 0 9 c],.int .i64 0]) (fun c=>[[.row (c*4) (flat ([nmE 7,nmE fl,nmE sum.toNat,.agg [.int .i64 ak,.int .u64 (an:Int),.sl (ab.map E.byte),.sl (Zh al)],.agg [.int .i64 ck,.int .u64 (cn:Int),.sl (cb.map E.byte),.sl (Zh cl)],.agg [.int .i64 bk,.int .u64 (bn:Int),.sl (bb.map E.byte),.sl (Zh bl)],.agg [.int .i64 4,.int .u64 0,.sl [],.sl [nmE t,nmE q]],nmE life]++[.agg [.int .i64 2,.int .u64 0,.sl (SB.map E.byte),.sl []]]))]]):=hS
 refine AF.weak (Zm Tryd.func9 Z Tryd.ntmps9 Z Z ?_)
 repeat'(first|refine Zb hR Qk Z Z Z Z ?_|rw[es]|refine Zb hD Qk Z Z Z Z ?_|refine Zb hP Qk Z Z Z Z ?_|refine Zb hI Qk Z Z Z Z ?_|refine Zb hN Qk Z Z Z Z ?_|refine Zb hF Qk Z Z Z Z ?_|refine Zb hM Qk Z Z Z Z ?_|refine Zb hL Qk Z Z Z Z ?_|(apply Uk (hS);kernel_rfl;exact Z;exact Z;exact(fun _=>rfl);exact(fun _=>rfl);intro c1 hc1)|refine Zj Za Z ?_|refine Zg Za Z ?_|refine Zv Za Z ?_|refine Ze Z Qt ?_|refine Yd Za Z Z Z Z Z Z Z Z Z Z Z Z ?_|(apply Zo 21 ZG;decide +kernel;kernel_rfl;kernel_rfl;kernel_rfl;exact Z;exact Z)|(apply Zr;(iterate 4 exact Z))|exact AE.nil _ _ _ _|(apply Zt;exact Z)|(apply Zx;exact Z;exact Z;decide +kernel;exact Z)|(apply Zz;exact Z)|exact AO.nil _ _ _|(apply Zq;(decide +kernel))|exact AOs.nil|exact ZM rfl rfl|(apply Zs Za;(iterate 6 exact Z);(first|exact Qt|rotate_left);(first|with_reducible assumption|decide +kernel|exact Z);(first|exact Zf rfl|with_reducible assumption|decide +kernel|rotate_left)))
 all_goals first|((apply Xn [5] c1 hc1;(apply Zc Za;exact Z);(iterate 5 exact Z)))|((apply Xn [4] c1 hc1;(apply Zc Za;exact Z);(iterate 5 exact Z)))|((apply Xn [3] c1 hc1;(apply Zc Za;exact Z);(iterate 5 exact Z)))|((apply Xn [6] c1 hc1;(apply Zc Za;exact Z);(iterate 5 exact Z)))|((apply Xn [2] c1 hc1;(apply Zc Za;exact Z);(iterate 5 exact Z)))|((apply Xn [1] c1 hc1;(apply Zc Za;exact Z);(iterate 5 exact Z)))
theorem JE {y:It}(h:(ZC y).length<=900000000):∀ s m,s=1\/s=2->(ZC (ZI s (y.l.take m))).length<=1000000000:=by
 intro s m hs
 have h0:=Z8 4 0 [] (y.l.take m++[.mk 2 0 (List.replicate (2*s) 0) []])
 have h1:=Z8 2 0 (List.replicate (2*s) 0) []
 have h2:=ZP y.l m
 have h3:(ZH y.l).length<=(ZC y).length:=by
  obtain⟨k,n,b,l⟩:=y
  rw[ZC,List.length_append,List.length_append]
  show(ZH l).length<=_
  omega
 have h5:∀(a c:List It),ZH (a++c)=ZH a++ZH c:=fun a c=>by
  induction a with
  | nil=>rfl
  | cons y a ih=>rw[List.cons_append,ZH,ZH,ih,List.append_assoc]
 rw[h5]at h0
 simp only[ZH,List.length_append,List.length_nil,List.length_replicate,Nat.add_zero,Nat.zero_add]at h0 h1
 show(ZC (.mk 4 0 [] (y.l.take m++[.mk 2 0 (List.replicate (2*s) 0) []]))).length<=_
 omega
def fp1:PriV:=⟨131072,1,YJ,YJ,YJ,0,0,9⟩
def fp3:PriV:=⟨1,0,YJ,YJ,YJ,0,0,0⟩
abbrev fe0:It:=.mk 4 0 [] [.mk 0 1 [] [],.mk 0 0 [] []]
abbrev fx0:List It:=[.mk 0 7 [] [],.mk 0 0 [] [],.mk 0 0 [] [],fe0,fe0,fe0,.mk 4 0 [] [.mk 0 0 [] [],.mk 0 0 [] []],.mk 0 0 [] []]
abbrev fy1:List It:=[.mk 0 7 [] [],.mk 0 131072 [] [],.mk 0 1 [] [],fe0,fe0,fe0,.mk 4 0 [] [.mk 0 0 [] [],.mk 0 0 [] []],.mk 0 9 [] [],.mk 2 0 [125,221] []]
abbrev fy2:List It:=[.mk 0 7 [] [],.mk 0 131072 [] [],.mk 0 1 [] [],fe0,fe0,fe0,.mk 4 0 [] [.mk 0 0 [] [],.mk 0 0 [] []],.mk 0 8 [] [],.mk 2 0 [125,221] []]
theorem fa1:Wn pr0=(.mk 4 0 [] fx0,0):=by kernel_rfl
theorem fa2:XB (.mk 4 0 [] fx0)=(pr0,0):=by kernel_rfl
theorem fa3:(WD 1 (Yk fp1)).l=fy1:=by kernel_rfl
theorem fa4:XB (.mk 4 0 [] fy1)=(fp1,0):=by kernel_rfl
theorem fa5:XB (.mk 4 0 [] fy2)=(pr0,10):=by kernel_rfl
theorem fa6:Wn fp3=(z0,3):=by kernel_rfl
theorem fa7:Wl fp1=true:=by kernel_rfl
theorem fa8:(Yk fp1).all ZB=true:=by kernel_rfl
theorem fa9:ZB (ZI 1 (Yk fp1))=true:=by kernel_rfl
theorem HZ:ZB (WD 1 (Yk fp1))=true:=by kernel_rfl
theorem He {l:List It}(h1:l.length<=9)(h2:wfs l):wfI (.mk 4 0 [] l):=⟨by decide,by simp,by omega,h2⟩
theorem Ol [Known][KnownU8]:AP Tryd.prog 5 [] (.bool true) []:=by
 have h1:=VY pr0 (by decide)
 rw[fa1]at h1
 have h2:=QL (.mk 4 0 [] fx0) (He (by decide) (by simp[wfs,wfI])) (by decide) (JE (by decide +kernel))
 rw[fa2]at h2
 have h3:=Ka fp1 (by decide) 1 (.inl rfl) rfl fa7 (by decide +kernel) fa8 fa9 HZ
 rw[fa3]at h3
 have h4:=QL (.mk 4 0 [] fy1) (He (by decide) (by simp[wfs,wfI])) (by decide) (JE (by decide +kernel))
 rw[fa4]at h4
 have h5:=QL (.mk 4 0 [] fy2) (He (by decide) (by simp[wfs,wfI])) (by decide) (JE (by decide +kernel))
 rw[fa5]at h5
 have h6:=VY fp3 (by decide)
 rw[fa6]at h6
 have hN:=Yy 8
 have hst:W6 (flat (Zh fy1)) 28 [.int .i64 0,.int .u64 8,.sl [],.sl []]=flat (Zh fy2):=rfl
 refine AP.ofA (Zm Tryd.func5 Z Tryd.ntmps5 Z Z ?_)
 repeat'(first|refine Jc Za Z Z Z Z Z Z (Nat.le_of_ble_eq_true rfl) hst Z ?_|refine Zb h1 Qk Z Z Z Z ?_|refine Zb h2 Qk Z Z Z Z ?_|(apply Uk (h3);kernel_rfl;exact Z;exact Z;exact(fun _=>rfl);exact(fun _=>rfl);intro c1 hc1)|(apply Qy (b:=2) (h4);kernel_rfl;exact Z;(repeat (first|exact True.intro|exact U3 _ _ _|apply Jz|apply UB));(iterate 3 exact Z);(first|exact Z|with_reducible assumption|rotate_left))|(apply Qy (b:=2) (h5);kernel_rfl;exact Z;(repeat (first|exact True.intro|exact U3 _ _ _|apply Jz|apply UB));(iterate 3 exact Z);(first|exact Z|with_reducible assumption|rotate_left))|refine Zb h6 Qk Z Z Z Z ?_|refine Zb hN Qk Z Z Z Z ?_|refine KA Za Z Z Z Z ?_|(apply Jy Za;(iterate 6 exact Z);(first|exact Qb|rotate_left);(first|exact Qb|rotate_left);exact Z)|refine Ja Za Z Z Z Z Z Z Z ?_|refine Zj Za Z ?_|refine Zg Za Z ?_|refine Zv Za Z ?_|refine Zi Z Z Z Qt ?_|refine Zp Z Qt Z Z ?_|refine Zk Z Qt Z Z ?_|refine Ze Z Qt ?_|refine Zn Za Z Z Z Z ?_|refine Vl Za Z Z Z Z Qk Qk Z Z Z ?_|(apply Zo 3 ZG;decide +kernel;kernel_rfl;kernel_rfl;kernel_rfl;exact Z;exact Z)|(apply Zr;(iterate 4 exact Z))|exact AE.nil _ _ _ _|(apply Zt;exact Z)|(apply Zx;exact Z;exact Z;decide +kernel;exact Z)|(apply Zz;exact Z)|exact AO.nil _ _ _|(apply Zq;(decide +kernel))|exact AOs.nil|exact ZM rfl rfl)
 all_goals first|((apply Zu [];(apply Zc Za;exact Z);(iterate 4 exact Z)))|skip
 all_goals first|rfl
end Go.Proofs.YtchlgagdbflkmaaDoor
end
section
open Go.RowKit Go.Pl
namespace Go.Av
section
variable {P:Program} {Q:X->St->Prop} {n:Nat} {ee:Nat × Nat} {tm:List (Nat × D)} {bx bx':List (List D)} {fr fr':List Fr} {b0:Bs} {g:G} {w:World} {a:Act} {T:Tab}
variable {ops:Array Oper} {rest:List Oper} {t ty:Nat} {pos:String} {after:Array Edge}
theorem VZ [Known][Dfr](hT:chk P T=true){x y:Operand}{st e i:Nat}{l l':List E}{tk:Tok}{ti te:Ti}{f:Fr}(ht:tl T st=some ti)(hk:ti.kd=.slice e)(hte:tl T e=some te)(hx:ev tm x=.sl (.own i) l)(hy:ev tm y=.sl tk l')
  (hf:fr[i]?=some f) (hfn:f.n=l.length) (hfs:f.sz=te.size) (hfe:f.e=e) (hU:Uni te.size l) (hU':Uni te.size l') (hlen:l.length+l'.length<=maxLen) (hby:(l.length+l'.length)*te.bytes<=140737488355328)
  (hfr:nfl (fr.set i ⟨l.length+l'.length,te.size,e⟩)=some fr') (htd:Nat.blt t n=true)
  (k:AL P ops rest ⟨n,(t,.sl (.own i) (l++l'))::tm,bx,fr',ee⟩ Q):AL P ops (⟨some t,.call { callee:=.builtin .append,args := #[x,y],argTypes := #[st,st] },ty,pos,after,none⟩::rest) ⟨n,tm,bx,fr,ee⟩ Q:=by
 cases l' with
 | cons y0 l'=>exact ZS hT ht hk hte hx hy hf hfn hfs hfe hU hU' (List.cons_ne_nil _ _) hlen hby hfr htd k
 | nil=>
  have e1:=Yq hfr
  have hil:=(List.getElem?_eq_some_iff.1 hf)
  obtain⟨hil,hfi⟩:=hil
  have e2:fr.set i ⟨l.length+([]:List E).length,te.size,e⟩=fr:=by
   obtain⟨f1,f2,f3⟩:=f
   dsimp only at hfn hfs hfe
   subst hfn hfs hfe
   refine List.ext_getElem? fun j=>?_
   by_cases h:i=j
   ·subst h;rw[List.getElem?_set_self hil,hf];rfl
   ·rw[List.getElem?_set_ne h]
  rw[<- e1,e2,List.append_nil]at k
  exact Z0 hT ht hk hte hx hy htd k
end
end Go.Av
open Go.Av
namespace Go.Proofs.YtchlgagdbflkmaaDoor
set_option maxHeartbeats 4000000
abbrev nmI (k:Int):E:=.agg [.int .i64 0,.int .u64 k,.sl [],.sl []]
theorem H0 [Known](L:List E)(s r g:Int)(hA:AP Tryd.prog 5 [] (.bool true) [])
  (h1:decide ((L.length:Int)>20)=true):AP Tryd.prog 3 [.sl .ext L,.int .u8 s,.int .u8 r] (.bool true) []:=by
 refine AP.ofA (Zm Tryd.func3 Z Tryd.ntmps3 Z Z ?_)
 repeat'(first|refine Zb hA Qk Z Z Z Z ?_|refine Zj Za Z ?_|refine Zg Za Z ?_|refine Zv Za Z ?_|(apply Zw;(iterate 3 exact Z);(first|with_reducible assumption|decide +kernel|(solve|simp only[bn])))|(apply Zp;exact Z;(first|with_reducible assumption|decide +kernel|(solve|simp only[bn]));exact Z;exact Z)|(apply Zd;exact Z;(first|with_reducible assumption|decide +kernel|(solve|simp only[bn])))|refine Zn Za Z Z Z Z ?_)
 all_goals exact Qe
theorem H1 [Known](L:List E)(s r g:Int)(hA:AP Tryd.prog 5 [] (.bool true) [])
  (hG:AP Tryd.prog 4 [.agg [.int .i64 4,.int .u64 0,.sl .ext [],.sl .ext L],.int .i64 1,.int .i64 100] (.int .i64 g) [])
  (h1:decide ((L.length:Int)>20)=false) (h2:decide (g<0)=true):AP Tryd.prog 3 [.sl .ext L,.int .u8 s,.int .u8 r] (.bool true) []:=by
 refine AP.ofA (Zm Tryd.func3 Z Tryd.ntmps3 Z Z ?_)
 repeat'(first|refine Zb hA Qk Z Z Z Z ?_|refine Zb hG Qk Z Z Z Z ?_|refine Zj Za Z ?_|refine Zg Za Z ?_|refine Zv Za Z ?_|(apply Zi;(iterate 3 exact Z);(first|with_reducible assumption|decide +kernel|(solve|simp only[bn])))|(apply Zk;exact Z;(first|with_reducible assumption|decide +kernel|(solve|simp only[bn]));exact Z;exact Z)|(apply Zd;exact Z;(first|with_reducible assumption|decide +kernel|(solve|simp only[bn])))|refine Zn Za Z Z Z Z ?_)
 all_goals exact Qe
theorem H2 [Known](L:List E)(s r g k:Int)(hA:AP Tryd.prog 5 [] (.bool true) [])
  (hG:AP Tryd.prog 4 [.agg [.int .i64 4,.int .u64 0,.sl .ext [],.sl .ext L],.int .i64 1,.int .i64 100] (.int .i64 g) [])
  (h1:decide ((L.length:Int)>20)=false) (h2:decide (g<0)=false)
  (e1:IntKind.i64.wrap s=s) (e2:s.tmod 3=k) (e3:IntKind.u64.wrap k=k) (hU:Uni 4 L)
  (hN:AP Tryd.prog 6 [.int .u64 k] (.agg [.int .i64 0,.int .u64 k,.sl .ext [],.sl .ext []]) [])
  (hS:AP Tryd.prog 7 [.sl .ext (nmI k::L),.int .i64 0] (.tup [.agg [.int .i64 0,.int .u64 0,.sl .ext [],.sl .ext []],.int .i64 3]) []) :
  AP Tryd.prog 3 [.sl .ext L,.int .u8 s,.int .u8 r] (.bool true) []:=by
 have hll:L.length<=20:=by have:=of_decide_eq_false h1;omega
 have hU1:Uni 4 [nmI k]:=Zf rfl
 have hl1:[nmI k].length+L.length<=maxLen:=by unfold maxLen;simp;omega
 have hb1:([nmI k].length+L.length)*64<=140737488355328:=by simp;omega
 refine AP.ofA (Zm Tryd.func3 Z Tryd.ntmps3 Z Z ?_)
 repeat'(first|refine Zb hA Qk Z Z Z Z ?_|refine Zb hG Qk Z Z Z Z ?_|refine Zb hN Qk Z Z Z Z ?_|refine Zb hS Qk Z Z Z Z ?_|rw[e1]|rw[e2]|rw[e3]|refine VZ Za Z Z Z Z Z Z Z Z Z hU1 hU hl1 hb1 Z Z ?_|refine Zj Za Z ?_|refine Zg Za Z ?_|refine Zv Za Z ?_|(apply Zi;(iterate 3 exact Z);(first|with_reducible assumption|decide +kernel|(solve|simp only[bn])))|(apply Zp;exact Z;(first|with_reducible assumption|decide +kernel|(solve|simp only[bn]));exact Z;exact Z)|(apply Zk;exact Z;(first|with_reducible assumption|decide +kernel|(solve|simp only[bn]));exact Z;exact Z)|(apply Zd;exact Z;(first|with_reducible assumption|decide +kernel|(solve|simp only[bn])))|(apply Ze;exact Z;(first|with_reducible assumption|decide +kernel|(solve|simp only[bn])))|refine Zn Za Z Z Z Z ?_|refine Yd Za Z Z Z Z Z Z Z Z Z Z Z Z ?_|(apply XJ;exact Z;exact Z;(first|exact Qt|rotate_left);exact Z))
 all_goals exact Qe
end Go.Proofs.YtchlgagdbflkmaaDoor
end
section
open Go.RowKit Go.Pl Go.Av
namespace Go.Proofs.YtchlgagdbflkmaaDoor
theorem IC (bs:List UInt8):flat (bs.map E.byte)=bs.map E.byte:=by
 induction bs with
 | nil=>rfl
 | cons x bs ih=>rw[List.map_cons,YE,ih];rfl
theorem XC (bs:List UInt8){i:Nat}(h:i<bs.length)(y:UInt8):W6 (flat (bs.map E.byte)) i [E.byte y]=flat ((bs.set i y).map E.byte):=by
 rw[IC,IC,List.map_set]
 unfold W6
 rw[List.set_eq_take_append_cons_drop,if_pos (by rw[List.length_map];exact h)]
 rfl
end Go.Proofs.YtchlgagdbflkmaaDoor
end
