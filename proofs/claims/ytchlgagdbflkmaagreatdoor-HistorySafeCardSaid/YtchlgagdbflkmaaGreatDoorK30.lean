/- Package ident: an item's number. -/
import Derived.Test.YtchlgagdbflkmaaGreatDoorK29
import Derived.Test.YtchlgagdbflkmaaGreatDoorK15
import Derived.Test.YtchlgagdbflkmaaGreatDoorK22
set_option linter.unusedVariables false
set_option linter.unusedSimpArgs false
section
open Go.RowKit Go.Pl Go.Av
namespace Go.Proofs.YtchlgagdbflkmaaGreatDoor
set_option maxHeartbeats 4000000
abbrev Qs (y:It):EidV:=match(YS y).2 with|true=>(YS y).1|false=>Wt
def Kv (y p r x:It):Bool:=match(YS y).2,W9 (Qs y) p.n r.n with
 | true,true=>It.beq (OF (Qs y) p.n r.n) x
 | _,_=>false
abbrev LU (x:EidV)(t q:Nat)(b:Bool):D:=.tup [.agg (iC (match b with|true=>x|false=>Wt) (match b with|true=>t|false=>0) (match b with|true=>q|false=>0)),.int .i64 (match b with|true=>0|false=>3)]
def Kw:It->Bool
 | .mk k _ _ [_,.mk k2 _ _ [_,_]]=>!(k==4&&k2==4)
 | _=>true
theorem Hf [Known][KnownU8](x:It)(h:Kw x=true):AP Tryz.prog 173 [itD x] (LU Wt 0 0 false) []:=by
 show AP Tryz.prog _ _ (.tup [.agg [.bool false,.int .u64 0,.int .u64 0,.str [],.str [],.int .u64 0,.int .u64 0],.int .i64 3]) []
 obtain⟨k,n,b,l⟩:=x
 by_cases hk:k=4
 ·have t1:(k != 4)=false:=by simpa using hk
  by_cases hl:l.length=2
  ·obtain⟨y,z,rfl⟩:∃ y z,l=[y,z]:=by
    match l,hl with
    | [y,z],_=>exact⟨y,z,rfl⟩
   have t2:(((Zu [y,z]).length:Int) != 2)=false:=rfl
   have hU:=Y4 [y,z]
   obtain⟨ky,ny,bY,ly⟩:=y
   obtain⟨kz,nz,bz,lz⟩:=z
   by_cases hk2:kz=4
   ·have t3:(kz != 4)=false:=by simpa using hk2
    have hl2:lz.length ≠ 2:=by
     intro e
     match lz,e with
     | [p,r],_=>simp[Kw,hk,hk2]at h
    have t4:(((Zu lz).length:Int) != 2)=true:=by rw[Zz];simp;omega
    refine AP.ofA (Zl Tryz.func173 Z Tryz.ntmps173 Z Z ?_)
    repeat'(first|(apply Zg Za;exact Z)|(apply Zh Za;exact Z)|(apply Zs Za;exact Z)|refine Zd Z Z Z Qt ?_|refine Zi Z Qt Z Z ?_|refine Ze Z Qt ?_|refine Zn Za Z Z Z Z ?_|(apply Zw Za;(iterate 6 exact Z);(first|exact Qt|rotate_left);(first|with_reducible assumption|decide +kernel|exact Z);(first|exact Zk rfl|with_reducible assumption|decide +kernel|rotate_left)))
    all_goals exact Qe
   ·have t3:(kz != 4)=true:=by simpa using hk2
    refine AP.ofA (Zl Tryz.func173 Z Tryz.ntmps173 Z Z ?_)
    repeat'(first|(apply Zg Za;exact Z)|(apply Zh Za;exact Z)|(apply Zs Za;exact Z)|refine Zd Z Z Z Qt ?_|refine Zo Z Z Z Qt ?_|refine Zj Z Qt Z Z ?_|refine Zi Z Qt Z Z ?_|refine Ze Z Qt ?_|refine Zn Za Z Z Z Z ?_|(apply Zw Za;(iterate 6 exact Z);(first|exact Qt|rotate_left);(first|with_reducible assumption|decide +kernel|exact Z);(first|exact Zk rfl|with_reducible assumption|decide +kernel|rotate_left)))
    all_goals exact Qe
  ·have t2:(((Zu l).length:Int) != 2)=true:=by rw[Zz];simp;omega
   refine AP.ofA (Zl Tryz.func173 Z Tryz.ntmps173 Z Z ?_)
   repeat'(first|(apply Zg Za;exact Z)|(apply Zh Za;exact Z)|(apply Zs Za;exact Z)|refine Zd Z Z Z Qt ?_|refine Zo Z Z Z Qt ?_|refine Zj Z Qt Z Z ?_|refine Zi Z Qt Z Z ?_|refine Ze Z Qt ?_|refine Zn Za Z Z Z Z ?_)
   all_goals exact Qe
 ·have t1:(k != 4)=true:=by simpa using hk
  refine AP.ofA (Zl Tryz.func173 Z Tryz.ntmps173 Z Z ?_)
  repeat'(first|(apply Zg Za;exact Z)|(apply Zh Za;exact Z)|(apply Zs Za;exact Z)|refine Zo Z Z Z Qt ?_|refine Zj Z Qt Z Z ?_|refine Ze Z Qt ?_)
  all_goals exact Qe
theorem BD [Known](y z:It)(n:Nat)(b:List UInt8)(n2:Nat)(b2:List UInt8)(kp:Int)(np:Nat)(bp:List UInt8)(lp:List It)(kr:Int)(nr:Nat)(br:List UInt8)(lr:List It)(c:Int)
  (hE:AP Tryz.prog 172 [itD y] (.tup [.agg (eC Wt),.int .i64 3]) []) (hW:AP Tryz.prog 213 [.agg (iC Wt np nr)] (.tup [itD z,.int .i64 c]) []) :
  AP Tryz.prog 173 [itD (.mk 4 n b [y,.mk 4 n2 b2 [.mk kp np bp lp,.mk kr nr br lr]])] (.tup [.agg (iC Wt 0 0),.int .i64 3]) []:=by
 have hU:=Y4 [y,.mk 4 n2 b2 [.mk kp np bp lp,.mk kr nr br lr]]
 have hU2:=Y4 [.mk kp np bp lp,.mk kr nr br lr]
 have t2:(((Zu [y,.mk 4 n2 b2 [.mk kp np bp lp,.mk kr nr br lr]]).length:Int) != 2)=false:=rfl
 have t3:(((Zu [.mk kp np bp lp,.mk kr nr br lr]).length:Int) != 2)=false:=rfl
 obtain⟨yk,yn,yb,yl⟩:=y
 obtain⟨zk,zn,zb,zl⟩:=z
 replace hE:AP Tryz.prog _ [.agg [.int .i64 yk,.int .u64 (yn:Int),byE yb,.sl .ext (Zu yl)]] (.tup [.agg [.bool false,.int .u64 0,.int .u64 0,.str [],.str []],.int .i64 3]) []:=hE
 replace hW:AP Tryz.prog _ [.agg [.bool false,.int .u64 0,.int .u64 0,.str [],.str [],.int .u64 (np:Int),.int .u64 (nr:Int)]] (.tup [.agg [.int .i64 zk,.int .u64 (zn:Int),byE zb,.sl .ext (Zu zl)],.int .i64 c]) []:=hW
 refine AP.ofA (Zl Tryz.func173 Z Tryz.ntmps173 Z Z ?_)
 repeat'(first|(apply Zb (hE);kernel_rfl;(iterate 4 exact Z))|(apply Zb (hW);kernel_rfl;(iterate 4 exact Z))|(apply Zg Za;exact Z)|(apply Zh Za;exact Z)|(apply Zs Za;exact Z)|refine Zd Z Z Z Qt ?_|refine Zo Z Z Z Qt ?_|refine Zj Z Qt Z Z ?_|refine Zi Z Qt Z Z ?_|refine Ze Z Qt ?_|refine Zf Z Qt ?_|refine Zn Za Z Z Z Z ?_|(apply Zm 19 ZG;decide +kernel;kernel_rfl;kernel_rfl;kernel_rfl;exact Z;exact Z)|(apply Zq;(iterate 4 exact Z))|exact AE.nil _ _ _ _|(apply Zv;exact Z)|(apply Yj;exact Z)|(apply ZA;exact Z;exact Z;decide +kernel;exact Z)|(apply ZB;exact Z)|(apply Yr;exact Z)|exact AO.nil _ _ _|(apply Zp;(decide +kernel))|(apply ZZ;(iterate 3 exact Z))|exact AOs.nil|exact ZJ rfl rfl|exact Y2 rfl rfl|(apply Zw Za;(iterate 6 exact Z);(first|exact Qt|rotate_left);(first|with_reducible assumption|decide +kernel|exact Z);(first|exact Zk rfl|with_reducible assumption|decide +kernel|rotate_left)))
 all_goals exact Qe
theorem BE [Known](x:EidV)(y z:It)(n:Nat)(b:List UInt8)(n2:Nat)(b2:List UInt8)(kp:Int)(np:Nat)(bp:List UInt8)(lp:List It)(kr:Int)(nr:Nat)(br:List UInt8)(lr:List It)
  (hE:AP Tryz.prog 172 [itD y] (.tup [.agg (eC x),.int .i64 0]) []) (hW:AP Tryz.prog 213 [.agg (iC x np nr)] (.tup [itD z,.int .i64 3]) []) :
  AP Tryz.prog 173 [itD (.mk 4 n b [y,.mk 4 n2 b2 [.mk kp np bp lp,.mk kr nr br lr]])] (.tup [.agg (iC Wt 0 0),.int .i64 3]) []:=by
 have hU:=Y4 [y,.mk 4 n2 b2 [.mk kp np bp lp,.mk kr nr br lr]]
 have hU2:=Y4 [.mk kp np bp lp,.mk kr nr br lr]
 have t2:(((Zu [y,.mk 4 n2 b2 [.mk kp np bp lp,.mk kr nr br lr]]).length:Int) != 2)=false:=rfl
 have t3:(((Zu [.mk kp np bp lp,.mk kr nr br lr]).length:Int) != 2)=false:=rfl
 obtain⟨yk,yn,yb,yl⟩:=y
 obtain⟨zk,zn,zb,zl⟩:=z
 obtain⟨xi,xn,xs,xh,xd⟩:=x
 replace hE:AP Tryz.prog _ [.agg [.int .i64 yk,.int .u64 (yn:Int),byE yb,.sl .ext (Zu yl)]] (.tup [.agg [.bool xi,.int .u64 (xn:Int),.int .u64 (xs:Int),.str xh,.str xd],.int .i64 0]) []:=hE
 replace hW:AP Tryz.prog _ [.agg [.bool xi,.int .u64 (xn:Int),.int .u64 (xs:Int),.str xh,.str xd,.int .u64 (np:Int),.int .u64 (nr:Int)]] (.tup [.agg [.int .i64 zk,.int .u64 (zn:Int),byE zb,.sl .ext (Zu zl)],.int .i64 3]) []:=hW
 refine AP.ofA (Zl Tryz.func173 Z Tryz.ntmps173 Z Z ?_)
 repeat'(first|(apply Zb (hE);kernel_rfl;(iterate 4 exact Z))|(apply Zb (hW);kernel_rfl;(iterate 4 exact Z))|(apply Zg Za;exact Z)|(apply Zh Za;exact Z)|(apply Zs Za;exact Z)|refine Zd Z Z Z Qt ?_|refine Zo Z Z Z Qt ?_|refine Zj Z Qt Z Z ?_|refine Zi Z Qt Z Z ?_|refine Ze Z Qt ?_|refine Zf Z Qt ?_|refine Zn Za Z Z Z Z ?_|(apply Zm 19 ZG;decide +kernel;kernel_rfl;kernel_rfl;kernel_rfl;exact Z;exact Z)|(apply Zq;(iterate 4 exact Z))|exact AE.nil _ _ _ _|(apply Zv;exact Z)|(apply Yj;exact Z)|(apply ZA;exact Z;exact Z;decide +kernel;exact Z)|(apply ZB;exact Z)|(apply Yr;exact Z)|exact AO.nil _ _ _|(apply Zp;(decide +kernel))|(apply ZZ;(iterate 3 exact Z))|exact AOs.nil|exact ZJ rfl rfl|exact Y2 rfl rfl|(apply Zw Za;(iterate 6 exact Z);(first|exact Qt|rotate_left);(first|with_reducible assumption|decide +kernel|exact Z);(first|exact Zk rfl|with_reducible assumption|decide +kernel|rotate_left)))
 all_goals exact Qe
theorem BF [Known](x:EidV)(y z:It)(n:Nat)(b:List UInt8)(n2:Nat)(b2:List UInt8)(kp:Int)(np:Nat)(bp:List UInt8)(lp:List It)(kr:Int)(nr:Nat)(br:List UInt8)(lr:List It)(R:Bool)
  (hE:AP Tryz.prog 172 [itD y] (.tup [.agg (eC x),.int .i64 0]) []) (hW:AP Tryz.prog 213 [.agg (iC x np nr)] (.tup [itD z,.int .i64 0]) [])
  (hS:AP Tryz.prog 176 [itD z,itD (.mk 4 n b [y,.mk 4 n2 b2 [.mk kp np bp lp,.mk kr nr br lr]])] (.bool R) []) :
  AP Tryz.prog 173 [itD (.mk 4 n b [y,.mk 4 n2 b2 [.mk kp np bp lp,.mk kr nr br lr]])] (LU x np nr R) []:=by
 have hU:=Y4 [y,.mk 4 n2 b2 [.mk kp np bp lp,.mk kr nr br lr]]
 have hU2:=Y4 [.mk kp np bp lp,.mk kr nr br lr]
 have t2:(((Zu [y,.mk 4 n2 b2 [.mk kp np bp lp,.mk kr nr br lr]]).length:Int) != 2)=false:=rfl
 have t3:(((Zu [.mk kp np bp lp,.mk kr nr br lr]).length:Int) != 2)=false:=rfl
 obtain⟨yk,yn,yb,yl⟩:=y
 obtain⟨zk,zn,zb,zl⟩:=z
 obtain⟨xi,xn,xs,xh,xd⟩:=x
 replace hE:AP Tryz.prog _ [.agg [.int .i64 yk,.int .u64 (yn:Int),byE yb,.sl .ext (Zu yl)]] (.tup [.agg [.bool xi,.int .u64 (xn:Int),.int .u64 (xs:Int),.str xh,.str xd],.int .i64 0]) []:=hE
 replace hW:AP Tryz.prog _ [.agg [.bool xi,.int .u64 (xn:Int),.int .u64 (xs:Int),.str xh,.str xd,.int .u64 (np:Int),.int .u64 (nr:Int)]] (.tup [.agg [.int .i64 zk,.int .u64 (zn:Int),byE zb,.sl .ext (Zu zl)],.int .i64 0]) []:=hW
 replace hS:AP Tryz.prog _ [.agg [.int .i64 zk,.int .u64 (zn:Int),byE zb,.sl .ext (Zu zl)],itD (.mk 4 n b [.mk yk yn yb yl,.mk 4 n2 b2 [.mk kp np bp lp,.mk kr nr br lr]])] (.bool R) []:=hS
 cases R with
 | true=>
  show AP Tryz.prog _ _ (.tup [.agg [.bool xi,.int .u64 (xn:Int),.int .u64 (xs:Int),.str xh,.str xd,.int .u64 (np:Int),.int .u64 (nr:Int)],.int .i64 0]) []
  refine AP.ofA (Zl Tryz.func173 Z Tryz.ntmps173 Z Z ?_)
  repeat'(first|(apply Zb (hE);kernel_rfl;(iterate 4 exact Z))|(apply Zb (hW);kernel_rfl;(iterate 4 exact Z))|(apply Zb (hS);kernel_rfl;(iterate 4 exact Z))|(apply Zg Za;exact Z)|(apply Zh Za;exact Z)|(apply Zs Za;exact Z)|refine Zd Z Z Z Qt ?_|refine Zi Z Qt Z Z ?_|refine Zf Z Qt ?_|refine Zn Za Z Z Z Z ?_|(apply Zm 19 ZG;decide +kernel;kernel_rfl;kernel_rfl;kernel_rfl;exact Z;exact Z)|(apply Zq;(iterate 4 exact Z))|exact AE.nil _ _ _ _|(apply Zv;exact Z)|(apply Yj;exact Z)|(apply ZA;exact Z;exact Z;decide +kernel;exact Z)|(apply ZB;exact Z)|(apply Yr;exact Z)|exact AO.nil _ _ _|(apply Zp;(decide +kernel))|(apply ZZ;(iterate 3 exact Z))|exact AOs.nil|exact ZJ rfl rfl|exact Y2 rfl rfl|(apply Zw Za;(iterate 6 exact Z);(first|exact Qt|rotate_left);(first|with_reducible assumption|decide +kernel|exact Z);(first|exact Zk rfl|with_reducible assumption|decide +kernel|rotate_left)))
  all_goals exact Qe
 | false=>
  show AP Tryz.prog _ _ (.tup [.agg [.bool false,.int .u64 0,.int .u64 0,.str [],.str [],.int .u64 0,.int .u64 0],.int .i64 3]) []
  refine AP.ofA (Zl Tryz.func173 Z Tryz.ntmps173 Z Z ?_)
  repeat'(first|(apply Zb (hE);kernel_rfl;(iterate 4 exact Z))|(apply Zb (hW);kernel_rfl;(iterate 4 exact Z))|(apply Zb (hS);kernel_rfl;(iterate 4 exact Z))|(apply Zg Za;exact Z)|(apply Zh Za;exact Z)|(apply Zs Za;exact Z)|refine Zd Z Z Z Qt ?_|refine Zi Z Qt Z Z ?_|refine Ze Z Qt ?_|refine Zf Z Qt ?_|refine Zn Za Z Z Z Z ?_|(apply Zm 19 ZG;decide +kernel;kernel_rfl;kernel_rfl;kernel_rfl;exact Z;exact Z)|(apply Zq;(iterate 4 exact Z))|exact AE.nil _ _ _ _|(apply Zv;exact Z)|(apply Yj;exact Z)|(apply ZA;exact Z;exact Z;decide +kernel;exact Z)|(apply ZB;exact Z)|(apply Yr;exact Z)|exact AO.nil _ _ _|(apply Zp;(decide +kernel))|(apply ZZ;(iterate 3 exact Z))|exact AOs.nil|exact ZJ rfl rfl|exact Y2 rfl rfl|(apply Zw Za;(iterate 6 exact Z);(first|exact Qt|rotate_left);(first|with_reducible assumption|decide +kernel|exact Z);(first|exact Zk rfl|with_reducible assumption|decide +kernel|rotate_left)))
  all_goals exact Qe
theorem Gp [Known][KnownU8](n:Nat)(b:List UInt8)(y:It)(n2:Nat)(b2:List UInt8)(p r:It)(hw:wfI (.mk 4 n b [y,.mk 4 n2 b2 [p,r]])) :
  AP Tryz.prog 173 [itD (.mk 4 n b [y,.mk 4 n2 b2 [p,r]])] (LU (Qs y) p.n r.n (Kv y p r (.mk 4 n b [y,.mk 4 n2 b2 [p,r]]))) []:=by
 have hwy:wfI y:=hw.2.2.2.1
 have hE:=JE y hwy
 have hW:=OG (Qs y) p.n r.n
 unfold Kv
 cases hv:(YS y).2 with
 | false=>
  have e0:Qs y=Wt:=by unfold Qs;rw[hv]
  unfold Hc at hE
  rw[hv]at hE
  rw[e0]at hW
  obtain⟨kp,np,bp,lp⟩:=p
  obtain⟨kr,nr,br,lr⟩:=r
  exact BD y _ n b n2 b2 kp np bp lp kr nr br lr _ hE hW
 | true=>
  have e0:Qs y=(YS y).1:=by unfold Qs;rw[hv]
  unfold Hc at hE
  rw[hv]at hE
  rw[<- e0]at hE
  cases hr:W9 (Qs y) p.n r.n with
  | false=>
   rw[hr]at hW
   obtain⟨kp,np,bp,lp⟩:=p
   obtain⟨kr,nr,br,lr⟩:=r
   exact BE _ y _ n b n2 b2 kp np bp lp kr nr br lr hE hW
  | true=>
   rw[hr,if_pos rfl,if_pos rfl]at hW
   have hS:=Ub _ (Mt hr) _ hw
   obtain⟨kp,np,bp,lp⟩:=p
   obtain⟨kr,nr,br,lr⟩:=r
   exact BF _ y _ n b n2 b2 kp np bp lp kr nr br lr _ hE hW hS
def Vy (z:It):EidV × Nat × Nat × Bool:=match z with
 | .mk k n b [y,.mk k2 n2 b2 [p,r]]=>(match k==4&&k2==4 with
  | false=>(Wt,0,0,false)
  | true=>match Kv y p r (.mk k n b [y,.mk k2 n2 b2 [p,r]]) with
   | true=>(Qs y,p.n,r.n,true)
   | false=>(Wt,0,0,false))
 | _=>(Wt,0,0,false)
theorem Mu [Known][KnownU8](z:It)(hw:wfI z):AP Tryz.prog 173 [itD z] (.tup [.agg (iC (Vy z).1 (Vy z).2.1 (Vy z).2.2.1),.int .i64 (match(Vy z).2.2.2 with|true=>0|false=>3)]) []:=by
 cases h:Kw z with
 | true=>
  have e:Vy z=(Wt,0,0,false):=by
   unfold Kw at h
   unfold Vy
   split at h
   ·rw[Bool.not_eq_true']at h
    first|(rw[h];done)|(dsimp only;rw[h])
   ·rename_i hno
    first|rfl|(split<;>first|exact absurd rfl (hno _ _ _ _ _ _ _ _ _)|rfl)
  rw[e]
  exact Hf z h
 | false=>
  obtain⟨n,b,y,n2,b2,p,r,rfl⟩:∃ n b y n2 b2 p r,z=.mk 4 n b [y,.mk 4 n2 b2 [p,r]]:=by
   unfold Kw at h
   split at h
   ·simp only[Bool.not_eq_false',Bool.and_eq_true,beq_iff_eq]at h
    obtain⟨rfl,rfl⟩:=h
    exact⟨_,_,_,_,_,_,_,rfl⟩
   ·cases h
  have hR:=Gp n b y n2 b2 p r hw
  have e:Vy (.mk 4 n b [y,.mk 4 n2 b2 [p,r]])=(match Kv y p r (.mk 4 n b [y,.mk 4 n2 b2 [p,r]]) with
   | true=>(Qs y,p.n,r.n,true)
   | false=>(Wt,0,0,false)):=rfl
  rw[e]
  unfold LU at hR
  cases hb:Kv y p r (.mk 4 n b [y,.mk 4 n2 b2 [p,r]]) with
  | false=>rw[hb]at hR;exact hR
  | true=>rw[hb]at hR;exact hR
theorem Uw {x:EidV}(h:Ys x=true):(ZU (V0 x)).length<=200:=by
 unfold V0
 repeat' split
 ·exact Nat.le_trans (XD 1 0) (by decide)
 ·have h0:=YO 4 0 [] [.mk 0 2 [] [],Mp x.n x.s]
  have h1:=Y0 2
  have h2:=XD x.n x.s
  simp only[ZQ,List.length_append,List.length_nil,Nat.add_zero,Nat.zero_add]at h0
  exact Nat.le_trans h0 (by omega)
 ·have h0:=YO 4 0 [] [.mk 0 1 [] [],.mk 3 0 (Qp x) []]
  have h1:=Y0 1
  have h2:=YO 3 0 (Qp x) []
  rename_i hz hi
  have h3:(Qp x).length<=100:=by
   have ht:=Q8 h (by simpa using hz) (by simpa using hi)
   simp only[Qp,List.length_append,List.length_cons,List.length_nil]
   omega
  simp only[ZQ,List.length_append,List.length_nil,Nat.add_zero,Nat.zero_add]at h0 h2
  exact Nat.le_trans h0 (by omega)
theorem QL (a c:List It):ZQ (a++c)=ZQ a++ZQ c:=by
 induction a with
 | nil=>rfl
 | cons y a ih=>rw[List.cons_append,ZQ,ZQ,ih,List.append_assoc]
theorem BG {p:PriV}(h:Vx p=true)(s:Nat)(hs:s=1\/s=2):(ZU (Yh s (Ug p))).length<=1000000000:=by
 obtain⟨h1,h2,h3,h4,h5,h6⟩:=JG h
 obtain⟨i1,_,_⟩:=V1.1 h5
 have h0:=YO 4 0 [] (Ug p++[.mk 2 0 (List.replicate (2*s) 0) []])
 have hb:=YO 2 0 (List.replicate (2*s) 0) []
 have n1:=Y0 7
 have n2:=Y0 p.fl
 have n3:=Y0 p.sum.toNat
 have n4:=Uw h3
 have n5:=Uw i1
 have n6:=Uw h4
 have n7:=XD p.t p.q
 have n8:=Y0 p.life
 have e7:Mp p.t p.q=.mk 4 0 [] [.mk 0 p.t [] [],.mk 0 p.q [] []]:=rfl
 rw[e7]at n7
 rw[QL]at h0
 simp only[Ug,ZQ,List.length_append,List.length_nil,List.length_replicate,Nat.add_zero,Nat.zero_add]at h0 hb
 show(ZU (.mk 4 0 [] (Ug p++[.mk 2 0 (List.replicate (2*s) 0) []]))).length<=1000000000
 exact Nat.le_trans h0 (by omega)
theorem Kx [Known][KnownU8](p:PriV)(hfl:p.fl<18446744073709551616):AP Tryz.prog 175 [.agg (prC p)] (JC (Wm p)) []:=by
 cases h:Vx p with
 | true=>exact T2 p hfl (BG h)
 | false=>
  have hR:=OE p
  unfold Wm
  rw[h]at hR ⊢
  obtain⟨fl,sum,⟨di,dn,ds,dh,dd⟩,⟨ri,rn,rs,rh,rd⟩,⟨xi,xn,xs,xh,xd⟩,t,q,life⟩:=p
  dsimp only[z0]at *
  refine AP.ofA (Zl Tryz.func175 Z Tryz.ntmps175 Z Z ?_)
  repeat'(first|(apply Zb (hR);kernel_rfl;(iterate 4 exact Z))|(apply Zg Za;exact Z)|(apply Zh Za;exact Z)|(apply Zs Za;exact Z)|refine Ze Z Qt ?_)
  all_goals exact Qe
theorem J6 {p:PriV}(hfl:p.fl<18446744073709551616):wfI (Wm p).1:=by
 unfold Wm
 cases h:Vx p with
 | false=>exact Mq
 | true=>exact Tg 2 (Rr h hfl) (by simp[Ug])
def pr0:PriV:=⟨0,0,Wt,Wt,Wt,0,0,0⟩
abbrev prD (r:PriV × Int):D:=.tup [.agg (prC r.1),.int .i64 r.2]
def eZ (y:It):EidV:=match(YS y).2 with|true=>(YS y).1|false=>Wt
def OH (m1 m2 m3 m4 m5 m6 m7:It):PriV:=⟨m1.n,IntKind.i64.wrap (m2.n:Int),eZ m3,eZ m5,(Vy (.mk 4 0 [] [m4,m6])).1,(Vy (.mk 4 0 [] [m4,m6])).2.1,(Vy (.mk 4 0 [] [m4,m6])).2.2.1,m7.n⟩
def Mv (x:It)(o:List It × Int):PriV × Int:=match o.2 != 0 with
 | true=>(pr0,o.2)
 | false=>match o.1 with
  | [_,m1,m2,m3,m4,m5,m6,m7]=>(match(YS m3).2&&((YS m5).2&&(Vy (.mk 4 0 [] [m4,m6])).2.2.2) with
   | false=>(pr0,3)
   | true=>match(Wm (OH m1 m2 m3 m4 m5 m6 m7)).2 != 0 with
    | true=>(pr0,3)
    | false=>match It.beq (Wm (OH m1 m2 m3 m4 m5 m6 m7)).1 x with
     | false=>(pr0,3)
     | true=>(OH m1 m2 m3 m4 m5 m6 m7,0))
  | _=>(pr0,3)
def JH (x:It):PriV × Int:=Mv x (Qm x 2)
theorem Mw [Known][KnownU8](x:It)(hw:wfI x)(hxl:x.l.length<=1000000)(hlim:∀ s m,s=1\/s=2->(ZU (Yh s (x.l.take m))).length<=1000000000):AP Tryz.prog 147 [itD x] (prD (JH x)) []:=by
 have hO:=Ta x 2 hw hxl hlim
 have hsub:=Qo x 2
 have hws:wfs x.l:=by obtain⟨k,n,b,l⟩:=x;exact hw.2.2.2
 unfold JH
 generalize Qm x 2=o at *
 obtain⟨ol,oe⟩:=o
 have hlen:=Zz ol
 have hUo:=Y4 ol
 dsimp only at hsub
 have hSame:=fun(B:PriV) (h1:B.fl<18446744073709551616)=>Ub (Wm B).1 (J6 h1) x hw
 obtain⟨k,n,b,l⟩:=x
 dsimp only[It.l]at *
 unfold Mv
 dsimp only
 replace hO:AP Tryz.prog 171 [.agg [.int .i64 k,.int .u64 (n:Int),byE b,.sl .ext (Zu l)],.int .i64 2] (.tup [.sl .ext (Zu ol),.int .i64 oe]) []:=hO
 cases t1:(oe != 0) with
 | true=>exact Dr k n b _ _ oe hO t1
 | false=>
 have hno:ol.length ≠ 8->AP Tryz.prog 147 [itD (.mk k n b l)] (prD (pr0,3)) []:=fun h=>Dt k n b _ _ oe hO t1 (by rw[hlen];simp;omega)
 match ol,hO,hsub,hlen,hUo,hno with
 | [],_,_,_,_,h=>exact h (by simp)
 | [_],_,_,_,_,h=>exact h (by simp)
 | [_,_],_,_,_,_,h=>exact h (by simp)
 | [_,_,_],_,_,_,_,h=>exact h (by simp)
 | [_,_,_,_],_,_,_,_,h=>exact h (by simp)
 | [_,_,_,_,_],_,_,_,_,h=>exact h (by simp)
 | [_,_,_,_,_,_],_,_,_,_,h=>exact h (by simp)
 | [_,_,_,_,_,_,_],_,_,_,_,h=>exact h (by simp)
 | _::_::_::_::_::_::_::_::_::_,_,_,_,_,h=>exact h (by simp)
 | [.mk k0 n0 b0 l0,.mk k1 n1 b1 l1,.mk k2 n2 b2 l2,.mk k3 n3 b3 l3,.mk k4 n4 b4 l4,.mk k5 n5 b5 l5,.mk k6 n6 b6 l6,.mk k7 n7 b7 l7],hO,hsub,hlen,hUo,_=>
 have hwm:∀ y ∈ [It.mk k0 n0 b0 l0,.mk k1 n1 b1 l1,.mk k2 n2 b2 l2,.mk k3 n3 b3 l3,.mk k4 n4 b4 l4,.mk k5 n5 b5 l5,.mk k6 n6 b6 l6,.mk k7 n7 b7 l7],wfI y:=fun y hy=>YD hws y (hsub y hy)
 clear hsub
 have t2:(((Zu [It.mk k0 n0 b0 l0,.mk k1 n1 b1 l1,.mk k2 n2 b2 l2,.mk k3 n3 b3 l3,.mk k4 n4 b4 l4,.mk k5 n5 b5 l5,.mk k6 n6 b6 l6,.mk k7 n7 b7 l7]).length:Int) != 8)=false:=by rw[hlen];rfl
 dsimp only
 have w1:n1<18446744073709551616:=(hwm (.mk k1 n1 b1 l1) (by simp)).1
 have w3:=hwm (.mk k3 n3 b3 l3) (by simp)
 have w4:=hwm (.mk k4 n4 b4 l4) (by simp)
 have w5:=hwm (.mk k5 n5 b5 l5) (by simp)
 have w6:=hwm (.mk k6 n6 b6 l6) (by simp)
 have w46:wfI (.mk 4 0 [] [.mk k4 n4 b4 l4,.mk k6 n6 b6 l6]):=⟨by decide,by simp,by simp,w4,w6,trivial⟩
 have hD:AP Tryz.prog 172 [itD (.mk k3 n3 b3 l3)] (.tup [.agg (eC (eZ (.mk k3 n3 b3 l3))),.int .i64 (match(YS (.mk k3 n3 b3 l3)).2 with|true=>0|false=>3)]) []:=JE _ w3
 have hR:AP Tryz.prog 172 [itD (.mk k5 n5 b5 l5)] (.tup [.agg (eC (eZ (.mk k5 n5 b5 l5))),.int .i64 (match(YS (.mk k5 n5 b5 l5)).2 with|true=>0|false=>3)]) []:=JE _ w5
 have hI:=Mu _ w46
 have hL:=W4 [.mk k4 n4 b4 l4,.mk k6 n6 b6 l6] (by simp) ⟨w4,w6,trivial⟩
 have hW:=Kx (OH (.mk k1 n1 b1 l1) (.mk k2 n2 b2 l2) (.mk k3 n3 b3 l3) (.mk k4 n4 b4 l4) (.mk k5 n5 b5 l5) (.mk k6 n6 b6 l6) (.mk k7 n7 b7 l7)) w1
 have hS:=hSame (OH (.mk k1 n1 b1 l1) (.mk k2 n2 b2 l2) (.mk k3 n3 b3 l3) (.mk k4 n4 b4 l4) (.mk k5 n5 b5 l5) (.mk k6 n6 b6 l6) (.mk k7 n7 b7 l7)) w1
 clear hSame hwm w3 w4 w5 w6 w46 w1 hws hlim hw
 unfold OH at *
 dsimp only[It.n]at *
 generalize eZ (.mk k3 n3 b3 l3)=dz at *
 generalize eZ (.mk k5 n5 b5 l5)=rz at *
 generalize (YS (.mk k3 n3 b3 l3)).2=d2 at *
 generalize (YS (.mk k5 n5 b5 l5)).2=r2 at *
 generalize Vy (.mk 4 0 [] [.mk k4 n4 b4 l4,.mk k6 n6 b6 l6])=u at *
 obtain⟨u,ut,uq,u2⟩:=u
 try dsimp only at *
 generalize Wm ⟨n1,IntKind.i64.wrap (n2:Int),dz,rz,u,ut,uq,n7⟩=wr at *
 obtain⟨⟨wk,wn,wb,wl⟩,we⟩:=wr
 try dsimp only at *
 cases d2 with
 | false=>exact(J4 k n b _ _ oe k0 n0 b0 l0 k1 n1 b1 l1 k2 n2 b2 l2 k3 n3 b3 l3 k4 n4 b4 l4 k5 n5 b5 l5 k6 n6 b6 l6 k7 n7 b7 l7 dz.i dz.n dz.s dz.h dz.d rz.i rz.n rz.s rz.h rz.d u.i u.n u.s u.h u.d ut uq _ _ _ we wk wn wb _ _ hO t1 t2 hUo rfl rfl rfl rfl rfl rfl rfl hD hR hL hI hW hS).1 rfl
 | true=>
 cases r2 with
 | false=>exact(J4 k n b _ _ oe k0 n0 b0 l0 k1 n1 b1 l1 k2 n2 b2 l2 k3 n3 b3 l3 k4 n4 b4 l4 k5 n5 b5 l5 k6 n6 b6 l6 k7 n7 b7 l7 dz.i dz.n dz.s dz.h dz.d rz.i rz.n rz.s rz.h rz.d u.i u.n u.s u.h u.d ut uq _ _ _ we wk wn wb _ _ hO t1 t2 hUo rfl rfl rfl rfl rfl rfl rfl hD hR hL hI hW hS).2.1 rfl rfl
 | true=>
 cases u2 with
 | false=>exact(J4 k n b _ _ oe k0 n0 b0 l0 k1 n1 b1 l1 k2 n2 b2 l2 k3 n3 b3 l3 k4 n4 b4 l4 k5 n5 b5 l5 k6 n6 b6 l6 k7 n7 b7 l7 dz.i dz.n dz.s dz.h dz.d rz.i rz.n rz.s rz.h rz.d u.i u.n u.s u.h u.d ut uq _ _ _ we wk wn wb _ _ hO t1 t2 hUo rfl rfl rfl rfl rfl rfl rfl hD hR hL hI hW hS).2.2 rfl rfl rfl
 | true=>
 try dsimp only[Bool.and_self]
 cases t4:(we != 0) with
 | true=>exact(J5 k n b _ _ oe k0 n0 b0 l0 k1 n1 b1 l1 k2 n2 b2 l2 k3 n3 b3 l3 k4 n4 b4 l4 k5 n5 b5 l5 k6 n6 b6 l6 k7 n7 b7 l7 dz.i dz.n dz.s dz.h dz.d rz.i rz.n rz.s rz.h rz.d u.i u.n u.s u.h u.d ut uq _ _ _ we wk wn wb _ _ hO t1 t2 hUo rfl rfl rfl rfl rfl rfl rfl hD hR hL hI hW hS rfl rfl rfl).1 t4
 | false=>
 try dsimp only
 cases t5:It.beq (.mk wk wn wb wl) (.mk k n b l) with
 | false=>
  rw[t5]at hS
  exact(J5 k n b _ _ oe k0 n0 b0 l0 k1 n1 b1 l1 k2 n2 b2 l2 k3 n3 b3 l3 k4 n4 b4 l4 k5 n5 b5 l5 k6 n6 b6 l6 k7 n7 b7 l7 dz.i dz.n dz.s dz.h dz.d rz.i rz.n rz.s rz.h rz.d u.i u.n u.s u.h u.d ut uq _ _ _ we wk wn wb _ _ hO t1 t2 hUo rfl rfl rfl rfl rfl rfl rfl hD hR hL hI hW hS rfl rfl rfl).2.1 t4 hS
 | true=>
  rw[t5]at hS
  exact(J5 k n b _ _ oe k0 n0 b0 l0 k1 n1 b1 l1 k2 n2 b2 l2 k3 n3 b3 l3 k4 n4 b4 l4 k5 n5 b5 l5 k6 n6 b6 l6 k7 n7 b7 l7 dz.i dz.n dz.s dz.h dz.d rz.i rz.n rz.s rz.h rz.d u.i u.n u.s u.h u.d ut uq _ _ _ we wk wn wb _ _ hO t1 t2 hUo rfl rfl rfl rfl rfl rfl rfl hD hR hL hI hW hS rfl rfl rfl).2.2 t4 hS
theorem Vz {p:PriV}{x:It}(h:Wm p=(x,0)):Vx p=true/\VX (Ug p) 2=(x,0):=by
 unfold Wm at h
 cases hr:Vx p with
 | true=>rw[hr]at h;exact⟨rfl,h⟩
 | false=>rw[hr]at h;simp at h
theorem Rt {z:It}(hw:wfI z):(JH z).1.fl<18446744073709551616:=by
 have hsub:=Qo z 2
 have hws:wfs z.l:=by obtain⟨k,n,b,l⟩:=z;exact hw.2.2.2
 unfold JH
 generalize Qm z 2=o at *
 have h0:pr0.fl<18446744073709551616:=by decide
 unfold Mv
 split
 ·exact h0
 ·split
  ·rename_i heq
   rw[heq]at hsub
   split
   ·exact h0
   ·split
    ·exact h0
    ·split
     ·exact h0
     ·exact Ms (YD hws _ (hsub _ (List.mem_cons_of_mem _ (List.mem_cons_self ..))))
  ·exact h0
structure BunV where
 p:PriV
 bl:List BlkV
def Xn (k:Nat):Bool:=k==1||(k==6||(k==7||k==10))
def Ky:List BlkV->List BlkV->Bool
 | _,[]=>true
 | pre,b::r=>YW b&&(pre.all (fun c=>c.num != b.num&&(c.ty != b.ty || !Xn b.ty))&&Ky (pre++[b]) r)
def Hg (l:List BlkV):Bool:=match l.getLast? with
 | none=>false
 | some b=>decide (l.length<=8)&&(b.ty==1&&(b.num==1&&Ky [] l))
theorem Kz:∀ {l pre:List BlkV},Ky pre l=true->∀ b ∈ l,YW b=true
 | [],_,_,b,hb=>by simp at hb
 | x::l,pre,h,b,hb=>by
  rw[Ky]at h
  simp only[Bool.and_eq_true]at h
  rcases List.mem_cons.1 hb with rfl|hb
  ·exact h.1
  ·exact Kz h.2.2 b hb
theorem KP {l:List BlkV}(h:Hg l=true):l.length<=8/\∀ b ∈ l,YW b=true:=by
 unfold Hg at h
 split at h
 ·cases h
 ·simp only[Bool.and_eq_true,decide_eq_true_eq]at h
  exact⟨h.1,Kz h.2.2.2⟩
def UP (b:BunV):List It:=(Wm b.p).1::b.bl.map fun c=>(YL c).1
def Xo (b:BunV):Bool:=(Wm b.p).2==0&&b.bl.all fun c=>(YL c).2==0
def OI (b:BunV):List UInt8:=159::(ZQ (UP b)++[255])
def VD (b:BunV):Bool:=Hg b.bl&&(Xo b&&decide (((ZQ (UP b)).length:Int)<=598))
theorem Q9 {l:List It}{a:Int}{x:It}(h:VX l a=(x,0)):ZS x=true:=by
 unfold VX at h
 split at h
 ·simp at h
 ·split at h
  ·simp at h
  ·split at h
   ·split at h
    ·rename_i hr
     simp only[Prod.mk.injEq,and_true]at h
     subst h;exact hr
    ·simp at h
   ·split at h
    ·simp at h
    ·split at h
     ·simp at h
     ·rename_i hr
      simp only[Prod.mk.injEq,and_true]at h
      subst h;exact hr
def Va:List It->Except Int (List BlkV)
 | []=>.ok []
 | y::r=>match(VB y).2==0 with
  | false=>.error (VB y).2
  | true=>match Va r with
   | .error e=>.error e
   | .ok l=>.ok ((VB y).1::l)
def bn0:BunV:=⟨pr0,[]⟩
def Th (it:It):BunV × Int:=match it with
 | .mk k _ _ l=>match k==4&&(decide (2<=l.length)&&decide (l.length<=9)) with
  | false=>(bn0,3)
  | true=>match l with
   | []=>(bn0,3)
   | x::r=>match(JH x).2 != 0 with
    | true=>(bn0,(JH x).2)
    | false=>match Va r with
     | .error e=>(bn0,e)
     | .ok bl=>match VD ⟨(JH x).1,bl⟩ with
      | false=>(bn0,3)
      | true=>(⟨(JH x).1,bl⟩,0)
def UQ (x:List UInt8):BunV × Int:=match decide ((x.length:Int)>1200) with
 | true=>(bn0,2)
 | false=>match((YI x 0).2.2:Int) != 0 with
  | true=>(bn0,((YI x 0).2.2:Int))
  | false=>match(YI x 0).2.1==x.length with
   | false=>(bn0,3)
   | true=>Th (YI x 0).1
theorem Ja:∀ {l:List It} {e:Int},Va l=.error e->e ≠ 0
 | [],e,h=>by cases h
 | y::r,e,h=>by
  rw[Va]at h
  cases t:((VB y).2==0) with
  | false=>
   rw[t]at h
   simp only[Except.error.injEq]at h
   subst h
   simpa using t
  | true=>
   rw[t]at h
   dsimp only at h
   cases hr:Va r with
   | error e'=>
    rw[hr]at h
    simp only[Except.error.injEq]at h
    subst h
    exact Ja hr
   | ok l=>rw[hr]at h;cases h
theorem KA {x:List UInt8}{b:BunV}(h:UQ x=(b,0)):VD b=true:=by
 unfold UQ at h
 split at h
 ·simp at h
 ·split at h
  ·rename_i t
   simp only[Prod.mk.injEq]at h
   rw[h.2]at t
   cases t
  ·split at h
   ·simp at h
   ·unfold Th at h
    split at h
    split at h
    ·simp at h
    ·split at h
     ·simp at h
     ·split at h
      ·rename_i t
       simp only[Prod.mk.injEq]at h
       rw[h.2]at t
       cases t
      ·split at h
       ·rename_i e he
        simp only[Prod.mk.injEq]at h
        exact absurd h.2 (Ja he)
       ·split at h
        ·simp at h
        ·rename_i hr
         simp only[Prod.mk.injEq,and_true]at h
         subst h
         exact hr
theorem Mx {c:BlkV}(h:YW c=true):c.data.length<=200:=by
 obtain⟨_,_,_,_,hd⟩:=JF h
 unfold OA at hd
 rw[Bool.and_eq_true,decide_eq_true_eq]at hd
 omega
def XF (x:List UInt8):Bool:=(UQ x).2==0&&OI (UQ x).1==x
end Go.Proofs.YtchlgagdbflkmaaGreatDoor
end
