/- Package ident: an item's number. -/
import Derived.Test.YtkdpfkjlheajhaaGreatDoorE28
import Derived.Test.YtkdpfkjlheajhaaGreatDoorE14
import Derived.Test.YtkdpfkjlheajhaaGreatDoorE21
set_option linter.unusedVariables false
set_option linter.unusedSimpArgs false
section
open Go.RowKit Go.Pl Go.Av
namespace Go.Proofs.YtkdpfkjlheajhaaGreatDoor
set_option maxHeartbeats 4000000
abbrev Qx (y:It):EidV:=match(Y6 y).2 with|true=>(Y6 y).1|false=>ZN
def KO (y p r x:It):Bool:=match(Y6 y).2,Va (Qx y) p.n r.n with
 | true,true=>It.beq (OW (Qx y) p.n r.n) x
 | _,_=>false
abbrev Rb (x:EidV)(t q:Nat)(b:Bool):D:=.tup [.agg (iC (match b with|true=>x|false=>ZN) (match b with|true=>t|false=>0) (match b with|true=>q|false=>0)),.int .i64 (match b with|true=>0|false=>3)]
def KP:It->Bool
 | .mk k _ _ [_,.mk k2 _ _ [_,_]]=>!(k==4&&k2==4)
 | _=>true
theorem Hv [Known][KnownU8](x:It)(h:KP x=true):AP Tryz.prog 144 [itD x] (Rb ZN 0 0 false) []:=by
 show AP Tryz.prog _ _ (.tup [.agg [.bool false,.int .u64 0,.int .u64 0,.str [],.str [],.int .u64 0,.int .u64 0],.int .i64 3]) []
 obtain⟨k,n,b,l⟩:=x
 by_cases hk:k=4
 ·have t1:(k != 4)=false:=by simpa using hk
  by_cases hl:l.length=2
  ·obtain⟨y,z,rfl⟩:∃ y z,l=[y,z]:=by
    match l,hl with
    | [y,z],_=>exact⟨y,z,rfl⟩
   have t2:(((Zx [y,z]).length:Int) != 2)=false:=rfl
   have hU:=Wl [y,z]
   obtain⟨ky,ny,bY,ly⟩:=y
   obtain⟨kz,nz,bz,lz⟩:=z
   by_cases hk2:kz=4
   ·have t3:(kz != 4)=false:=by simpa using hk2
    have hl2:lz.length ≠ 2:=by
     intro e
     match lz,e with
     | [p,r],_=>simp[KP,hk,hk2]at h
    have t4:(((Zx lz).length:Int) != 2)=true:=by rw[ZD];simp;omega
    refine AP.ofA (Zl Tryz.func144 Z Tryz.ntmps144 Z Z ?_)
    repeat'(first|(apply Zi Za;exact Z)|(apply Zg Za;exact Z)|(apply Zu Za;exact Z)|refine Ze Z Z Z Qt ?_|refine Zj Z Qt Z Z ?_|refine Zd Z Qt ?_|refine Zt Za Z Z Z Z ?_|(apply ZC Za;(iterate 6 exact Z);(first|exact Qt|rotate_left);(first|with_reducible assumption|decide +kernel|exact Z);(first|exact Zm rfl|with_reducible assumption|decide +kernel|rotate_left)))
    all_goals exact Qe
   ·have t3:(kz != 4)=true:=by simpa using hk2
    refine AP.ofA (Zl Tryz.func144 Z Tryz.ntmps144 Z Z ?_)
    repeat'(first|(apply Zi Za;exact Z)|(apply Zg Za;exact Z)|(apply Zu Za;exact Z)|refine Ze Z Z Z Qt ?_|refine Zp Z Z Z Qt ?_|refine Zk Z Qt Z Z ?_|refine Zj Z Qt Z Z ?_|refine Zd Z Qt ?_|refine Zt Za Z Z Z Z ?_|(apply ZC Za;(iterate 6 exact Z);(first|exact Qt|rotate_left);(first|with_reducible assumption|decide +kernel|exact Z);(first|exact Zm rfl|with_reducible assumption|decide +kernel|rotate_left)))
    all_goals exact Qe
  ·have t2:(((Zx l).length:Int) != 2)=true:=by rw[ZD];simp;omega
   refine AP.ofA (Zl Tryz.func144 Z Tryz.ntmps144 Z Z ?_)
   repeat'(first|(apply Zi Za;exact Z)|(apply Zg Za;exact Z)|(apply Zu Za;exact Z)|refine Ze Z Z Z Qt ?_|refine Zp Z Z Z Qt ?_|refine Zk Z Qt Z Z ?_|refine Zj Z Qt Z Z ?_|refine Zd Z Qt ?_|refine Zt Za Z Z Z Z ?_)
   all_goals exact Qe
 ·have t1:(k != 4)=true:=by simpa using hk
  refine AP.ofA (Zl Tryz.func144 Z Tryz.ntmps144 Z Z ?_)
  repeat'(first|(apply Zi Za;exact Z)|(apply Zg Za;exact Z)|(apply Zu Za;exact Z)|refine Zp Z Z Z Qt ?_|refine Zk Z Qt Z Z ?_|refine Zd Z Qt ?_)
  all_goals exact Qe
theorem Bj [Known](y z:It)(n:Nat)(b:List UInt8)(n2:Nat)(b2:List UInt8)(kp:Int)(np:Nat)(bp:List UInt8)(lp:List It)(kr:Int)(nr:Nat)(br:List UInt8)(lr:List It)(c:Int)
  (hE:AP Tryz.prog 143 [itD y] (.tup [.agg (eC ZN),.int .i64 3]) []) (hW:AP Tryz.prog 171 [.agg (iC ZN np nr)] (.tup [itD z,.int .i64 c]) []) :
  AP Tryz.prog 144 [itD (.mk 4 n b [y,.mk 4 n2 b2 [.mk kp np bp lp,.mk kr nr br lr]])] (.tup [.agg (iC ZN 0 0),.int .i64 3]) []:=by
 have hU:=Wl [y,.mk 4 n2 b2 [.mk kp np bp lp,.mk kr nr br lr]]
 have hU2:=Wl [.mk kp np bp lp,.mk kr nr br lr]
 have t2:(((Zx [y,.mk 4 n2 b2 [.mk kp np bp lp,.mk kr nr br lr]]).length:Int) != 2)=false:=rfl
 have t3:(((Zx [.mk kp np bp lp,.mk kr nr br lr]).length:Int) != 2)=false:=rfl
 obtain⟨yk,yn,yb,yl⟩:=y
 obtain⟨zk,zn,zb,zl⟩:=z
 replace hE:AP Tryz.prog _ [.agg [.int .i64 yk,.int .u64 (yn:Int),byE yb,.sl .ext (Zx yl)]] (.tup [.agg [.bool false,.int .u64 0,.int .u64 0,.str [],.str []],.int .i64 3]) []:=hE
 replace hW:AP Tryz.prog _ [.agg [.bool false,.int .u64 0,.int .u64 0,.str [],.str [],.int .u64 (np:Int),.int .u64 (nr:Int)]] (.tup [.agg [.int .i64 zk,.int .u64 (zn:Int),byE zb,.sl .ext (Zx zl)],.int .i64 c]) []:=hW
 refine AP.ofA (Zl Tryz.func144 Z Tryz.ntmps144 Z Z ?_)
 repeat'(first|(apply Zb (hE);kernel_rfl;(iterate 4 exact Z))|(apply Zb (hW);kernel_rfl;(iterate 4 exact Z))|(apply Zi Za;exact Z)|(apply Zg Za;exact Z)|(apply Zu Za;exact Z)|refine Ze Z Z Z Qt ?_|refine Zp Z Z Z Qt ?_|refine Zk Z Qt Z Z ?_|refine Zj Z Qt Z Z ?_|refine Zd Z Qt ?_|refine Zf Z Qt ?_|refine Zt Za Z Z Z Z ?_|(apply Zn 19 ZF;decide +kernel;kernel_rfl;kernel_rfl;kernel_rfl;exact Z;exact Z)|(apply Zr;(iterate 4 exact Z))|exact AE.nil _ _ _ _|(apply Zw;exact Z)|(apply ZS;exact Z)|(apply ZA;exact Z;exact Z;decide +kernel;exact Z)|(apply ZB;exact Z)|(apply Ya;exact Z)|exact AO.nil _ _ _|(apply Zq;(decide +kernel))|(apply ZM;(iterate 3 exact Z))|exact AOs.nil|exact ZG rfl rfl|exact Yw rfl rfl|(apply ZC Za;(iterate 6 exact Z);(first|exact Qt|rotate_left);(first|with_reducible assumption|decide +kernel|exact Z);(first|exact Zm rfl|with_reducible assumption|decide +kernel|rotate_left)))
 all_goals exact Qe
theorem Bk [Known](x:EidV)(y z:It)(n:Nat)(b:List UInt8)(n2:Nat)(b2:List UInt8)(kp:Int)(np:Nat)(bp:List UInt8)(lp:List It)(kr:Int)(nr:Nat)(br:List UInt8)(lr:List It)
  (hE:AP Tryz.prog 143 [itD y] (.tup [.agg (eC x),.int .i64 0]) []) (hW:AP Tryz.prog 171 [.agg (iC x np nr)] (.tup [itD z,.int .i64 3]) []) :
  AP Tryz.prog 144 [itD (.mk 4 n b [y,.mk 4 n2 b2 [.mk kp np bp lp,.mk kr nr br lr]])] (.tup [.agg (iC ZN 0 0),.int .i64 3]) []:=by
 have hU:=Wl [y,.mk 4 n2 b2 [.mk kp np bp lp,.mk kr nr br lr]]
 have hU2:=Wl [.mk kp np bp lp,.mk kr nr br lr]
 have t2:(((Zx [y,.mk 4 n2 b2 [.mk kp np bp lp,.mk kr nr br lr]]).length:Int) != 2)=false:=rfl
 have t3:(((Zx [.mk kp np bp lp,.mk kr nr br lr]).length:Int) != 2)=false:=rfl
 obtain⟨yk,yn,yb,yl⟩:=y
 obtain⟨zk,zn,zb,zl⟩:=z
 obtain⟨xi,xn,xs,xh,xd⟩:=x
 replace hE:AP Tryz.prog _ [.agg [.int .i64 yk,.int .u64 (yn:Int),byE yb,.sl .ext (Zx yl)]] (.tup [.agg [.bool xi,.int .u64 (xn:Int),.int .u64 (xs:Int),.str xh,.str xd],.int .i64 0]) []:=hE
 replace hW:AP Tryz.prog _ [.agg [.bool xi,.int .u64 (xn:Int),.int .u64 (xs:Int),.str xh,.str xd,.int .u64 (np:Int),.int .u64 (nr:Int)]] (.tup [.agg [.int .i64 zk,.int .u64 (zn:Int),byE zb,.sl .ext (Zx zl)],.int .i64 3]) []:=hW
 refine AP.ofA (Zl Tryz.func144 Z Tryz.ntmps144 Z Z ?_)
 repeat'(first|(apply Zb (hE);kernel_rfl;(iterate 4 exact Z))|(apply Zb (hW);kernel_rfl;(iterate 4 exact Z))|(apply Zi Za;exact Z)|(apply Zg Za;exact Z)|(apply Zu Za;exact Z)|refine Ze Z Z Z Qt ?_|refine Zp Z Z Z Qt ?_|refine Zk Z Qt Z Z ?_|refine Zj Z Qt Z Z ?_|refine Zd Z Qt ?_|refine Zf Z Qt ?_|refine Zt Za Z Z Z Z ?_|(apply Zn 19 ZF;decide +kernel;kernel_rfl;kernel_rfl;kernel_rfl;exact Z;exact Z)|(apply Zr;(iterate 4 exact Z))|exact AE.nil _ _ _ _|(apply Zw;exact Z)|(apply ZS;exact Z)|(apply ZA;exact Z;exact Z;decide +kernel;exact Z)|(apply ZB;exact Z)|(apply Ya;exact Z)|exact AO.nil _ _ _|(apply Zq;(decide +kernel))|(apply ZM;(iterate 3 exact Z))|exact AOs.nil|exact ZG rfl rfl|exact Yw rfl rfl|(apply ZC Za;(iterate 6 exact Z);(first|exact Qt|rotate_left);(first|with_reducible assumption|decide +kernel|exact Z);(first|exact Zm rfl|with_reducible assumption|decide +kernel|rotate_left)))
 all_goals exact Qe
theorem Bl [Known](x:EidV)(y z:It)(n:Nat)(b:List UInt8)(n2:Nat)(b2:List UInt8)(kp:Int)(np:Nat)(bp:List UInt8)(lp:List It)(kr:Int)(nr:Nat)(br:List UInt8)(lr:List It)(R:Bool)
  (hE:AP Tryz.prog 143 [itD y] (.tup [.agg (eC x),.int .i64 0]) []) (hW:AP Tryz.prog 171 [.agg (iC x np nr)] (.tup [itD z,.int .i64 0]) [])
  (hS:AP Tryz.prog 147 [itD z,itD (.mk 4 n b [y,.mk 4 n2 b2 [.mk kp np bp lp,.mk kr nr br lr]])] (.bool R) []) :
  AP Tryz.prog 144 [itD (.mk 4 n b [y,.mk 4 n2 b2 [.mk kp np bp lp,.mk kr nr br lr]])] (Rb x np nr R) []:=by
 have hU:=Wl [y,.mk 4 n2 b2 [.mk kp np bp lp,.mk kr nr br lr]]
 have hU2:=Wl [.mk kp np bp lp,.mk kr nr br lr]
 have t2:(((Zx [y,.mk 4 n2 b2 [.mk kp np bp lp,.mk kr nr br lr]]).length:Int) != 2)=false:=rfl
 have t3:(((Zx [.mk kp np bp lp,.mk kr nr br lr]).length:Int) != 2)=false:=rfl
 obtain⟨yk,yn,yb,yl⟩:=y
 obtain⟨zk,zn,zb,zl⟩:=z
 obtain⟨xi,xn,xs,xh,xd⟩:=x
 replace hE:AP Tryz.prog _ [.agg [.int .i64 yk,.int .u64 (yn:Int),byE yb,.sl .ext (Zx yl)]] (.tup [.agg [.bool xi,.int .u64 (xn:Int),.int .u64 (xs:Int),.str xh,.str xd],.int .i64 0]) []:=hE
 replace hW:AP Tryz.prog _ [.agg [.bool xi,.int .u64 (xn:Int),.int .u64 (xs:Int),.str xh,.str xd,.int .u64 (np:Int),.int .u64 (nr:Int)]] (.tup [.agg [.int .i64 zk,.int .u64 (zn:Int),byE zb,.sl .ext (Zx zl)],.int .i64 0]) []:=hW
 replace hS:AP Tryz.prog _ [.agg [.int .i64 zk,.int .u64 (zn:Int),byE zb,.sl .ext (Zx zl)],itD (.mk 4 n b [.mk yk yn yb yl,.mk 4 n2 b2 [.mk kp np bp lp,.mk kr nr br lr]])] (.bool R) []:=hS
 cases R with
 | true=>
  show AP Tryz.prog _ _ (.tup [.agg [.bool xi,.int .u64 (xn:Int),.int .u64 (xs:Int),.str xh,.str xd,.int .u64 (np:Int),.int .u64 (nr:Int)],.int .i64 0]) []
  refine AP.ofA (Zl Tryz.func144 Z Tryz.ntmps144 Z Z ?_)
  repeat'(first|(apply Zb (hE);kernel_rfl;(iterate 4 exact Z))|(apply Zb (hW);kernel_rfl;(iterate 4 exact Z))|(apply Zb (hS);kernel_rfl;(iterate 4 exact Z))|(apply Zi Za;exact Z)|(apply Zg Za;exact Z)|(apply Zu Za;exact Z)|refine Ze Z Z Z Qt ?_|refine Zj Z Qt Z Z ?_|refine Zf Z Qt ?_|refine Zt Za Z Z Z Z ?_|(apply Zn 19 ZF;decide +kernel;kernel_rfl;kernel_rfl;kernel_rfl;exact Z;exact Z)|(apply Zr;(iterate 4 exact Z))|exact AE.nil _ _ _ _|(apply Zw;exact Z)|(apply ZS;exact Z)|(apply ZA;exact Z;exact Z;decide +kernel;exact Z)|(apply ZB;exact Z)|(apply Ya;exact Z)|exact AO.nil _ _ _|(apply Zq;(decide +kernel))|(apply ZM;(iterate 3 exact Z))|exact AOs.nil|exact ZG rfl rfl|exact Yw rfl rfl|(apply ZC Za;(iterate 6 exact Z);(first|exact Qt|rotate_left);(first|with_reducible assumption|decide +kernel|exact Z);(first|exact Zm rfl|with_reducible assumption|decide +kernel|rotate_left)))
  all_goals exact Qe
 | false=>
  show AP Tryz.prog _ _ (.tup [.agg [.bool false,.int .u64 0,.int .u64 0,.str [],.str [],.int .u64 0,.int .u64 0],.int .i64 3]) []
  refine AP.ofA (Zl Tryz.func144 Z Tryz.ntmps144 Z Z ?_)
  repeat'(first|(apply Zb (hE);kernel_rfl;(iterate 4 exact Z))|(apply Zb (hW);kernel_rfl;(iterate 4 exact Z))|(apply Zb (hS);kernel_rfl;(iterate 4 exact Z))|(apply Zi Za;exact Z)|(apply Zg Za;exact Z)|(apply Zu Za;exact Z)|refine Ze Z Z Z Qt ?_|refine Zj Z Qt Z Z ?_|refine Zd Z Qt ?_|refine Zf Z Qt ?_|refine Zt Za Z Z Z Z ?_|(apply Zn 19 ZF;decide +kernel;kernel_rfl;kernel_rfl;kernel_rfl;exact Z;exact Z)|(apply Zr;(iterate 4 exact Z))|exact AE.nil _ _ _ _|(apply Zw;exact Z)|(apply ZS;exact Z)|(apply ZA;exact Z;exact Z;decide +kernel;exact Z)|(apply ZB;exact Z)|(apply Ya;exact Z)|exact AO.nil _ _ _|(apply Zq;(decide +kernel))|(apply ZM;(iterate 3 exact Z))|exact AOs.nil|exact ZG rfl rfl|exact Yw rfl rfl|(apply ZC Za;(iterate 6 exact Z);(first|exact Qt|rotate_left);(first|with_reducible assumption|decide +kernel|exact Z);(first|exact Zm rfl|with_reducible assumption|decide +kernel|rotate_left)))
  all_goals exact Qe
theorem GI [Known][KnownU8](n:Nat)(b:List UInt8)(y:It)(n2:Nat)(b2:List UInt8)(p r:It)(hw:wfI (.mk 4 n b [y,.mk 4 n2 b2 [p,r]])) :
  AP Tryz.prog 144 [itD (.mk 4 n b [y,.mk 4 n2 b2 [p,r]])] (Rb (Qx y) p.n r.n (KO y p r (.mk 4 n b [y,.mk 4 n2 b2 [p,r]]))) []:=by
 have hwy:wfI y:=hw.2.2.2.1
 have hE:=JH y hwy
 have hW:=OX (Qx y) p.n r.n
 unfold KO
 cases hv:(Y6 y).2 with
 | false=>
  have e0:Qx y=ZN:=by unfold Qx;rw[hv]
  unfold Ht at hE
  rw[hv]at hE
  rw[e0]at hW
  obtain⟨kp,np,bp,lp⟩:=p
  obtain⟨kr,nr,br,lr⟩:=r
  exact Bj y _ n b n2 b2 kp np bp lp kr nr br lr _ hE hW
 | true=>
  have e0:Qx y=(Y6 y).1:=by unfold Qx;rw[hv]
  unfold Ht at hE
  rw[hv]at hE
  rw[<- e0]at hE
  cases hr:Va (Qx y) p.n r.n with
  | false=>
   rw[hr]at hW
   obtain⟨kp,np,bp,lp⟩:=p
   obtain⟨kr,nr,br,lr⟩:=r
   exact Bk _ y _ n b n2 b2 kp np bp lp kr nr br lr hE hW
  | true=>
   rw[hr,if_pos rfl,if_pos rfl]at hW
   have hS:=Ug _ (MD hr) _ hw
   obtain⟨kp,np,bp,lp⟩:=p
   obtain⟨kr,nr,br,lr⟩:=r
   exact Bl _ y _ n b n2 b2 kp np bp lp kr nr br lr _ hE hW hS
def VI (z:It):EidV × Nat × Nat × Bool:=match z with
 | .mk k n b [y,.mk k2 n2 b2 [p,r]]=>(match k==4&&k2==4 with
  | false=>(ZN,0,0,false)
  | true=>match KO y p r (.mk k n b [y,.mk k2 n2 b2 [p,r]]) with
   | true=>(Qx y,p.n,r.n,true)
   | false=>(ZN,0,0,false))
 | _=>(ZN,0,0,false)
theorem ME [Known][KnownU8](z:It)(hw:wfI z):AP Tryz.prog 144 [itD z] (.tup [.agg (iC (VI z).1 (VI z).2.1 (VI z).2.2.1),.int .i64 (match(VI z).2.2.2 with|true=>0|false=>3)]) []:=by
 cases h:KP z with
 | true=>
  have e:VI z=(ZN,0,0,false):=by
   unfold KP at h
   unfold VI
   split at h
   ·rw[Bool.not_eq_true']at h
    first|(rw[h];done)|(dsimp only;rw[h])
   ·rename_i hno
    first|rfl|(split<;>first|exact absurd rfl (hno _ _ _ _ _ _ _ _ _)|rfl)
  rw[e]
  exact Hv z h
 | false=>
  obtain⟨n,b,y,n2,b2,p,r,rfl⟩:∃ n b y n2 b2 p r,z=.mk 4 n b [y,.mk 4 n2 b2 [p,r]]:=by
   unfold KP at h
   split at h
   ·simp only[Bool.not_eq_false',Bool.and_eq_true,beq_iff_eq]at h
    obtain⟨rfl,rfl⟩:=h
    exact⟨_,_,_,_,_,_,_,rfl⟩
   ·cases h
  have hR:=GI n b y n2 b2 p r hw
  have e:VI (.mk 4 n b [y,.mk 4 n2 b2 [p,r]])=(match KO y p r (.mk 4 n b [y,.mk 4 n2 b2 [p,r]]) with
   | true=>(Qx y,p.n,r.n,true)
   | false=>(ZN,0,0,false)):=rfl
  rw[e]
  unfold Rb at hR
  cases hb:KO y p r (.mk 4 n b [y,.mk 4 n2 b2 [p,r]]) with
  | false=>rw[hb]at hR;exact hR
  | true=>rw[hb]at hR;exact hR
theorem UH {x:EidV}(h:Yh x=true):(Z0 (V7 x)).length<=200:=by
 unfold V7
 repeat' split
 ·exact Nat.le_trans (XY 1 0) (by decide)
 ·have h0:=Y1 4 0 [] [.mk 0 2 [] [],Mz x.n x.s]
  have h1:=Wf 2
  have h2:=XY x.n x.s
  simp only[ZT,List.length_append,List.length_nil,Nat.add_zero,Nat.zero_add]at h0
  exact Nat.le_trans h0 (by omega)
 ·have h0:=Y1 4 0 [] [.mk 0 1 [] [],.mk 3 0 (Vh x) []]
  have h1:=Wf 1
  have h2:=Y1 3 0 (Vh x) []
  rename_i hz hi
  have h3:(Vh x).length<=100:=by
   have ht:=Vt h (by simpa using hz) (by simpa using hi)
   simp only[Vh,List.length_append,List.length_cons,List.length_nil]
   omega
  simp only[ZT,List.length_append,List.length_nil,Nat.add_zero,Nat.zero_add]at h0 h2
  exact Nat.le_trans h0 (by omega)
theorem QL (a c:List It):ZT (a++c)=ZT a++ZT c:=by
 induction a with
 | nil=>rfl
 | cons y a ih=>rw[List.cons_append,ZT,ZT,ih,List.append_assoc]
theorem Bm {p:PriV}(h:VH p=true)(s:Nat)(hs:s=1\/s=2):(Z0 (Yt s (Ul p))).length<=1000000000:=by
 obtain⟨h1,h2,h3,h4,h5,h6⟩:=JJ h
 obtain⟨i1,_,_⟩:=V8.1 h5
 have h0:=Y1 4 0 [] (Ul p++[.mk 2 0 (List.replicate (2*s) 0) []])
 have hb:=Y1 2 0 (List.replicate (2*s) 0) []
 have n1:=Wf 7
 have n2:=Wf p.fl
 have n3:=Wf p.sum.toNat
 have n4:=UH h3
 have n5:=UH i1
 have n6:=UH h4
 have n7:=XY p.t p.q
 have n8:=Wf p.life
 have e7:Mz p.t p.q=.mk 4 0 [] [.mk 0 p.t [] [],.mk 0 p.q [] []]:=rfl
 rw[e7]at n7
 rw[QL]at h0
 simp only[Ul,ZT,List.length_append,List.length_nil,List.length_replicate,Nat.add_zero,Nat.zero_add]at h0 hb
 show(Z0 (.mk 4 0 [] (Ul p++[.mk 2 0 (List.replicate (2*s) 0) []]))).length<=1000000000
 exact Nat.le_trans h0 (by omega)
theorem KQ [Known][KnownU8](p:PriV)(hfl:p.fl<18446744073709551616):AP Tryz.prog 146 [.agg (prC p)] (JD (Wx p)) []:=by
 cases h:VH p with
 | true=>exact Ni p hfl (Bm h)
 | false=>
  have hR:=OV p
  unfold Wx
  rw[h]at hR ⊢
  obtain⟨fl,sum,⟨di,dn,ds,dh,dd⟩,⟨ri,rn,rs,rh,rd⟩,⟨xi,xn,xs,xh,xd⟩,t,q,life⟩:=p
  dsimp only[z0]at *
  refine AP.ofA (Zl Tryz.func146 Z Tryz.ntmps146 Z Z ?_)
  repeat'(first|(apply Zb (hR);kernel_rfl;(iterate 4 exact Z))|(apply Zi Za;exact Z)|(apply Zg Za;exact Z)|(apply Zu Za;exact Z)|refine Zd Z Qt ?_)
  all_goals exact Qe
theorem Xf {p:PriV}(hfl:p.fl<18446744073709551616):wfI (Wx p).1:=by
 unfold Wx
 cases h:VH p with
 | false=>exact MA
 | true=>exact Tu 2 (RO h hfl) (by simp[Ul])
def pr0:PriV:=⟨0,0,ZN,ZN,ZN,0,0,0⟩
abbrev prD (r:PriV × Int):D:=.tup [.agg (prC r.1),.int .i64 r.2]
def eZ (y:It):EidV:=match(Y6 y).2 with|true=>(Y6 y).1|false=>ZN
def OY (m1 m2 m3 m4 m5 m6 m7:It):PriV:=⟨m1.n,IntKind.i64.wrap (m2.n:Int),eZ m3,eZ m5,(VI (.mk 4 0 [] [m4,m6])).1,(VI (.mk 4 0 [] [m4,m6])).2.1,(VI (.mk 4 0 [] [m4,m6])).2.2.1,m7.n⟩
def MF (x:It)(o:List It × Int):PriV × Int:=match o.2 != 0 with
 | true=>(pr0,o.2)
 | false=>match o.1 with
  | [_,m1,m2,m3,m4,m5,m6,m7]=>(match(Y6 m3).2&&((Y6 m5).2&&(VI (.mk 4 0 [] [m4,m6])).2.2.2) with
   | false=>(pr0,3)
   | true=>match(Wx (OY m1 m2 m3 m4 m5 m6 m7)).2 != 0 with
    | true=>(pr0,3)
    | false=>match It.beq (Wx (OY m1 m2 m3 m4 m5 m6 m7)).1 x with
     | false=>(pr0,3)
     | true=>(OY m1 m2 m3 m4 m5 m6 m7,0))
  | _=>(pr0,3)
def JK (x:It):PriV × Int:=MF x (Qs x 2)
theorem MG [Known][KnownU8](x:It)(hw:wfI x)(hxl:x.l.length<=1000000)(hlim:∀ s m,s=1\/s=2->(Z0 (Yt s (x.l.take m))).length<=1000000000):AP Tryz.prog 130 [itD x] (prD (JK x)) []:=by
 have hO:=Tn x 2 hw hxl hlim
 have hsub:=Qu x 2
 have hws:wfs x.l:=by obtain⟨k,n,b,l⟩:=x;exact hw.2.2.2
 unfold JK
 generalize Qs x 2=o at *
 obtain⟨ol,oe⟩:=o
 have hlen:=ZD ol
 have hUo:=Wl ol
 dsimp only at hsub
 have hSame:=fun(B:PriV) (h1:B.fl<18446744073709551616)=>Ug (Wx B).1 (Xf h1) x hw
 obtain⟨k,n,b,l⟩:=x
 dsimp only[It.l]at *
 unfold MF
 dsimp only
 replace hO:AP Tryz.prog 142 [.agg [.int .i64 k,.int .u64 (n:Int),byE b,.sl .ext (Zx l)],.int .i64 2] (.tup [.sl .ext (Zx ol),.int .i64 oe]) []:=hO
 cases t1:(oe != 0) with
 | true=>exact B7 k n b _ _ oe hO t1
 | false=>
 have hno:ol.length ≠ 8->AP Tryz.prog 130 [itD (.mk k n b l)] (prD (pr0,3)) []:=fun h=>B8 k n b _ _ oe hO t1 (by rw[hlen];simp;omega)
 match ol,hO,hsub,hlen,hUo,hno with
 | [],_,_,_,_,h=>exact h (by simp)
 | [_],_,_,_,_,h=>exact h (by simp)
 | [_,_],_,_,_,_,h=>exact h (by simp)
 | [_,_,_],_,_,_,_,h=>exact h (by simp)
 | [_,_,_,_],_,_,_,_,h=>exact h (by simp)
 | [_,_,_,_,_],_,_,_,_,h=>exact h (by simp)
 | [_,_,_,_,_,_],_,_,_,_,h=>exact h (by simp)
 | [_,_,_,_,_,_,_],_,_,_,_,h=>exact h (by simp)
 | _::_::_::_::_::_::_::_::_::_,_,_,_,_,h=>exact h (by simp)
 | [.mk k0 n0 b0 l0,.mk k1 n1 b1 l1,.mk k2 n2 b2 l2,.mk k3 n3 b3 l3,.mk k4 n4 b4 l4,.mk k5 n5 b5 l5,.mk k6 n6 b6 l6,.mk k7 n7 b7 l7],hO,hsub,hlen,hUo,_=>
 have hwm:∀ y ∈ [It.mk k0 n0 b0 l0,.mk k1 n1 b1 l1,.mk k2 n2 b2 l2,.mk k3 n3 b3 l3,.mk k4 n4 b4 l4,.mk k5 n5 b5 l5,.mk k6 n6 b6 l6,.mk k7 n7 b7 l7],wfI y:=fun y hy=>YM hws y (hsub y hy)
 clear hsub
 have t2:(((Zx [It.mk k0 n0 b0 l0,.mk k1 n1 b1 l1,.mk k2 n2 b2 l2,.mk k3 n3 b3 l3,.mk k4 n4 b4 l4,.mk k5 n5 b5 l5,.mk k6 n6 b6 l6,.mk k7 n7 b7 l7]).length:Int) != 8)=false:=by rw[hlen];rfl
 dsimp only
 have w1:n1<18446744073709551616:=(hwm (.mk k1 n1 b1 l1) (by simp)).1
 have w3:=hwm (.mk k3 n3 b3 l3) (by simp)
 have w4:=hwm (.mk k4 n4 b4 l4) (by simp)
 have w5:=hwm (.mk k5 n5 b5 l5) (by simp)
 have w6:=hwm (.mk k6 n6 b6 l6) (by simp)
 have w46:wfI (.mk 4 0 [] [.mk k4 n4 b4 l4,.mk k6 n6 b6 l6]):=⟨by decide,by simp,by simp,w4,w6,trivial⟩
 have hD:AP Tryz.prog 143 [itD (.mk k3 n3 b3 l3)] (.tup [.agg (eC (eZ (.mk k3 n3 b3 l3))),.int .i64 (match(Y6 (.mk k3 n3 b3 l3)).2 with|true=>0|false=>3)]) []:=JH _ w3
 have hR:AP Tryz.prog 143 [itD (.mk k5 n5 b5 l5)] (.tup [.agg (eC (eZ (.mk k5 n5 b5 l5))),.int .i64 (match(Y6 (.mk k5 n5 b5 l5)).2 with|true=>0|false=>3)]) []:=JH _ w5
 have hI:=ME _ w46
 have hL:=W5 [.mk k4 n4 b4 l4,.mk k6 n6 b6 l6] (by simp) ⟨w4,w6,trivial⟩
 have hW:=KQ (OY (.mk k1 n1 b1 l1) (.mk k2 n2 b2 l2) (.mk k3 n3 b3 l3) (.mk k4 n4 b4 l4) (.mk k5 n5 b5 l5) (.mk k6 n6 b6 l6) (.mk k7 n7 b7 l7)) w1
 have hS:=hSame (OY (.mk k1 n1 b1 l1) (.mk k2 n2 b2 l2) (.mk k3 n3 b3 l3) (.mk k4 n4 b4 l4) (.mk k5 n5 b5 l5) (.mk k6 n6 b6 l6) (.mk k7 n7 b7 l7)) w1
 clear hSame hwm w3 w4 w5 w6 w46 w1 hws hlim hw
 unfold OY at *
 dsimp only[It.n]at *
 generalize eZ (.mk k3 n3 b3 l3)=dz at *
 generalize eZ (.mk k5 n5 b5 l5)=rz at *
 generalize (Y6 (.mk k3 n3 b3 l3)).2=d2 at *
 generalize (Y6 (.mk k5 n5 b5 l5)).2=r2 at *
 generalize VI (.mk 4 0 [] [.mk k4 n4 b4 l4,.mk k6 n6 b6 l6])=u at *
 obtain⟨u,ut,uq,u2⟩:=u
 try dsimp only at *
 generalize Wx ⟨n1,IntKind.i64.wrap (n2:Int),dz,rz,u,ut,uq,n7⟩=wr at *
 obtain⟨⟨wk,wn,wb,wl⟩,we⟩:=wr
 try dsimp only at *
 cases d2 with
 | false=>exact(Xd k n b _ _ oe k0 n0 b0 l0 k1 n1 b1 l1 k2 n2 b2 l2 k3 n3 b3 l3 k4 n4 b4 l4 k5 n5 b5 l5 k6 n6 b6 l6 k7 n7 b7 l7 dz.i dz.n dz.s dz.h dz.d rz.i rz.n rz.s rz.h rz.d u.i u.n u.s u.h u.d ut uq _ _ _ we wk wn wb _ _ hO t1 t2 hUo rfl rfl rfl rfl rfl rfl rfl hD hR hL hI hW hS).1 rfl
 | true=>
 cases r2 with
 | false=>exact(Xd k n b _ _ oe k0 n0 b0 l0 k1 n1 b1 l1 k2 n2 b2 l2 k3 n3 b3 l3 k4 n4 b4 l4 k5 n5 b5 l5 k6 n6 b6 l6 k7 n7 b7 l7 dz.i dz.n dz.s dz.h dz.d rz.i rz.n rz.s rz.h rz.d u.i u.n u.s u.h u.d ut uq _ _ _ we wk wn wb _ _ hO t1 t2 hUo rfl rfl rfl rfl rfl rfl rfl hD hR hL hI hW hS).2.1 rfl rfl
 | true=>
 cases u2 with
 | false=>exact(Xd k n b _ _ oe k0 n0 b0 l0 k1 n1 b1 l1 k2 n2 b2 l2 k3 n3 b3 l3 k4 n4 b4 l4 k5 n5 b5 l5 k6 n6 b6 l6 k7 n7 b7 l7 dz.i dz.n dz.s dz.h dz.d rz.i rz.n rz.s rz.h rz.d u.i u.n u.s u.h u.d ut uq _ _ _ we wk wn wb _ _ hO t1 t2 hUo rfl rfl rfl rfl rfl rfl rfl hD hR hL hI hW hS).2.2 rfl rfl rfl
 | true=>
 try dsimp only[Bool.and_self]
 cases t4:(we != 0) with
 | true=>exact(Xe k n b _ _ oe k0 n0 b0 l0 k1 n1 b1 l1 k2 n2 b2 l2 k3 n3 b3 l3 k4 n4 b4 l4 k5 n5 b5 l5 k6 n6 b6 l6 k7 n7 b7 l7 dz.i dz.n dz.s dz.h dz.d rz.i rz.n rz.s rz.h rz.d u.i u.n u.s u.h u.d ut uq _ _ _ we wk wn wb _ _ hO t1 t2 hUo rfl rfl rfl rfl rfl rfl rfl hD hR hL hI hW hS rfl rfl rfl).1 t4
 | false=>
 try dsimp only
 cases t5:It.beq (.mk wk wn wb wl) (.mk k n b l) with
 | false=>
  rw[t5]at hS
  exact(Xe k n b _ _ oe k0 n0 b0 l0 k1 n1 b1 l1 k2 n2 b2 l2 k3 n3 b3 l3 k4 n4 b4 l4 k5 n5 b5 l5 k6 n6 b6 l6 k7 n7 b7 l7 dz.i dz.n dz.s dz.h dz.d rz.i rz.n rz.s rz.h rz.d u.i u.n u.s u.h u.d ut uq _ _ _ we wk wn wb _ _ hO t1 t2 hUo rfl rfl rfl rfl rfl rfl rfl hD hR hL hI hW hS rfl rfl rfl).2.1 t4 hS
 | true=>
  rw[t5]at hS
  exact(Xe k n b _ _ oe k0 n0 b0 l0 k1 n1 b1 l1 k2 n2 b2 l2 k3 n3 b3 l3 k4 n4 b4 l4 k5 n5 b5 l5 k6 n6 b6 l6 k7 n7 b7 l7 dz.i dz.n dz.s dz.h dz.d rz.i rz.n rz.s rz.h rz.d u.i u.n u.s u.h u.d ut uq _ _ _ we wk wn wb _ _ hO t1 t2 hUo rfl rfl rfl rfl rfl rfl rfl hD hR hL hI hW hS rfl rfl rfl).2.2 t4 hS
theorem VJ {p:PriV}{x:It}(h:Wx p=(x,0)):VH p=true/\V4 (Ul p) 2=(x,0):=by
 unfold Wx at h
 cases hr:VH p with
 | true=>rw[hr]at h;exact⟨rfl,h⟩
 | false=>rw[hr]at h;simp at h
theorem RP {z:It}(hw:wfI z):(JK z).1.fl<18446744073709551616:=by
 have hsub:=Qu z 2
 have hws:wfs z.l:=by obtain⟨k,n,b,l⟩:=z;exact hw.2.2.2
 unfold JK
 generalize Qs z 2=o at *
 have h0:pr0.fl<18446744073709551616:=by decide
 unfold MF
 split
 ·exact h0
 ·split
  ·rename_i heq
   rw[heq]at hsub
   split
   ·exact h0
   ·split
    ·exact h0
    ·split
     ·exact h0
     ·exact MC (YM hws _ (hsub _ (List.mem_cons_of_mem _ (List.mem_cons_self ..))))
  ·exact h0
structure BunV where
 p:PriV
 bl:List BlkV
def XK (k:Nat):Bool:=k==1||(k==6||(k==7||k==10))
def KR:List BlkV->List BlkV->Bool
 | _,[]=>true
 | pre,b::r=>Wa b&&(pre.all (fun c=>c.num != b.num&&(c.ty != b.ty || !XK b.ty))&&KR (pre++[b]) r)
def Hw (l:List BlkV):Bool:=match l.getLast? with
 | none=>false
 | some b=>decide (l.length<=8)&&(b.ty==1&&(b.num==1&&KR [] l))
theorem KS:∀ {l pre:List BlkV},KR pre l=true->∀ b ∈ l,Wa b=true
 | [],_,_,b,hb=>by simp at hb
 | x::l,pre,h,b,hb=>by
  rw[KR]at h
  simp only[Bool.and_eq_true]at h
  rcases List.mem_cons.1 hb with rfl|hb
  ·exact h.1
  ·exact KS h.2.2 b hb
theorem K6 {l:List BlkV}(h:Hw l=true):l.length<=8/\∀ b ∈ l,Wa b=true:=by
 unfold Hw at h
 split at h
 ·cases h
 ·simp only[Bool.and_eq_true,decide_eq_true_eq]at h
  exact⟨h.1,KS h.2.2.2⟩
def UV (b:BunV):List It:=(Wx b.p).1::b.bl.map fun c=>(YX c).1
def XL (b:BunV):Bool:=(Wx b.p).2==0&&b.bl.all fun c=>(YX c).2==0
def OZ (b:BunV):List UInt8:=159::(ZT (UV b)++[255])
def VQ (b:BunV):Bool:=Hw b.bl&&(XL b&&decide (((ZT (UV b)).length:Int)<=598))
theorem Je {l:List It}{a:Int}{x:It}(h:V4 l a=(x,0)):ZV x=true:=by
 unfold V4 at h
 split at h
 ·simp at h
 ·split at h
  ·simp at h
  ·split at h
   ·split at h
    ·rename_i hr
     simp only[Prod.mk.injEq,and_true]at h
     subst h;exact hr
    ·simp at h
   ·split at h
    ·simp at h
    ·split at h
     ·simp at h
     ·rename_i hr
      simp only[Prod.mk.injEq,and_true]at h
      subst h;exact hr
def Vb:List It->Except Int (List BlkV)
 | []=>.ok []
 | y::r=>match(VN y).2==0 with
  | false=>.error (VN y).2
  | true=>match Vb r with
   | .error e=>.error e
   | .ok l=>.ok ((VN y).1::l)
def bn0:BunV:=⟨pr0,[]⟩
def Tw (it:It):BunV × Int:=match it with
 | .mk k _ _ l=>match k==4&&(decide (2<=l.length)&&decide (l.length<=9)) with
  | false=>(bn0,3)
  | true=>match l with
   | []=>(bn0,3)
   | x::r=>match(JK x).2 != 0 with
    | true=>(bn0,(JK x).2)
    | false=>match Vb r with
     | .error e=>(bn0,e)
     | .ok bl=>match VQ ⟨(JK x).1,bl⟩ with
      | false=>(bn0,3)
      | true=>(⟨(JK x).1,bl⟩,0)
def UW (x:List UInt8):BunV × Int:=match decide ((x.length:Int)>1200) with
 | true=>(bn0,2)
 | false=>match((YU x 0).2.2:Int) != 0 with
  | true=>(bn0,((YU x 0).2.2:Int))
  | false=>match(YU x 0).2.1==x.length with
   | false=>(bn0,3)
   | true=>Tw (YU x 0).1
theorem Jf:∀ {l:List It} {e:Int},Vb l=.error e->e ≠ 0
 | [],e,h=>by cases h
 | y::r,e,h=>by
  rw[Vb]at h
  cases t:((VN y).2==0) with
  | false=>
   rw[t]at h
   simp only[Except.error.injEq]at h
   subst h
   simpa using t
  | true=>
   rw[t]at h
   dsimp only at h
   cases hr:Vb r with
   | error e'=>
    rw[hr]at h
    simp only[Except.error.injEq]at h
    subst h
    exact Jf hr
   | ok l=>rw[hr]at h;cases h
theorem KT {x:List UInt8}{b:BunV}(h:UW x=(b,0)):VQ b=true:=by
 unfold UW at h
 split at h
 ·simp at h
 ·split at h
  ·rename_i t
   simp only[Prod.mk.injEq]at h
   rw[h.2]at t
   cases t
  ·split at h
   ·simp at h
   ·unfold Tw at h
    split at h
    split at h
    ·simp at h
    ·split at h
     ·simp at h
     ·split at h
      ·rename_i t
       simp only[Prod.mk.injEq]at h
       rw[h.2]at t
       cases t
      ·split at h
       ·rename_i e he
        simp only[Prod.mk.injEq]at h
        exact absurd h.2 (Jf he)
       ·split at h
        ·simp at h
        ·rename_i hr
         simp only[Prod.mk.injEq,and_true]at h
         subst h
         exact hr
theorem MH {c:BlkV}(h:Wa c=true):c.data.length<=200:=by
 obtain⟨_,_,_,_,hd⟩:=JI h
 unfold OR at hd
 rw[Bool.and_eq_true,decide_eq_true_eq]at hd
 omega
def XZ (x:List UInt8):Bool:=(UW x).2==0&&OZ (UW x).1==x
end Go.Proofs.YtkdpfkjlheajhaaGreatDoor
end
