/- Package ident: an item's number. -/
import Derived.Test.YtmljabhmajehnaaDoorP27
import Derived.Test.YtmljabhmajehnaaDoorP12
import Derived.Test.YtmljabhmajehnaaDoorP26
import Derived.Test.YtmljabhmajehnaaDoorP19
set_option linter.unusedVariables false
set_option linter.unusedSimpArgs false
section
open Go.RowKit Go.Pl Go.Av
namespace Go.Proofs.YtmljabhmajehnaaDoor
set_option maxHeartbeats 4000000
abbrev Up (y:It):EidV:=match(Yt y).2 with|true=>(Yt y).1|false=>Wd
def Ql (y p r x:It):Bool:=match(Yt y).2,Wp (Up y) p.n r.n with
 | true,true=>It.beq (QR (Up y) p.n r.n) x
 | _,_=>false
abbrev NY (x:EidV)(t q:Nat)(b:Bool):D:=.tup [.agg (iC (match b with|true=>x|false=>Wd) (match b with|true=>t|false=>0) (match b with|true=>q|false=>0)),.int .i64 (match b with|true=>0|false=>3)]
def Xe:It->Bool
 | .mk k _ _ [_,.mk k2 _ _ [_,_]]=>!(k==4&&k2==4)
 | _=>true
theorem IG [Known][KnownU8](x:It)(h:Xe x=true):AP Tryd.prog 32 [itD x] (NY Wd 0 0 false) []:=by
 show AP Tryd.prog _ _ (.tup [.agg [.bool false,.int .u64 0,.int .u64 0,.str [],.str [],.int .u64 0,.int .u64 0],.int .i64 3]) []
 obtain⟨k,n,b,l⟩:=x
 by_cases hk:k=4
 ·have t1:(k != 4)=false:=by simpa using hk
  by_cases hl:l.length=2
  ·obtain⟨y,z,rfl⟩:∃ y z,l=[y,z]:=by
    match l,hl with
    | [y,z],_=>exact⟨y,z,rfl⟩
   have t2:(((Zp [y,z]).length:Int) != 2)=false:=rfl
   have hU:=YV [y,z]
   obtain⟨ky,ny,bY,ly⟩:=y
   obtain⟨kz,nz,bz,lz⟩:=z
   by_cases hk2:kz=4
   ·have t3:(kz != 4)=false:=by simpa using hk2
    have hl2:lz.length ≠ 2:=by
     intro e
     match lz,e with
     | [p,r],_=>simp[Xe,hk,hk2]at h
    have t4:(((Zp lz).length:Int) != 2)=true:=by rw[Zx];simp;omega
    refine AP.ofA (Zl Tryd.func32 Z Tryd.ntmps32 Z Z ?_)
    repeat'(first|(apply Zh Za;exact Z)|(apply Zf Za;exact Z)|(apply Zt Za;exact Z)|refine Ze Z Z Z Qt ?_|refine Zi Z Qt Z Z ?_|refine Zd Z Qt ?_|refine Zm Za Z Z Z Z ?_|(apply Zu Za;(iterate 6 exact Z);(first|exact Qt|rotate_left);(first|with_reducible assumption|decide +kernel|exact Z);(first|exact Zj rfl|with_reducible assumption|decide +kernel|rotate_left)))
    all_goals exact Qe
   ·have t3:(kz != 4)=true:=by simpa using hk2
    refine AP.ofA (Zl Tryd.func32 Z Tryd.ntmps32 Z Z ?_)
    repeat'(first|(apply Zh Za;exact Z)|(apply Zf Za;exact Z)|(apply Zt Za;exact Z)|refine Ze Z Z Z Qt ?_|refine Zo Z Z Z Qt ?_|refine Zk Z Qt Z Z ?_|refine Zi Z Qt Z Z ?_|refine Zd Z Qt ?_|refine Zm Za Z Z Z Z ?_|(apply Zu Za;(iterate 6 exact Z);(first|exact Qt|rotate_left);(first|with_reducible assumption|decide +kernel|exact Z);(first|exact Zj rfl|with_reducible assumption|decide +kernel|rotate_left)))
    all_goals exact Qe
  ·have t2:(((Zp l).length:Int) != 2)=true:=by rw[Zx];simp;omega
   refine AP.ofA (Zl Tryd.func32 Z Tryd.ntmps32 Z Z ?_)
   repeat'(first|(apply Zh Za;exact Z)|(apply Zf Za;exact Z)|(apply Zt Za;exact Z)|refine Ze Z Z Z Qt ?_|refine Zo Z Z Z Qt ?_|refine Zk Z Qt Z Z ?_|refine Zi Z Qt Z Z ?_|refine Zd Z Qt ?_|refine Zm Za Z Z Z Z ?_)
   all_goals exact Qe
 ·have t1:(k != 4)=true:=by simpa using hk
  refine AP.ofA (Zl Tryd.func32 Z Tryd.ntmps32 Z Z ?_)
  repeat'(first|(apply Zh Za;exact Z)|(apply Zf Za;exact Z)|(apply Zt Za;exact Z)|refine Zo Z Z Z Qt ?_|refine Zk Z Qt Z Z ?_|refine Zd Z Qt ?_)
  all_goals exact Qe
theorem LE [Known](y z:It)(n:Nat)(b:List UInt8)(n2:Nat)(b2:List UInt8)(kp:Int)(np:Nat)(bp:List UInt8)(lp:List It)(kr:Int)(nr:Nat)(br:List UInt8)(lr:List It)(c:Int)
  (hE:AP Tryd.prog 41 [itD y] (.tup [.agg (eC Wd),.int .i64 3]) []) (hW:AP Tryd.prog 25 [.agg (iC Wd np nr)] (.tup [itD z,.int .i64 c]) []) :
  AP Tryd.prog 32 [itD (.mk 4 n b [y,.mk 4 n2 b2 [.mk kp np bp lp,.mk kr nr br lr]])] (.tup [.agg (iC Wd 0 0),.int .i64 3]) []:=by
 have hU:=YV [y,.mk 4 n2 b2 [.mk kp np bp lp,.mk kr nr br lr]]
 have hU2:=YV [.mk kp np bp lp,.mk kr nr br lr]
 have t2:(((Zp [y,.mk 4 n2 b2 [.mk kp np bp lp,.mk kr nr br lr]]).length:Int) != 2)=false:=rfl
 have t3:(((Zp [.mk kp np bp lp,.mk kr nr br lr]).length:Int) != 2)=false:=rfl
 obtain⟨yk,yn,yb,yl⟩:=y
 obtain⟨zk,zn,zb,zl⟩:=z
 replace hE:AP Tryd.prog _ [.agg [.int .i64 yk,.int .u64 (yn:Int),byE yb,.sl .ext (Zp yl)]] (.tup [.agg [.bool false,.int .u64 0,.int .u64 0,.str [],.str []],.int .i64 3]) []:=hE
 replace hW:AP Tryd.prog _ [.agg [.bool false,.int .u64 0,.int .u64 0,.str [],.str [],.int .u64 (np:Int),.int .u64 (nr:Int)]] (.tup [.agg [.int .i64 zk,.int .u64 (zn:Int),byE zb,.sl .ext (Zp zl)],.int .i64 c]) []:=hW
 refine AP.ofA (Zl Tryd.func32 Z Tryd.ntmps32 Z Z ?_)
 repeat'(first|(apply Zb (hE);kernel_rfl;(iterate 4 exact Z))|(apply Zb (hW);kernel_rfl;(iterate 4 exact Z))|(apply Zh Za;exact Z)|(apply Zf Za;exact Z)|(apply Zt Za;exact Z)|refine Ze Z Z Z Qt ?_|refine Zo Z Z Z Qt ?_|refine Zk Z Qt Z Z ?_|refine Zi Z Qt Z Z ?_|refine Zd Z Qt ?_|refine Zg Z Qt ?_|refine Zm Za Z Z Z Z ?_|(apply Zn 19 ZF;decide +kernel;kernel_rfl;kernel_rfl;kernel_rfl;exact Z;exact Z)|(apply Zr;(iterate 4 exact Z))|exact AE.nil _ _ _ _|(apply Zv;exact Z)|(apply Yb;exact Z)|(apply ZA;exact Z;exact Z;decide +kernel;exact Z)|(apply ZB;exact Z)|(apply Yv;exact Z)|exact AO.nil _ _ _|(apply Zq;(decide +kernel))|(apply ZY;(iterate 3 exact Z))|exact AOs.nil|exact ZG rfl rfl|exact YK rfl rfl|(apply Zu Za;(iterate 6 exact Z);(first|exact Qt|rotate_left);(first|with_reducible assumption|decide +kernel|exact Z);(first|exact Zj rfl|with_reducible assumption|decide +kernel|rotate_left)))
 all_goals exact Qe
theorem LF [Known](x:EidV)(y z:It)(n:Nat)(b:List UInt8)(n2:Nat)(b2:List UInt8)(kp:Int)(np:Nat)(bp:List UInt8)(lp:List It)(kr:Int)(nr:Nat)(br:List UInt8)(lr:List It)
  (hE:AP Tryd.prog 41 [itD y] (.tup [.agg (eC x),.int .i64 0]) []) (hW:AP Tryd.prog 25 [.agg (iC x np nr)] (.tup [itD z,.int .i64 3]) []) :
  AP Tryd.prog 32 [itD (.mk 4 n b [y,.mk 4 n2 b2 [.mk kp np bp lp,.mk kr nr br lr]])] (.tup [.agg (iC Wd 0 0),.int .i64 3]) []:=by
 have hU:=YV [y,.mk 4 n2 b2 [.mk kp np bp lp,.mk kr nr br lr]]
 have hU2:=YV [.mk kp np bp lp,.mk kr nr br lr]
 have t2:(((Zp [y,.mk 4 n2 b2 [.mk kp np bp lp,.mk kr nr br lr]]).length:Int) != 2)=false:=rfl
 have t3:(((Zp [.mk kp np bp lp,.mk kr nr br lr]).length:Int) != 2)=false:=rfl
 obtain⟨yk,yn,yb,yl⟩:=y
 obtain⟨zk,zn,zb,zl⟩:=z
 obtain⟨xi,xn,xs,xh,xd⟩:=x
 replace hE:AP Tryd.prog _ [.agg [.int .i64 yk,.int .u64 (yn:Int),byE yb,.sl .ext (Zp yl)]] (.tup [.agg [.bool xi,.int .u64 (xn:Int),.int .u64 (xs:Int),.str xh,.str xd],.int .i64 0]) []:=hE
 replace hW:AP Tryd.prog _ [.agg [.bool xi,.int .u64 (xn:Int),.int .u64 (xs:Int),.str xh,.str xd,.int .u64 (np:Int),.int .u64 (nr:Int)]] (.tup [.agg [.int .i64 zk,.int .u64 (zn:Int),byE zb,.sl .ext (Zp zl)],.int .i64 3]) []:=hW
 refine AP.ofA (Zl Tryd.func32 Z Tryd.ntmps32 Z Z ?_)
 repeat'(first|(apply Zb (hE);kernel_rfl;(iterate 4 exact Z))|(apply Zb (hW);kernel_rfl;(iterate 4 exact Z))|(apply Zh Za;exact Z)|(apply Zf Za;exact Z)|(apply Zt Za;exact Z)|refine Ze Z Z Z Qt ?_|refine Zo Z Z Z Qt ?_|refine Zk Z Qt Z Z ?_|refine Zi Z Qt Z Z ?_|refine Zd Z Qt ?_|refine Zg Z Qt ?_|refine Zm Za Z Z Z Z ?_|(apply Zn 19 ZF;decide +kernel;kernel_rfl;kernel_rfl;kernel_rfl;exact Z;exact Z)|(apply Zr;(iterate 4 exact Z))|exact AE.nil _ _ _ _|(apply Zv;exact Z)|(apply Yb;exact Z)|(apply ZA;exact Z;exact Z;decide +kernel;exact Z)|(apply ZB;exact Z)|(apply Yv;exact Z)|exact AO.nil _ _ _|(apply Zq;(decide +kernel))|(apply ZY;(iterate 3 exact Z))|exact AOs.nil|exact ZG rfl rfl|exact YK rfl rfl|(apply Zu Za;(iterate 6 exact Z);(first|exact Qt|rotate_left);(first|with_reducible assumption|decide +kernel|exact Z);(first|exact Zj rfl|with_reducible assumption|decide +kernel|rotate_left)))
 all_goals exact Qe
theorem LG [Known](x:EidV)(y z:It)(n:Nat)(b:List UInt8)(n2:Nat)(b2:List UInt8)(kp:Int)(np:Nat)(bp:List UInt8)(lp:List It)(kr:Int)(nr:Nat)(br:List UInt8)(lr:List It)(R:Bool)
  (hE:AP Tryd.prog 41 [itD y] (.tup [.agg (eC x),.int .i64 0]) []) (hW:AP Tryd.prog 25 [.agg (iC x np nr)] (.tup [itD z,.int .i64 0]) [])
  (hS:AP Tryd.prog 42 [itD z,itD (.mk 4 n b [y,.mk 4 n2 b2 [.mk kp np bp lp,.mk kr nr br lr]])] (.bool R) []) :
  AP Tryd.prog 32 [itD (.mk 4 n b [y,.mk 4 n2 b2 [.mk kp np bp lp,.mk kr nr br lr]])] (NY x np nr R) []:=by
 have hU:=YV [y,.mk 4 n2 b2 [.mk kp np bp lp,.mk kr nr br lr]]
 have hU2:=YV [.mk kp np bp lp,.mk kr nr br lr]
 have t2:(((Zp [y,.mk 4 n2 b2 [.mk kp np bp lp,.mk kr nr br lr]]).length:Int) != 2)=false:=rfl
 have t3:(((Zp [.mk kp np bp lp,.mk kr nr br lr]).length:Int) != 2)=false:=rfl
 obtain⟨yk,yn,yb,yl⟩:=y
 obtain⟨zk,zn,zb,zl⟩:=z
 obtain⟨xi,xn,xs,xh,xd⟩:=x
 replace hE:AP Tryd.prog _ [.agg [.int .i64 yk,.int .u64 (yn:Int),byE yb,.sl .ext (Zp yl)]] (.tup [.agg [.bool xi,.int .u64 (xn:Int),.int .u64 (xs:Int),.str xh,.str xd],.int .i64 0]) []:=hE
 replace hW:AP Tryd.prog _ [.agg [.bool xi,.int .u64 (xn:Int),.int .u64 (xs:Int),.str xh,.str xd,.int .u64 (np:Int),.int .u64 (nr:Int)]] (.tup [.agg [.int .i64 zk,.int .u64 (zn:Int),byE zb,.sl .ext (Zp zl)],.int .i64 0]) []:=hW
 replace hS:AP Tryd.prog _ [.agg [.int .i64 zk,.int .u64 (zn:Int),byE zb,.sl .ext (Zp zl)],itD (.mk 4 n b [.mk yk yn yb yl,.mk 4 n2 b2 [.mk kp np bp lp,.mk kr nr br lr]])] (.bool R) []:=hS
 cases R with
 | true=>
  show AP Tryd.prog _ _ (.tup [.agg [.bool xi,.int .u64 (xn:Int),.int .u64 (xs:Int),.str xh,.str xd,.int .u64 (np:Int),.int .u64 (nr:Int)],.int .i64 0]) []
  refine AP.ofA (Zl Tryd.func32 Z Tryd.ntmps32 Z Z ?_)
  repeat'(first|(apply Zb (hE);kernel_rfl;(iterate 4 exact Z))|(apply Zb (hW);kernel_rfl;(iterate 4 exact Z))|(apply Zb (hS);kernel_rfl;(iterate 4 exact Z))|(apply Zh Za;exact Z)|(apply Zf Za;exact Z)|(apply Zt Za;exact Z)|refine Ze Z Z Z Qt ?_|refine Zi Z Qt Z Z ?_|refine Zg Z Qt ?_|refine Zm Za Z Z Z Z ?_|(apply Zn 19 ZF;decide +kernel;kernel_rfl;kernel_rfl;kernel_rfl;exact Z;exact Z)|(apply Zr;(iterate 4 exact Z))|exact AE.nil _ _ _ _|(apply Zv;exact Z)|(apply Yb;exact Z)|(apply ZA;exact Z;exact Z;decide +kernel;exact Z)|(apply ZB;exact Z)|(apply Yv;exact Z)|exact AO.nil _ _ _|(apply Zq;(decide +kernel))|(apply ZY;(iterate 3 exact Z))|exact AOs.nil|exact ZG rfl rfl|exact YK rfl rfl|(apply Zu Za;(iterate 6 exact Z);(first|exact Qt|rotate_left);(first|with_reducible assumption|decide +kernel|exact Z);(first|exact Zj rfl|with_reducible assumption|decide +kernel|rotate_left)))
  all_goals exact Qe
 | false=>
  show AP Tryd.prog _ _ (.tup [.agg [.bool false,.int .u64 0,.int .u64 0,.str [],.str [],.int .u64 0,.int .u64 0],.int .i64 3]) []
  refine AP.ofA (Zl Tryd.func32 Z Tryd.ntmps32 Z Z ?_)
  repeat'(first|(apply Zb (hE);kernel_rfl;(iterate 4 exact Z))|(apply Zb (hW);kernel_rfl;(iterate 4 exact Z))|(apply Zb (hS);kernel_rfl;(iterate 4 exact Z))|(apply Zh Za;exact Z)|(apply Zf Za;exact Z)|(apply Zt Za;exact Z)|refine Ze Z Z Z Qt ?_|refine Zi Z Qt Z Z ?_|refine Zd Z Qt ?_|refine Zg Z Qt ?_|refine Zm Za Z Z Z Z ?_|(apply Zn 19 ZF;decide +kernel;kernel_rfl;kernel_rfl;kernel_rfl;exact Z;exact Z)|(apply Zr;(iterate 4 exact Z))|exact AE.nil _ _ _ _|(apply Zv;exact Z)|(apply Yb;exact Z)|(apply ZA;exact Z;exact Z;decide +kernel;exact Z)|(apply ZB;exact Z)|(apply Yv;exact Z)|exact AO.nil _ _ _|(apply Zq;(decide +kernel))|(apply ZY;(iterate 3 exact Z))|exact AOs.nil|exact ZG rfl rfl|exact YK rfl rfl|(apply Zu Za;(iterate 6 exact Z);(first|exact Qt|rotate_left);(first|with_reducible assumption|decide +kernel|exact Z);(first|exact Zj rfl|with_reducible assumption|decide +kernel|rotate_left)))
  all_goals exact Qe
theorem OU [Known][KnownU8](n:Nat)(b:List UInt8)(y:It)(n2:Nat)(b2:List UInt8)(p r:It)(hw:wfI (.mk 4 n b [y,.mk 4 n2 b2 [p,r]])) :
  AP Tryd.prog 32 [itD (.mk 4 n b [y,.mk 4 n2 b2 [p,r]])] (NY (Up y) p.n r.n (Ql y p r (.mk 4 n b [y,.mk 4 n2 b2 [p,r]]))) []:=by
 have hwy:wfI y:=hw.2.2.2.1
 have hE:=QP y hwy
 have hW:=Kj (Up y) p.n r.n
 unfold Ql
 cases hv:(Yt y).2 with
 | false=>
  have e0:Up y=Wd:=by unfold Up;rw[hv]
  unfold IF at hE
  rw[hv]at hE
  rw[e0]at hW
  obtain⟨kp,np,bp,lp⟩:=p
  obtain⟨kr,nr,br,lr⟩:=r
  exact LE y _ n b n2 b2 kp np bp lp kr nr br lr _ hE hW
 | true=>
  have e0:Up y=(Yt y).1:=by unfold Up;rw[hv]
  unfold IF at hE
  rw[hv]at hE
  rw[<- e0]at hE
  cases hr:Wp (Up y) p.n r.n with
  | false=>
   rw[hr]at hW
   obtain⟨kp,np,bp,lp⟩:=p
   obtain⟨kr,nr,br,lr⟩:=r
   exact LF _ y _ n b n2 b2 kp np bp lp kr nr br lr hE hW
  | true=>
   rw[hr,if_pos rfl,if_pos rfl]at hW
   have hS:=Vz _ (TL hr) _ hw
   obtain⟨kp,np,bp,lp⟩:=p
   obtain⟨kr,nr,br,lr⟩:=r
   exact LG _ y _ n b n2 b2 kp np bp lp kr nr br lr _ hE hW hS
def WL (z:It):EidV × Nat × Nat × Bool:=match z with
 | .mk k n b [y,.mk k2 n2 b2 [p,r]]=>(match k==4&&k2==4 with
  | false=>(Wd,0,0,false)
  | true=>match Ql y p r (.mk k n b [y,.mk k2 n2 b2 [p,r]]) with
   | true=>(Up y,p.n,r.n,true)
   | false=>(Wd,0,0,false))
 | _=>(Wd,0,0,false)
theorem TM [Known][KnownU8](z:It)(hw:wfI z):AP Tryd.prog 32 [itD z] (.tup [.agg (iC (WL z).1 (WL z).2.1 (WL z).2.2.1),.int .i64 (match(WL z).2.2.2 with|true=>0|false=>3)]) []:=by
 cases h:Xe z with
 | true=>
  have e:WL z=(Wd,0,0,false):=by
   unfold Xe at h
   unfold WL
   split at h
   ·rw[Bool.not_eq_true']at h
    first|(rw[h];done)|(dsimp only;rw[h])
   ·rename_i hno
    first|rfl|(split<;>first|exact absurd rfl (hno _ _ _ _ _ _ _ _ _)|rfl)
  rw[e]
  exact IG z h
 | false=>
  obtain⟨n,b,y,n2,b2,p,r,rfl⟩:∃ n b y n2 b2 p r,z=.mk 4 n b [y,.mk 4 n2 b2 [p,r]]:=by
   unfold Xe at h
   split at h
   ·simp only[Bool.not_eq_false',Bool.and_eq_true,beq_iff_eq]at h
    obtain⟨rfl,rfl⟩:=h
    exact⟨_,_,_,_,_,_,_,rfl⟩
   ·cases h
  have hR:=OU n b y n2 b2 p r hw
  have e:WL (.mk 4 n b [y,.mk 4 n2 b2 [p,r]])=(match Ql y p r (.mk 4 n b [y,.mk 4 n2 b2 [p,r]]) with
   | true=>(Up y,p.n,r.n,true)
   | false=>(Wd,0,0,false)):=rfl
  rw[e]
  unfold NY at hR
  cases hb:Ql y p r (.mk 4 n b [y,.mk 4 n2 b2 [p,r]]) with
  | false=>rw[hb]at hR;exact hR
  | true=>rw[hb]at hR;exact hR
theorem V2 {x:EidV}(h:Yg x=true):(ZM (YA x)).length<=200:=by
 unfold YA
 repeat' split
 ·exact Nat.le_trans (JB 1 0) (by decide)
 ·have h0:=YG 4 0 [] [.mk 0 2 [] [],TF x.n x.s]
  have h1:=YN 2
  have h2:=JB x.n x.s
  simp only[ZH,List.length_append,List.length_nil,Nat.add_zero,Nat.zero_add]at h0
  exact Nat.le_trans h0 (by omega)
 ·have h0:=YG 4 0 [] [.mk 0 1 [] [],.mk 3 0 (WI x) []]
  have h1:=YN 1
  have h2:=YG 3 0 (WI x) []
  rename_i hz hi
  have h3:(WI x).length<=100:=by
   have ht:=Vo h (by simpa using hz) (by simpa using hi)
   simp only[WI,List.length_append,List.length_cons,List.length_nil]
   omega
  simp only[ZH,List.length_append,List.length_nil,Nat.add_zero,Nat.zero_add]at h0 h2
  exact Nat.le_trans h0 (by omega)
theorem UT (a c:List It):ZH (a++c)=ZH a++ZH c:=by
 induction a with
 | nil=>rfl
 | cons y a ih=>rw[List.cons_append,ZH,ZH,ih,List.append_assoc]
theorem LH {p:PriV}(h:WJ p=true)(s:Nat)(hs:s=1\/s=2):(ZM (ZU s (WK p))).length<=1000000000:=by
 obtain⟨h1,h2,h3,h4,h5,h6⟩:=V1 h
 obtain⟨i1,_,_⟩:=WU.1 h5
 have h0:=YG 4 0 [] (WK p++[.mk 2 0 (List.replicate (2*s) 0) []])
 have hb:=YG 2 0 (List.replicate (2*s) 0) []
 have n1:=YN 7
 have n2:=YN p.fl
 have n3:=YN p.sum.toNat
 have n4:=V2 h3
 have n5:=V2 i1
 have n6:=V2 h4
 have n7:=JB p.t p.q
 have n8:=YN p.life
 have e7:TF p.t p.q=.mk 4 0 [] [.mk 0 p.t [] [],.mk 0 p.q [] []]:=rfl
 rw[e7]at n7
 rw[UT]at h0
 simp only[WK,ZH,List.length_append,List.length_nil,List.length_replicate,Nat.add_zero,Nat.zero_add]at h0 hb
 show(ZM (.mk 4 0 [] (WK p++[.mk 2 0 (List.replicate (2*s) 0) []]))).length<=1000000000
 exact Nat.le_trans h0 (by omega)
theorem Xf [Known][KnownU8](p:PriV)(hfl:p.fl<18446744073709551616):AP Tryd.prog 36 [.agg (prC p)] (QO (Yq p)) []:=by
 cases h:WJ p with
 | true=>exact Hj p hfl (LH h)
 | false=>
  have hR:=Ki p
  unfold Yq
  rw[h]at hR ⊢
  obtain⟨fl,sum,⟨di,dn,ds,dh,dd⟩,⟨ri,rn,rs,rh,rd⟩,⟨xi,xn,xs,xh,xd⟩,t,q,life⟩:=p
  dsimp only[z0]at *
  refine AP.ofA (Zl Tryd.func36 Z Tryd.ntmps36 Z Z ?_)
  repeat'(first|(apply Zb (hR);kernel_rfl;(iterate 4 exact Z))|(apply Zh Za;exact Z)|(apply Zf Za;exact Z)|(apply Zt Za;exact Z)|refine Zd Z Qt ?_)
  all_goals exact Qe
theorem UU {p:PriV}(hfl:p.fl<18446744073709551616):wfI (Yq p).1:=by
 unfold Yq
 cases h:WJ p with
 | false=>exact TG
 | true=>exact Gs 2 (Ml h hfl) (by simp[WK])
def pr0:PriV:=⟨0,0,Wd,Wd,Wd,0,0,0⟩
abbrev prD (r:PriV × Int):D:=.tup [.agg (prC r.1),.int .i64 r.2]
def eZ (y:It):EidV:=match(Yt y).2 with|true=>(Yt y).1|false=>Wd
def Jq (m1 m2 m3 m4 m5 m6 m7:It):PriV:=⟨m1.n,IntKind.i64.wrap (m2.n:Int),eZ m3,eZ m5,(WL (.mk 4 0 [] [m4,m6])).1,(WL (.mk 4 0 [] [m4,m6])).2.1,(WL (.mk 4 0 [] [m4,m6])).2.2.1,m7.n⟩
def Gu (x:It)(o:List It × Int):PriV × Int:=match o.2 != 0 with
 | true=>(pr0,o.2)
 | false=>match o.1 with
  | [_,m1,m2,m3,m4,m5,m6,m7]=>(match(Yt m3).2&&((Yt m5).2&&(WL (.mk 4 0 [] [m4,m6])).2.2.2) with
   | false=>(pr0,3)
   | true=>match(Yq (Jq m1 m2 m3 m4 m5 m6 m7)).2 != 0 with
    | true=>(pr0,3)
    | false=>match It.beq (Yq (Jq m1 m2 m3 m4 m5 m6 m7)).1 x with
     | false=>(pr0,3)
     | true=>(Jq m1 m2 m3 m4 m5 m6 m7,0))
  | _=>(pr0,3)
def UJ (x:It):PriV × Int:=Gu x (VB x 2)
theorem TN [Known][KnownU8](x:It)(hw:wfI x)(hxl:x.l.length<=1000000)(hlim:∀ s m,s=1\/s=2->(ZM (ZU s (x.l.take m))).length<=1000000000):AP Tryd.prog 22 [itD x] (prD (UJ x)) []:=by
 have hO:=Gm x 2 hw hxl hlim
 have hsub:=UF x 2
 have hws:wfs x.l:=by obtain⟨k,n,b,l⟩:=x;exact hw.2.2.2
 unfold UJ
 generalize VB x 2=o at *
 obtain⟨ol,oe⟩:=o
 have hlen:=Zx ol
 have hUo:=YV ol
 dsimp only at hsub
 have hSame:=fun(B:PriV) (h1:B.fl<18446744073709551616)=>Vz (Yq B).1 (UU h1) x hw
 obtain⟨k,n,b,l⟩:=x
 dsimp only[It.l]at *
 unfold Gu
 dsimp only
 replace hO:AP Tryd.prog 40 [.agg [.int .i64 k,.int .u64 (n:Int),byE b,.sl .ext (Zp l)],.int .i64 2] (.tup [.sl .ext (Zp ol),.int .i64 oe]) []:=hO
 cases t1:(oe != 0) with
 | true=>exact Re k n b _ _ oe hO t1
 | false=>
 have hno:ol.length ≠ 8->AP Tryd.prog 22 [itD (.mk k n b l)] (prD (pr0,3)) []:=fun h=>Rf k n b _ _ oe hO t1 (by rw[hlen];simp;omega)
 match ol,hO,hsub,hlen,hUo,hno with
 | [],_,_,_,_,h=>exact h (by simp)
 | [_],_,_,_,_,h=>exact h (by simp)
 | [_,_],_,_,_,_,h=>exact h (by simp)
 | [_,_,_],_,_,_,_,h=>exact h (by simp)
 | [_,_,_,_],_,_,_,_,h=>exact h (by simp)
 | [_,_,_,_,_],_,_,_,_,h=>exact h (by simp)
 | [_,_,_,_,_,_],_,_,_,_,h=>exact h (by simp)
 | [_,_,_,_,_,_,_],_,_,_,_,h=>exact h (by simp)
 | _::_::_::_::_::_::_::_::_::_,_,_,_,_,h=>exact h (by simp)
 | [.mk k0 n0 b0 l0,.mk k1 n1 b1 l1,.mk k2 n2 b2 l2,.mk k3 n3 b3 l3,.mk k4 n4 b4 l4,.mk k5 n5 b5 l5,.mk k6 n6 b6 l6,.mk k7 n7 b7 l7],hO,hsub,hlen,hUo,_=>
 have hwm:∀ y ∈ [It.mk k0 n0 b0 l0,.mk k1 n1 b1 l1,.mk k2 n2 b2 l2,.mk k3 n3 b3 l3,.mk k4 n4 b4 l4,.mk k5 n5 b5 l5,.mk k6 n6 b6 l6,.mk k7 n7 b7 l7],wfI y:=fun y hy=>Ys hws y (hsub y hy)
 clear hsub
 have t2:(((Zp [It.mk k0 n0 b0 l0,.mk k1 n1 b1 l1,.mk k2 n2 b2 l2,.mk k3 n3 b3 l3,.mk k4 n4 b4 l4,.mk k5 n5 b5 l5,.mk k6 n6 b6 l6,.mk k7 n7 b7 l7]).length:Int) != 8)=false:=by rw[hlen];rfl
 dsimp only
 have w1:n1<18446744073709551616:=(hwm (.mk k1 n1 b1 l1) (by simp)).1
 have w3:=hwm (.mk k3 n3 b3 l3) (by simp)
 have w4:=hwm (.mk k4 n4 b4 l4) (by simp)
 have w5:=hwm (.mk k5 n5 b5 l5) (by simp)
 have w6:=hwm (.mk k6 n6 b6 l6) (by simp)
 have w46:wfI (.mk 4 0 [] [.mk k4 n4 b4 l4,.mk k6 n6 b6 l6]):=⟨by decide,by simp,by simp,w4,w6,trivial⟩
 have hD:AP Tryd.prog 41 [itD (.mk k3 n3 b3 l3)] (.tup [.agg (eC (eZ (.mk k3 n3 b3 l3))),.int .i64 (match(Yt (.mk k3 n3 b3 l3)).2 with|true=>0|false=>3)]) []:=QP _ w3
 have hR:AP Tryd.prog 41 [itD (.mk k5 n5 b5 l5)] (.tup [.agg (eC (eZ (.mk k5 n5 b5 l5))),.int .i64 (match(Yt (.mk k5 n5 b5 l5)).2 with|true=>0|false=>3)]) []:=QP _ w5
 have hI:=TM _ w46
 have hL:=Wz [.mk k4 n4 b4 l4,.mk k6 n6 b6 l6] (by simp) ⟨w4,w6,trivial⟩
 have hW:=Xf (Jq (.mk k1 n1 b1 l1) (.mk k2 n2 b2 l2) (.mk k3 n3 b3 l3) (.mk k4 n4 b4 l4) (.mk k5 n5 b5 l5) (.mk k6 n6 b6 l6) (.mk k7 n7 b7 l7)) w1
 have hS:=hSame (Jq (.mk k1 n1 b1 l1) (.mk k2 n2 b2 l2) (.mk k3 n3 b3 l3) (.mk k4 n4 b4 l4) (.mk k5 n5 b5 l5) (.mk k6 n6 b6 l6) (.mk k7 n7 b7 l7)) w1
 clear hSame hwm w3 w4 w5 w6 w46 w1 hws hlim hw
 unfold Jq at *
 dsimp only[It.n]at *
 generalize eZ (.mk k3 n3 b3 l3)=dz at *
 generalize eZ (.mk k5 n5 b5 l5)=rz at *
 generalize (Yt (.mk k3 n3 b3 l3)).2=d2 at *
 generalize (Yt (.mk k5 n5 b5 l5)).2=r2 at *
 generalize WL (.mk 4 0 [] [.mk k4 n4 b4 l4,.mk k6 n6 b6 l6])=u at *
 obtain⟨u,ut,uq,u2⟩:=u
 try dsimp only at *
 generalize Yq ⟨n1,IntKind.i64.wrap (n2:Int),dz,rz,u,ut,uq,n7⟩=wr at *
 obtain⟨⟨wk,wn,wb,wl⟩,we⟩:=wr
 try dsimp only at *
 cases d2 with
 | false=>exact(Ja k n b _ _ oe k0 n0 b0 l0 k1 n1 b1 l1 k2 n2 b2 l2 k3 n3 b3 l3 k4 n4 b4 l4 k5 n5 b5 l5 k6 n6 b6 l6 k7 n7 b7 l7 dz.i dz.n dz.s dz.h dz.d rz.i rz.n rz.s rz.h rz.d u.i u.n u.s u.h u.d ut uq _ _ _ we wk wn wb _ _ hO t1 t2 hUo rfl rfl rfl rfl rfl rfl rfl hD hR hL hI hW hS).1 rfl
 | true=>
 cases r2 with
 | false=>exact(Ja k n b _ _ oe k0 n0 b0 l0 k1 n1 b1 l1 k2 n2 b2 l2 k3 n3 b3 l3 k4 n4 b4 l4 k5 n5 b5 l5 k6 n6 b6 l6 k7 n7 b7 l7 dz.i dz.n dz.s dz.h dz.d rz.i rz.n rz.s rz.h rz.d u.i u.n u.s u.h u.d ut uq _ _ _ we wk wn wb _ _ hO t1 t2 hUo rfl rfl rfl rfl rfl rfl rfl hD hR hL hI hW hS).2.1 rfl rfl
 | true=>
 cases u2 with
 | false=>exact(Ja k n b _ _ oe k0 n0 b0 l0 k1 n1 b1 l1 k2 n2 b2 l2 k3 n3 b3 l3 k4 n4 b4 l4 k5 n5 b5 l5 k6 n6 b6 l6 k7 n7 b7 l7 dz.i dz.n dz.s dz.h dz.d rz.i rz.n rz.s rz.h rz.d u.i u.n u.s u.h u.d ut uq _ _ _ we wk wn wb _ _ hO t1 t2 hUo rfl rfl rfl rfl rfl rfl rfl hD hR hL hI hW hS).2.2 rfl rfl rfl
 | true=>
 try dsimp only[Bool.and_self]
 cases t4:(we != 0) with
 | true=>exact(Jb k n b _ _ oe k0 n0 b0 l0 k1 n1 b1 l1 k2 n2 b2 l2 k3 n3 b3 l3 k4 n4 b4 l4 k5 n5 b5 l5 k6 n6 b6 l6 k7 n7 b7 l7 dz.i dz.n dz.s dz.h dz.d rz.i rz.n rz.s rz.h rz.d u.i u.n u.s u.h u.d ut uq _ _ _ we wk wn wb _ _ hO t1 t2 hUo rfl rfl rfl rfl rfl rfl rfl hD hR hL hI hW hS rfl rfl rfl).1 t4
 | false=>
 try dsimp only
 cases t5:It.beq (.mk wk wn wb wl) (.mk k n b l) with
 | false=>
  rw[t5]at hS
  exact(Jb k n b _ _ oe k0 n0 b0 l0 k1 n1 b1 l1 k2 n2 b2 l2 k3 n3 b3 l3 k4 n4 b4 l4 k5 n5 b5 l5 k6 n6 b6 l6 k7 n7 b7 l7 dz.i dz.n dz.s dz.h dz.d rz.i rz.n rz.s rz.h rz.d u.i u.n u.s u.h u.d ut uq _ _ _ we wk wn wb _ _ hO t1 t2 hUo rfl rfl rfl rfl rfl rfl rfl hD hR hL hI hW hS rfl rfl rfl).2.1 t4 hS
 | true=>
  rw[t5]at hS
  exact(Jb k n b _ _ oe k0 n0 b0 l0 k1 n1 b1 l1 k2 n2 b2 l2 k3 n3 b3 l3 k4 n4 b4 l4 k5 n5 b5 l5 k6 n6 b6 l6 k7 n7 b7 l7 dz.i dz.n dz.s dz.h dz.d rz.i rz.n rz.s rz.h rz.d u.i u.n u.s u.h u.d ut uq _ _ _ we wk wn wb _ _ hO t1 t2 hUo rfl rfl rfl rfl rfl rfl rfl hD hR hL hI hW hS rfl rfl rfl).2.2 t4 hS
theorem OV {x:EidV}{t q:Nat}(h:Wp x t q=true):WL (QR x t q)=(x,t,q,true):=by
 obtain⟨h1,_,_⟩:=WU.1 h
 have hr:=UH h1 (UI h1)
 have hz:Up (YA x)=x:=by show(match(Yt (YA x)).2 with|true=>(Yt (YA x)).1|false=>Wd)=x;rw[hr]
 unfold QR WL
 dsimp only
 have e:Ql (YA x) (.mk 0 t [] []) (.mk 0 q [] []) (.mk 4 0 [] [YA x,.mk 4 0 [] [.mk 0 t [] [],.mk 0 q [] []]])=true:=by
  unfold Ql
  rw[hz,hr]
  dsimp only[It.n]
  rw[h]
  exact QQ _
 rw[e,hz]
 rfl
theorem Xw {p:PriV}(hs:p.sum=IntKind.i64.wrap ((p.sum.toNat:Nat):Int)){x:It}(h:Yq p=(x,0)):UJ x=(p,0):=by
 have hr:WJ p=true:=by
  unfold Yq at h
  cases hr:WJ p with
  | true=>rfl
  | false=>rw[hr]at h;simp at h
 have h2:=h
 unfold Yq at h2
 rw[hr]at h2
 have ho:=Kg h2
 obtain⟨_,_,d1,d2,d3,_⟩:=V1 hr
 have r1:=UH d1 (UI d1)
 have r2:=UH d2 (UI d2)
 have r3:=OV d3
 have e1:eZ (YA p.dest)=p.dest:=by unfold eZ;rw[r1]
 have e2:eZ (YA p.rep)=p.rep:=by unfold eZ;rw[r2]
 unfold QR at r3
 unfold UJ
 rw[ho]
 unfold Gu WK
 dsimp only
 have e:Jq (.mk 0 p.fl [] []) (.mk 0 p.sum.toNat [] []) (YA p.dest) (YA p.src) (YA p.rep) (.mk 4 0 [] [.mk 0 p.t [] [],.mk 0 p.q [] []]) (.mk 0 p.life [] [])=p:=by
  unfold Jq
  rw[e1,e2,r3]
  dsimp only[It.n]
  rw[<- hs]
 rw[e,r1,r2,r3,h]
 simp[QQ]
theorem Y3 {p:PriV}{x:It}(h:Yq p=(x,0)):WJ p=true/\W3 (WK p) 2=(x,0):=by
 unfold Yq at h
 cases hr:WJ p with
 | true=>rw[hr]at h;exact⟨rfl,h⟩
 | false=>rw[hr]at h;simp at h
theorem Mm {z:It}(hw:wfI z):(UJ z).1.fl<18446744073709551616:=by
 have hsub:=UF z 2
 have hws:wfs z.l:=by obtain⟨k,n,b,l⟩:=z;exact hw.2.2.2
 unfold UJ
 generalize VB z 2=o at *
 have h0:pr0.fl<18446744073709551616:=by decide
 unfold Gu
 split
 ·exact h0
 ·split
  ·rename_i heq
   rw[heq]at hsub
   split
   ·exact h0
   ·split
    ·exact h0
    ·split
     ·exact h0
     ·exact TJ (Ys hws _ (hsub _ (List.mem_cons_of_mem _ (List.mem_cons_self ..))))
  ·exact h0
structure BunV where
 p:PriV
 bl:List BlkV
def QS (k:Nat):Bool:=k==1||(k==6||(k==7||k==10))
def Us:List BlkV->List BlkV->Bool
 | _,[]=>true
 | pre,b::r=>Yh b&&(pre.all (fun c=>c.num != b.num&&(c.ty != b.ty || !QS b.ty))&&Us (pre++[b]) r)
def U0 (l:List BlkV):Bool:=match l.getLast? with
 | none=>false
 | some b=>decide (l.length<=8)&&(b.ty==1&&(b.num==1&&Us [] l))
theorem Xg:∀ {l pre:List BlkV},Us pre l=true->∀ b ∈ l,Yh b=true
 | [],_,_,b,hb=>by simp at hb
 | x::l,pre,h,b,hb=>by
  rw[Us]at h
  simp only[Bool.and_eq_true]at h
  rcases List.mem_cons.1 hb with rfl|hb
  ·exact h.1
  ·exact Xg h.2.2 b hb
theorem WY {l:List BlkV}(h:U0 l=true):l.length<=8/\∀ b ∈ l,Yh b=true:=by
 unfold U0 at h
 split at h
 ·cases h
 ·simp only[Bool.and_eq_true,decide_eq_true_eq]at h
  exact⟨h.1,Xg h.2.2.2⟩
def YU (b:BunV):List It:=(Yq b.p).1::b.bl.map fun c=>(Z7 c).1
def U9 (b:BunV):Bool:=(Yq b.p).2==0&&b.bl.all fun c=>(Z7 c).2==0
def Ws (b:BunV):List UInt8:=159::(ZH (YU b)++[255])
def Z8 (b:BunV):Bool:=U0 b.bl&&(U9 b&&decide (((ZH (YU b)).length:Int)<=598))
theorem Kk:∀(l:List It) (k m:Nat),(∀ x ∈ l,Wf x 5=true/\U7 x=true/\YX x<=k)->l.length*k<=m->∃ m',Yc l 2 m=some m'
 | [],k,m,_,_=>⟨m,by rw[Yc]⟩
 | x::l,k,m,h,hm=>by
  obtain⟨h1,h2,h3⟩:=h x (List.mem_cons_self ..)
  rw[List.length_cons,Nat.add_mul,Nat.one_mul]at hm
  obtain⟨m',h4⟩:=Kk l k (m-YX x) (fun y hy=>h y (List.mem_cons_of_mem _ hy)) (by omega)
  refine⟨m',?_⟩
  rw[Yc,J1,if_pos ⟨h1,by omega,h2⟩]
  exact h4
theorem Vr {l:List It}{a:Int}{x:It}(h:W3 l a=(x,0)):ZI x=true:=by
 unfold W3 at h
 split at h
 ·simp at h
 ·split at h
  ·simp at h
  ·split at h
   ·split at h
    ·rename_i hr
     simp only[Prod.mk.injEq,and_true]at h
     subst h;exact hr
    ·simp at h
   ·split at h
    ·simp at h
    ·split at h
     ·simp at h
     ·rename_i hr
      simp only[Prod.mk.injEq,and_true]at h
      subst h;exact hr
theorem Xh {x:It}(h:ZI x=true):U7 x=true:=by
 rw[X3]at h
 simp only[Bool.and_eq_true]at h
 exact h.2.2
theorem Hk {c:BlkV}{x:It}(h:Z7 c=(x,0)):Wf x 5=true/\U7 x=true/\YX x<=24:=by
 obtain⟨_,hs⟩:=Vq h
 refine⟨?_,Xh (Vr hs),?_⟩
 ·rcases Vp hs with rfl|⟨s,_,rfl⟩
  ·simp[WH,Wf,WB]
  ·simp[Qh,WH,Wf,WB]
 ·rcases Vp hs with rfl|⟨s,_,rfl⟩
  ·simp[WH,YX,Y9]
  ·simp[Qh,WH,YX,Y9]
theorem KR (x:EidV):Wf (YA x) 4=true/\YX (YA x)<=5:=by
 unfold YA
 repeat' split
 all_goals simp[Wf,WB,YX,Y9]
theorem TO {p:PriV}{x:It}(h:Yq p=(x,0)):Wf x 5=true/\U7 x=true/\YX x<=24:=by
 obtain⟨_,hs⟩:=Y3 h
 obtain⟨a1,a2⟩:=KR p.dest
 obtain⟨b1,b2⟩:=KR p.src
 obtain⟨c1,c2⟩:=KR p.rep
 refine⟨?_,Xh (Vr hs),?_⟩
 ·rcases Vp hs with rfl|⟨s,_,rfl⟩
  ·simp[WK,Wf,WB,a1,b1,c1]
  ·simp[Qh,WK,Wf,WB,a1,b1,c1]
 ·rcases Vp hs with rfl|⟨s,_,rfl⟩
  ·simp[WK,YX,Y9];omega
  ·simp[Qh,WK,YX,Y9];omega
theorem II {b:BunV}(hb:Z8 b=true)(hw:wfs (YU b)):Ym (Ws b) 0=(.mk 4 0 [] (YU b),(Ws b).length,0):=by
 unfold Z8 U9 at hb
 simp only[Bool.and_eq_true,List.all_eq_true,beq_iff_eq]at hb
 obtain⟨hf,⟨hp,hc⟩,_⟩:=hb
 have hl:=(WY hf).1
 obtain⟨m',h⟩:=Kk (YU b) 24 255 (fun x hx=>by
  unfold YU at hx
  rcases List.mem_cons.1 hx with rfl|hx
  ·exact TO (Prod.ext rfl hp)
  ·obtain⟨c,hcm,rfl⟩:=List.mem_map.1 hx
   exact Hk (Prod.ext rfl (hc c hcm))) (by unfold YU;simp;omega)
 have:=G6 hw h
 unfold Ws
 rw[this]
 simp
def Wj:List It->Except Int (List BlkV)
 | []=>.ok []
 | y::r=>match(WO y).2==0 with
  | false=>.error (WO y).2
  | true=>match Wj r with
   | .error e=>.error e
   | .ok l=>.ok ((WO y).1::l)
def bn0:BunV:=⟨pr0,[]⟩
def OW (it:It):BunV × Int:=match it with
 | .mk k _ _ l=>match k==4&&(decide (2<=l.length)&&decide (l.length<=9)) with
  | false=>(bn0,3)
  | true=>match l with
   | []=>(bn0,3)
   | x::r=>match(UJ x).2 != 0 with
    | true=>(bn0,(UJ x).2)
    | false=>match Wj r with
     | .error e=>(bn0,e)
     | .ok bl=>match Z8 ⟨(UJ x).1,bl⟩ with
      | false=>(bn0,3)
      | true=>(⟨(UJ x).1,bl⟩,0)
def W9 (x:List UInt8):BunV × Int:=match decide ((x.length:Int)>1200) with
 | true=>(bn0,2)
 | false=>match((Ym x 0).2.2:Int) != 0 with
  | true=>(bn0,((Ym x 0).2.2:Int))
  | false=>match(Ym x 0).2.1==x.length with
   | false=>(bn0,3)
   | true=>OW (Ym x 0).1
theorem Qm:∀ {l:List It} {e:Int},Wj l=.error e->e ≠ 0
 | [],e,h=>by cases h
 | y::r,e,h=>by
  rw[Wj]at h
  cases t:((WO y).2==0) with
  | false=>
   rw[t]at h
   simp only[Except.error.injEq]at h
   subst h
   simpa using t
  | true=>
   rw[t]at h
   dsimp only at h
   cases hr:Wj r with
   | error e'=>
    rw[hr]at h
    simp only[Except.error.injEq]at h
    subst h
    exact Qm hr
   | ok l=>rw[hr]at h;cases h
theorem Xi {x:List UInt8}{b:BunV}(h:W9 x=(b,0)):Z8 b=true:=by
 unfold W9 at h
 split at h
 ·simp at h
 ·split at h
  ·rename_i t
   simp only[Prod.mk.injEq]at h
   rw[h.2]at t
   cases t
  ·split at h
   ·simp at h
   ·unfold OW at h
    split at h
    split at h
    ·simp at h
    ·split at h
     ·simp at h
     ·split at h
      ·rename_i t
       simp only[Prod.mk.injEq]at h
       rw[h.2]at t
       cases t
      ·split at h
       ·rename_i e he
        simp only[Prod.mk.injEq]at h
        exact absurd h.2 (Qm he)
       ·split at h
        ·simp at h
        ·rename_i hr
         simp only[Prod.mk.injEq,and_true]at h
         subst h
         exact hr
theorem OX {s:Int}(h0:0<=s)(h2:s<=2):s=IntKind.i64.wrap ((s.toNat:Nat):Int):=by
 rw[IntWalk.i64_in _ (by omega)];omega
theorem Xj:∀ {l:List BlkV},(∀ c ∈ l,Yh c=true/\(Z7 c).2=0)->Wj (l.map fun c=>(Z7 c).1)=.ok l
 | [],_=>rfl
 | c::l,h=>by
  obtain⟨h1,h2⟩:=h c (List.mem_cons_self ..)
  obtain⟨_,_,s1,s2,_⟩:=UE h1
  have hr:=Xv (OX s1 s2) (x:=(Z7 c).1) (Prod.ext rfl h2)
  rw[List.map_cons,Wj,hr,Xj fun y hy=>h y (List.mem_cons_of_mem _ hy)]
  rfl
theorem VI {b:BunV}(hb:Z8 b=true)(hw:wfs (YU b)):W9 (Ws b)=(b,0):=by
 have hi:=II hb hw
 have hb2:=hb
 unfold Z8 U9 at hb2
 simp only[Bool.and_eq_true,List.all_eq_true,beq_iff_eq,decide_eq_true_eq]at hb2
 obtain⟨hf,⟨hp,hc⟩,hl⟩:=hb2
 obtain⟨hl8,hbr⟩:=WY hf
 obtain⟨hpr,_⟩:=Y3 (p:=b.p) (x:=(Yq b.p).1) (Prod.ext rfl hp)
 obtain⟨s1,s2,_⟩:=V1 hpr
 have hrp:=Xw (OX s1 s2) (x:=(Yq b.p).1) (Prod.ext rfl hp)
 have hrb:=Xj fun c hcm=>⟨hbr c hcm,hc c hcm⟩
 have hne:1<=b.bl.length:=by
  unfold U0 at hf
  cases hbl:b.bl with
  | nil=>rw[hbl]at hf;cases hf
  | cons c l=>simp
 have hlen:(Ws b).length=(ZH (YU b)).length+2:=by unfold Ws;simp
 have d0:decide (((Ws b).length:Int)>1200)=false:=decide_eq_false (by omega)
 unfold W9
 rw[d0,hi]
 dsimp only
 have e1:(((0:Nat):Int) != 0)=false:=rfl
 rw[e1]
 dsimp only
 rw[beq_self_eq_true]
 dsimp only
 unfold OW YU
 have d1:decide (2<=((Yq b.p).1::b.bl.map fun c=>(Z7 c).1).length)=true:=decide_eq_true (by simp;omega)
 have d2:decide (((Yq b.p).1::b.bl.map fun c=>(Z7 c).1).length<=9)=true:=decide_eq_true (by simp;omega)
 dsimp only
 rw[d1,d2,hrp,hrb]
 dsimp only
 rw[hb]
 rfl
theorem Jc {b:BunV}(hp:b.p.fl<18446744073709551616)(hb:∀ c ∈ b.bl,c.fl<18446744073709551616/\c.data.length<=3000):wfs (YU b):=by
 have key:∀ l:List BlkV,(∀ c ∈ l,c.fl<18446744073709551616/\c.data.length<=3000)->wfs (l.map fun c=>(Z7 c).1):=fun l=>by
  induction l with
  | nil=>intro _;trivial
  | cons c l ih=>
   intro h
   obtain⟨h1,h2⟩:=h c (List.mem_cons_self ..)
   exact⟨Xd h1 h2,ih fun y hy=>h y (List.mem_cons_of_mem _ hy)⟩
 exact⟨UU hp,key b.bl hb⟩
theorem TP {c:BlkV}(h:Yh c=true):c.data.length<=200:=by
 obtain⟨_,_,_,_,hd⟩:=UE h
 unfold Xc at hd
 rw[Bool.and_eq_true,decide_eq_true_eq]at hd
 omega
def JC (x:List UInt8):Bool:=(W9 x).2==0&&Ws (W9 x).1==x
theorem Hl {b:BunV}(hb:Z8 b=true)(hw:wfs (YU b)):JC (Ws b)=true:=by
 unfold JC
 rw[VI hb hw]
 simp
theorem IJ {b:BunV}(hb:Z8 b=true):(Ws b).length<=600:=by
 unfold Z8 at hb
 simp only[Bool.and_eq_true,decide_eq_true_eq]at hb
 have hlen:(Ws b).length=(ZH (YU b)).length+2:=by unfold Ws;simp
 omega
end Go.Proofs.YtmljabhmajehnaaDoor
end
