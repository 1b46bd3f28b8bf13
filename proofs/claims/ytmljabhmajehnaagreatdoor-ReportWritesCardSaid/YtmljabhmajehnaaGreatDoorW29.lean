/- CanonBack: plain laws. -/
import Derived.Test.YtmljabhmajehnaaGreatDoorW28
import Derived.Test.YtmljabhmajehnaaGreatDoorW23
import Derived.Test.YtmljabhmajehnaaGreatDoorW24
import Derived.Test.YtmljabhmajehnaaGreatDoorW12
set_option linter.unusedVariables false
set_option linter.unusedSimpArgs false
section
open Go.RowKit Go.Pl Go.Av
namespace Go.Proofs.YtmljabhmajehnaaGreatDoor
set_option maxHeartbeats 4000000
theorem NV (x:It):It.beq x x=true:=It.beq_iff.2 rfl
theorem Yi (k:Int)(n:Nat)(b:List UInt8)(l:List It):(ZH (.mk k n b l)).length<=9+(b.length+(ZO l).length):=by
 rw[ZH,List.length_append,List.length_append]
 split
 ·rename_i h
  have h1:=Qg h rfl
  have h2:ZE (It.mk k n b l).hn<=8:=by
   unfold ZE
   repeat' split
   all_goals omega
  dsimp only at h1
  omega
 ·simp
theorem Ys (n:Nat):(ZH (.mk 0 n [] [])).length<=9:=by
 have:=Yi 0 n [] []
 simpa[ZO]using this
theorem Uy (n m:Nat):(ZH (IV n m)).length<=27:=by
 have h0:=Yi 4 0 [] [.mk 0 n [] [],.mk 0 m [] []]
 have h1:=Ys n
 have h2:=Ys m
 simp only[ZO,List.length_append,List.length_nil,Nat.add_zero,Nat.zero_add]at h0
 have e:IV n m=.mk 4 0 [] [.mk 0 n [] [],.mk 0 m [] []]:=rfl
 rw[e]
 omega
theorem GH {l:List It}{a:Int}{x:It}(h:VJ l a=(x,0)):x=.mk 4 0 [] l\/∃ s,(s=1\/s=2)/\x=Ow s l:=by
 unfold VJ at h
 cases d0:(decide (a<0)||decide (a ≥ (l.length:Int))) with
 | true=>rw[d0]at h;simp at h
 | false=>
 rw[d0]at h
 cases d1:(l.all ZN&&decide (WA l a ≥ 0)) with
 | false=>rw[d1]at h;simp at h
 | true=>
 rw[d1]at h
 dsimp only at h
 cases d2:decide (WA l a>0) with
 | false=>
  rw[d2]at h
  dsimp only at h
  cases hr:ZN (.mk 4 0 [] l) with
  | false=>rw[hr]at h;simp at h
  | true=>
   rw[hr]at h
   simp only[Prod.mk.injEq,and_true]at h
   exact .inl h.symm
 | true=>
  rw[d2]at h
  dsimp only at h
  have hs:(WA l a).toNat=1\/(WA l a).toNat=2:=by
   rcases J4 l a with e|⟨e,_⟩
   ·have:=of_decide_eq_true d2;omega
   ·have:=of_decide_eq_true d2;omega
  cases hz:ZN (Yw (WA l a).toNat l) with
  | false=>rw[hz]at h;simp at h
  | true=>
   rw[hz]at h
   dsimp only at h
   cases hr:ZN (Ow (WA l a).toNat l) with
   | false=>rw[hr]at h;simp at h
   | true=>
    rw[hr]at h
    simp only[Prod.mk.injEq,and_true]at h
    exact .inr ⟨_,hs,h.symm⟩
theorem U2 {b:BlkV}{x:It}(h:Y9 b=(x,0)):Wm b=true/\VJ (VY b) 3=(x,0):=by
 unfold Y9 at h
 cases hr:Wm b with
 | true=>rw[hr]at h;exact⟨rfl,h⟩
 | false=>rw[hr]at h;simp at h
abbrev UH (y:It):EidV:=match(ZS y).2 with|true=>(ZS y).1|false=>Ye
def Uz (y p r x:It):Bool:=match(ZS y).2,Yo (UH y) p.n r.n with
 | true,true=>It.beq (Yl (UH y) p.n r.n) x
 | _,_=>false
abbrev M6 (x:EidV)(t q:Nat)(b:Bool):D:=.tup [.agg (iC (match b with|true=>x|false=>Ye) (match b with|true=>t|false=>0) (match b with|true=>q|false=>0)),.int .i64 (match b with|true=>0|false=>3)]
def X3:It->Bool
 | .mk k _ _ [_,.mk k2 _ _ [_,_]]=>!(k==4&&k2==4)
 | _=>true
theorem GI [Known][KnownU8](x:It)(h:X3 x=true):AP Tryz.prog 67 [itD x] (M6 Ye 0 0 false) []:=by
 show AP Tryz.prog _ _ (.tup [.agg [.bool false,.int .u64 0,.int .u64 0,.str [],.str [],.int .u64 0,.int .u64 0],.int .i64 3]) []
 obtain⟨k,n,b,l⟩:=x
 by_cases hk:k=4
 ·have t1:(k != 4)=false:=by simpa using hk
  by_cases hl:l.length=2
  ·obtain⟨y,z,rfl⟩:∃ y z,l=[y,z]:=by
    match l,hl with
    | [y,z],_=>exact⟨y,z,rfl⟩
   have t2:(((Zu [y,z]).length:Int) != 2)=false:=rfl
   have hU:=Yz [y,z]
   obtain⟨ky,ny,bY,ly⟩:=y
   obtain⟨kz,nz,bz,lz⟩:=z
   by_cases hk2:kz=4
   ·have t3:(kz != 4)=false:=by simpa using hk2
    have hl2:lz.length ≠ 2:=by
     intro e
     match lz,e with
     | [p,r],_=>simp[X3,hk,hk2]at h
    have t4:(((Zu lz).length:Int) != 2)=true:=by rw[Zx];simp;omega
    refine AP.ofA (Zl Tryz.func67 Z Tryz.ntmps67 Z Z ?_)
    repeat'(first|(apply Zi Za;exact Z)|(apply Zf Za;exact Z)|(apply Zp Za;exact Z)|refine Ze Z Z Z Qt ?_|refine Zh Z Qt Z Z ?_|refine Zd Z Qt ?_|refine Zm Za Z Z Z Z ?_|(apply Zv Za;(iterate 6 exact Z);(first|exact Qt|rotate_left);(first|with_reducible assumption|decide +kernel|exact Z);(first|exact Zk rfl|with_reducible assumption|decide +kernel|rotate_left)))
    all_goals exact Qe
   ·have t3:(kz != 4)=true:=by simpa using hk2
    refine AP.ofA (Zl Tryz.func67 Z Tryz.ntmps67 Z Z ?_)
    repeat'(first|(apply Zi Za;exact Z)|(apply Zf Za;exact Z)|(apply Zp Za;exact Z)|refine Ze Z Z Z Qt ?_|refine Zn Z Z Z Qt ?_|refine Zj Z Qt Z Z ?_|refine Zh Z Qt Z Z ?_|refine Zd Z Qt ?_|refine Zm Za Z Z Z Z ?_|(apply Zv Za;(iterate 6 exact Z);(first|exact Qt|rotate_left);(first|with_reducible assumption|decide +kernel|exact Z);(first|exact Zk rfl|with_reducible assumption|decide +kernel|rotate_left)))
    all_goals exact Qe
  ·have t2:(((Zu l).length:Int) != 2)=true:=by rw[Zx];simp;omega
   refine AP.ofA (Zl Tryz.func67 Z Tryz.ntmps67 Z Z ?_)
   repeat'(first|(apply Zi Za;exact Z)|(apply Zf Za;exact Z)|(apply Zp Za;exact Z)|refine Ze Z Z Z Qt ?_|refine Zn Z Z Z Qt ?_|refine Zj Z Qt Z Z ?_|refine Zh Z Qt Z Z ?_|refine Zd Z Qt ?_|refine Zm Za Z Z Z Z ?_)
   all_goals exact Qe
 ·have t1:(k != 4)=true:=by simpa using hk
  refine AP.ofA (Zl Tryz.func67 Z Tryz.ntmps67 Z Z ?_)
  repeat'(first|(apply Zi Za;exact Z)|(apply Zf Za;exact Z)|(apply Zp Za;exact Z)|refine Zn Z Z Z Qt ?_|refine Zj Z Qt Z Z ?_|refine Zd Z Qt ?_)
  all_goals exact Qe
theorem R5 [Known](y z:It)(n:Nat)(b:List UInt8)(n2:Nat)(b2:List UInt8)(kp:Int)(np:Nat)(bp:List UInt8)(lp:List It)(kr:Int)(nr:Nat)(br:List UInt8)(lr:List It)(c:Int)
  (hE:AP Tryz.prog 112 [itD y] (.tup [.agg (eC Ye),.int .i64 3]) []) (hW:AP Tryz.prog 62 [.agg (iC Ye np nr)] (.tup [itD z,.int .i64 c]) []) :
  AP Tryz.prog 67 [itD (.mk 4 n b [y,.mk 4 n2 b2 [.mk kp np bp lp,.mk kr nr br lr]])] (.tup [.agg (iC Ye 0 0),.int .i64 3]) []:=by
 have hU:=Yz [y,.mk 4 n2 b2 [.mk kp np bp lp,.mk kr nr br lr]]
 have hU2:=Yz [.mk kp np bp lp,.mk kr nr br lr]
 have t2:(((Zu [y,.mk 4 n2 b2 [.mk kp np bp lp,.mk kr nr br lr]]).length:Int) != 2)=false:=rfl
 have t3:(((Zu [.mk kp np bp lp,.mk kr nr br lr]).length:Int) != 2)=false:=rfl
 obtain⟨yk,yn,yb,yl⟩:=y
 obtain⟨zk,zn,zb,zl⟩:=z
 replace hE:AP Tryz.prog _ [.agg [.int .i64 yk,.int .u64 (yn:Int),byE yb,.sl .ext (Zu yl)]] (.tup [.agg [.bool false,.int .u64 0,.int .u64 0,.str [],.str []],.int .i64 3]) []:=hE
 replace hW:AP Tryz.prog _ [.agg [.bool false,.int .u64 0,.int .u64 0,.str [],.str [],.int .u64 (np:Int),.int .u64 (nr:Int)]] (.tup [.agg [.int .i64 zk,.int .u64 (zn:Int),byE zb,.sl .ext (Zu zl)],.int .i64 c]) []:=hW
 refine AP.ofA (Zl Tryz.func67 Z Tryz.ntmps67 Z Z ?_)
 repeat'(first|(apply Zb (hE);kernel_rfl;(iterate 4 exact Z))|(apply Zb (hW);kernel_rfl;(iterate 4 exact Z))|(apply Zi Za;exact Z)|(apply Zf Za;exact Z)|(apply Zp Za;exact Z)|refine Ze Z Z Z Qt ?_|refine Zn Z Z Z Qt ?_|refine Zj Z Qt Z Z ?_|refine Zh Z Qt Z Z ?_|refine Zd Z Qt ?_|refine Zg Z Qt ?_|refine Zm Za Z Z Z Z ?_|(apply Zo 19 ZD;decide +kernel;kernel_rfl;kernel_rfl;kernel_rfl;exact Z;exact Z)|(apply Zs;(iterate 4 exact Z))|exact AE.nil _ _ _ _|(apply Zw;exact Z)|(apply Z7;exact Z)|(apply Zz;exact Z;exact Z;decide +kernel;exact Z)|(apply ZA;exact Z)|(apply Yt;exact Z)|exact AO.nil _ _ _|(apply Zr;(decide +kernel))|(apply ZX;(iterate 3 exact Z))|exact AOs.nil|exact ZF rfl rfl|exact YW rfl rfl|(apply Zv Za;(iterate 6 exact Z);(first|exact Qt|rotate_left);(first|with_reducible assumption|decide +kernel|exact Z);(first|exact Zk rfl|with_reducible assumption|decide +kernel|rotate_left)))
 all_goals exact Qe
theorem R6 [Known](x:EidV)(y z:It)(n:Nat)(b:List UInt8)(n2:Nat)(b2:List UInt8)(kp:Int)(np:Nat)(bp:List UInt8)(lp:List It)(kr:Int)(nr:Nat)(br:List UInt8)(lr:List It)
  (hE:AP Tryz.prog 112 [itD y] (.tup [.agg (eC x),.int .i64 0]) []) (hW:AP Tryz.prog 62 [.agg (iC x np nr)] (.tup [itD z,.int .i64 3]) []) :
  AP Tryz.prog 67 [itD (.mk 4 n b [y,.mk 4 n2 b2 [.mk kp np bp lp,.mk kr nr br lr]])] (.tup [.agg (iC Ye 0 0),.int .i64 3]) []:=by
 have hU:=Yz [y,.mk 4 n2 b2 [.mk kp np bp lp,.mk kr nr br lr]]
 have hU2:=Yz [.mk kp np bp lp,.mk kr nr br lr]
 have t2:(((Zu [y,.mk 4 n2 b2 [.mk kp np bp lp,.mk kr nr br lr]]).length:Int) != 2)=false:=rfl
 have t3:(((Zu [.mk kp np bp lp,.mk kr nr br lr]).length:Int) != 2)=false:=rfl
 obtain⟨yk,yn,yb,yl⟩:=y
 obtain⟨zk,zn,zb,zl⟩:=z
 obtain⟨xi,xn,xs,xh,xd⟩:=x
 replace hE:AP Tryz.prog _ [.agg [.int .i64 yk,.int .u64 (yn:Int),byE yb,.sl .ext (Zu yl)]] (.tup [.agg [.bool xi,.int .u64 (xn:Int),.int .u64 (xs:Int),.str xh,.str xd],.int .i64 0]) []:=hE
 replace hW:AP Tryz.prog _ [.agg [.bool xi,.int .u64 (xn:Int),.int .u64 (xs:Int),.str xh,.str xd,.int .u64 (np:Int),.int .u64 (nr:Int)]] (.tup [.agg [.int .i64 zk,.int .u64 (zn:Int),byE zb,.sl .ext (Zu zl)],.int .i64 3]) []:=hW
 refine AP.ofA (Zl Tryz.func67 Z Tryz.ntmps67 Z Z ?_)
 repeat'(first|(apply Zb (hE);kernel_rfl;(iterate 4 exact Z))|(apply Zb (hW);kernel_rfl;(iterate 4 exact Z))|(apply Zi Za;exact Z)|(apply Zf Za;exact Z)|(apply Zp Za;exact Z)|refine Ze Z Z Z Qt ?_|refine Zn Z Z Z Qt ?_|refine Zj Z Qt Z Z ?_|refine Zh Z Qt Z Z ?_|refine Zd Z Qt ?_|refine Zg Z Qt ?_|refine Zm Za Z Z Z Z ?_|(apply Zo 19 ZD;decide +kernel;kernel_rfl;kernel_rfl;kernel_rfl;exact Z;exact Z)|(apply Zs;(iterate 4 exact Z))|exact AE.nil _ _ _ _|(apply Zw;exact Z)|(apply Z7;exact Z)|(apply Zz;exact Z;exact Z;decide +kernel;exact Z)|(apply ZA;exact Z)|(apply Yt;exact Z)|exact AO.nil _ _ _|(apply Zr;(decide +kernel))|(apply ZX;(iterate 3 exact Z))|exact AOs.nil|exact ZF rfl rfl|exact YW rfl rfl|(apply Zv Za;(iterate 6 exact Z);(first|exact Qt|rotate_left);(first|with_reducible assumption|decide +kernel|exact Z);(first|exact Zk rfl|with_reducible assumption|decide +kernel|rotate_left)))
 all_goals exact Qe
theorem R7 [Known](x:EidV)(y z:It)(n:Nat)(b:List UInt8)(n2:Nat)(b2:List UInt8)(kp:Int)(np:Nat)(bp:List UInt8)(lp:List It)(kr:Int)(nr:Nat)(br:List UInt8)(lr:List It)(R:Bool)
  (hE:AP Tryz.prog 112 [itD y] (.tup [.agg (eC x),.int .i64 0]) []) (hW:AP Tryz.prog 62 [.agg (iC x np nr)] (.tup [itD z,.int .i64 0]) [])
  (hS:AP Tryz.prog 96 [itD z,itD (.mk 4 n b [y,.mk 4 n2 b2 [.mk kp np bp lp,.mk kr nr br lr]])] (.bool R) []) :
  AP Tryz.prog 67 [itD (.mk 4 n b [y,.mk 4 n2 b2 [.mk kp np bp lp,.mk kr nr br lr]])] (M6 x np nr R) []:=by
 have hU:=Yz [y,.mk 4 n2 b2 [.mk kp np bp lp,.mk kr nr br lr]]
 have hU2:=Yz [.mk kp np bp lp,.mk kr nr br lr]
 have t2:(((Zu [y,.mk 4 n2 b2 [.mk kp np bp lp,.mk kr nr br lr]]).length:Int) != 2)=false:=rfl
 have t3:(((Zu [.mk kp np bp lp,.mk kr nr br lr]).length:Int) != 2)=false:=rfl
 obtain⟨yk,yn,yb,yl⟩:=y
 obtain⟨zk,zn,zb,zl⟩:=z
 obtain⟨xi,xn,xs,xh,xd⟩:=x
 replace hE:AP Tryz.prog _ [.agg [.int .i64 yk,.int .u64 (yn:Int),byE yb,.sl .ext (Zu yl)]] (.tup [.agg [.bool xi,.int .u64 (xn:Int),.int .u64 (xs:Int),.str xh,.str xd],.int .i64 0]) []:=hE
 replace hW:AP Tryz.prog _ [.agg [.bool xi,.int .u64 (xn:Int),.int .u64 (xs:Int),.str xh,.str xd,.int .u64 (np:Int),.int .u64 (nr:Int)]] (.tup [.agg [.int .i64 zk,.int .u64 (zn:Int),byE zb,.sl .ext (Zu zl)],.int .i64 0]) []:=hW
 replace hS:AP Tryz.prog _ [.agg [.int .i64 zk,.int .u64 (zn:Int),byE zb,.sl .ext (Zu zl)],itD (.mk 4 n b [.mk yk yn yb yl,.mk 4 n2 b2 [.mk kp np bp lp,.mk kr nr br lr]])] (.bool R) []:=hS
 cases R with
 | true=>
  show AP Tryz.prog _ _ (.tup [.agg [.bool xi,.int .u64 (xn:Int),.int .u64 (xs:Int),.str xh,.str xd,.int .u64 (np:Int),.int .u64 (nr:Int)],.int .i64 0]) []
  refine AP.ofA (Zl Tryz.func67 Z Tryz.ntmps67 Z Z ?_)
  repeat'(first|(apply Zb (hE);kernel_rfl;(iterate 4 exact Z))|(apply Zb (hW);kernel_rfl;(iterate 4 exact Z))|(apply Zb (hS);kernel_rfl;(iterate 4 exact Z))|(apply Zi Za;exact Z)|(apply Zf Za;exact Z)|(apply Zp Za;exact Z)|refine Ze Z Z Z Qt ?_|refine Zh Z Qt Z Z ?_|refine Zg Z Qt ?_|refine Zm Za Z Z Z Z ?_|(apply Zo 19 ZD;decide +kernel;kernel_rfl;kernel_rfl;kernel_rfl;exact Z;exact Z)|(apply Zs;(iterate 4 exact Z))|exact AE.nil _ _ _ _|(apply Zw;exact Z)|(apply Z7;exact Z)|(apply Zz;exact Z;exact Z;decide +kernel;exact Z)|(apply ZA;exact Z)|(apply Yt;exact Z)|exact AO.nil _ _ _|(apply Zr;(decide +kernel))|(apply ZX;(iterate 3 exact Z))|exact AOs.nil|exact ZF rfl rfl|exact YW rfl rfl|(apply Zv Za;(iterate 6 exact Z);(first|exact Qt|rotate_left);(first|with_reducible assumption|decide +kernel|exact Z);(first|exact Zk rfl|with_reducible assumption|decide +kernel|rotate_left)))
  all_goals exact Qe
 | false=>
  show AP Tryz.prog _ _ (.tup [.agg [.bool false,.int .u64 0,.int .u64 0,.str [],.str [],.int .u64 0,.int .u64 0],.int .i64 3]) []
  refine AP.ofA (Zl Tryz.func67 Z Tryz.ntmps67 Z Z ?_)
  repeat'(first|(apply Zb (hE);kernel_rfl;(iterate 4 exact Z))|(apply Zb (hW);kernel_rfl;(iterate 4 exact Z))|(apply Zb (hS);kernel_rfl;(iterate 4 exact Z))|(apply Zi Za;exact Z)|(apply Zf Za;exact Z)|(apply Zp Za;exact Z)|refine Ze Z Z Z Qt ?_|refine Zh Z Qt Z Z ?_|refine Zd Z Qt ?_|refine Zg Z Qt ?_|refine Zm Za Z Z Z Z ?_|(apply Zo 19 ZD;decide +kernel;kernel_rfl;kernel_rfl;kernel_rfl;exact Z;exact Z)|(apply Zs;(iterate 4 exact Z))|exact AE.nil _ _ _ _|(apply Zw;exact Z)|(apply Z7;exact Z)|(apply Zz;exact Z;exact Z;decide +kernel;exact Z)|(apply ZA;exact Z)|(apply Yt;exact Z)|exact AO.nil _ _ _|(apply Zr;(decide +kernel))|(apply ZX;(iterate 3 exact Z))|exact AOs.nil|exact ZF rfl rfl|exact YW rfl rfl|(apply Zv Za;(iterate 6 exact Z);(first|exact Qt|rotate_left);(first|with_reducible assumption|decide +kernel|exact Z);(first|exact Zk rfl|with_reducible assumption|decide +kernel|rotate_left)))
  all_goals exact Qe
theorem IW [Known][KnownU8](n:Nat)(b:List UInt8)(y:It)(n2:Nat)(b2:List UInt8)(p r:It)(hw:wfI (.mk 4 n b [y,.mk 4 n2 b2 [p,r]])) :
  AP Tryz.prog 67 [itD (.mk 4 n b [y,.mk 4 n2 b2 [p,r]])] (M6 (UH y) p.n r.n (Uz y p r (.mk 4 n b [y,.mk 4 n2 b2 [p,r]]))) []:=by
 have hwy:wfI y:=hw.2.2.2.1
 have hE:=ID y hwy
 have hW:=JO (UH y) p.n r.n
 unfold Uz
 cases hv:(ZS y).2 with
 | false=>
  have e0:UH y=Ye:=by unfold UH;rw[hv]
  unfold Gy at hE
  rw[hv]at hE
  rw[e0]at hW
  obtain⟨kp,np,bp,lp⟩:=p
  obtain⟨kr,nr,br,lr⟩:=r
  exact R5 y _ n b n2 b2 kp np bp lp kr nr br lr _ hE hW
 | true=>
  have e0:UH y=(ZS y).1:=by unfold UH;rw[hv]
  unfold Gy at hE
  rw[hv]at hE
  rw[<- e0]at hE
  cases hr:Yo (UH y) p.n r.n with
  | false=>
   rw[hr]at hW
   obtain⟨kp,np,bp,lp⟩:=p
   obtain⟨kr,nr,br,lr⟩:=r
   exact R6 _ y _ n b n2 b2 kp np bp lp kr nr br lr hE hW
  | true=>
   rw[hr,if_pos rfl,if_pos rfl]at hW
   have hS:=Jg _ (XX hr) _ hw
   obtain⟨kp,np,bp,lp⟩:=p
   obtain⟨kr,nr,br,lr⟩:=r
   exact R7 _ y _ n b n2 b2 kp np bp lp kr nr br lr _ hE hW hS
def Yu (z:It):EidV × Nat × Nat × Bool:=match z with
 | .mk k n b [y,.mk k2 n2 b2 [p,r]]=>(match k==4&&k2==4 with
  | false=>(Ye,0,0,false)
  | true=>match Uz y p r (.mk k n b [y,.mk k2 n2 b2 [p,r]]) with
   | true=>(UH y,p.n,r.n,true)
   | false=>(Ye,0,0,false))
 | _=>(Ye,0,0,false)
theorem NW [Known][KnownU8](z:It)(hw:wfI z):AP Tryz.prog 67 [itD z] (.tup [.agg (iC (Yu z).1 (Yu z).2.1 (Yu z).2.2.1),.int .i64 (match(Yu z).2.2.2 with|true=>0|false=>3)]) []:=by
 cases h:X3 z with
 | true=>
  have e:Yu z=(Ye,0,0,false):=by
   unfold X3 at h
   unfold Yu
   split at h
   ·rw[Bool.not_eq_true']at h
    first|(rw[h];done)|(dsimp only;rw[h])
   ·rename_i hno
    first|rfl|(split<;>first|exact absurd rfl (hno _ _ _ _ _ _ _ _ _)|rfl)
  rw[e]
  exact GI z h
 | false=>
  obtain⟨n,b,y,n2,b2,p,r,rfl⟩:∃ n b y n2 b2 p r,z=.mk 4 n b [y,.mk 4 n2 b2 [p,r]]:=by
   unfold X3 at h
   split at h
   ·simp only[Bool.not_eq_false',Bool.and_eq_true,beq_iff_eq]at h
    obtain⟨rfl,rfl⟩:=h
    exact⟨_,_,_,_,_,_,_,rfl⟩
   ·cases h
  have hR:=IW n b y n2 b2 p r hw
  have e:Yu (.mk 4 n b [y,.mk 4 n2 b2 [p,r]])=(match Uz y p r (.mk 4 n b [y,.mk 4 n2 b2 [p,r]]) with
   | true=>(UH y,p.n,r.n,true)
   | false=>(Ye,0,0,false)):=rfl
  rw[e]
  unfold M6 at hR
  cases hb:Uz y p r (.mk 4 n b [y,.mk 4 n2 b2 [p,r]]) with
  | false=>rw[hb]at hR;exact hR
  | true=>rw[hb]at hR;exact hR
theorem Ug {x:EidV}(h:ZM x=true):(ZH (Z1 x)).length<=200:=by
 unfold Z1
 repeat' split
 ·exact Nat.le_trans (Uy 1 0) (by decide)
 ·have h0:=Yi 4 0 [] [.mk 0 2 [] [],IV x.n x.s]
  have h1:=Ys 2
  have h2:=Uy x.n x.s
  simp only[ZO,List.length_append,List.length_nil,Nat.add_zero,Nat.zero_add]at h0
  exact Nat.le_trans h0 (by omega)
 ·have h0:=Yi 4 0 [] [.mk 0 1 [] [],.mk 3 0 (YR x) []]
  have h1:=Ys 1
  have h2:=Yi 3 0 (YR x) []
  rename_i hz hi
  have h3:(YR x).length<=100:=by
   have ht:=YS h (by simpa using hz) (by simpa using hi)
   simp only[YR,List.length_append,List.length_cons,List.length_nil]
   omega
  simp only[ZO,List.length_append,List.length_nil,Nat.add_zero,Nat.zero_add]at h0 h2
  exact Nat.le_trans h0 (by omega)
theorem JR (a c:List It):ZO (a++c)=ZO a++ZO c:=by
 induction a with
 | nil=>rfl
 | cons y a ih=>rw[List.cons_append,ZO,ZO,ih,List.append_assoc]
theorem R8 {p:PriV}(h:Vm p=true)(s:Nat)(hs:s=1\/s=2):(ZH (Yw s (VX p))).length<=1000000000:=by
 obtain⟨h1,h2,h3,h4,h5,h6⟩:=Jk h
 obtain⟨i1,_,_⟩:=YT.1 h5
 have h0:=Yi 4 0 [] (VX p++[.mk 2 0 (List.replicate (2*s) 0) []])
 have hb:=Yi 2 0 (List.replicate (2*s) 0) []
 have n1:=Ys 7
 have n2:=Ys p.fl
 have n3:=Ys p.sum.toNat
 have n4:=Ug h3
 have n5:=Ug i1
 have n6:=Ug h4
 have n7:=Uy p.t p.q
 have n8:=Ys p.life
 have e7:IV p.t p.q=.mk 4 0 [] [.mk 0 p.t [] [],.mk 0 p.q [] []]:=rfl
 rw[e7]at n7
 rw[JR]at h0
 simp only[VX,ZO,List.length_append,List.length_nil,List.length_replicate,Nat.add_zero,Nat.zero_add]at h0 hb
 show(ZH (.mk 4 0 [] (VX p++[.mk 2 0 (List.replicate (2*s) 0) []]))).length<=1000000000
 exact Nat.le_trans h0 (by omega)
theorem GJ [Known][KnownU8](p:PriV)(hfl:p.fl<18446744073709551616):AP Tryz.prog 107 [.agg (prC p)] (Jj (WW p)) []:=by
 cases h:Vm p with
 | true=>exact To p hfl (R8 h)
 | false=>
  have hR:=KL p
  unfold WW
  rw[h]at hR ⊢
  obtain⟨fl,sum,⟨di,dn,ds,dh,dd⟩,⟨ri,rn,rs,rh,rd⟩,⟨xi,xn,xs,xh,xd⟩,t,q,life⟩:=p
  dsimp only[z0]at *
  refine AP.ofA (Zl Tryz.func107 Z Tryz.ntmps107 Z Z ?_)
  repeat'(first|(apply Zb (hR);kernel_rfl;(iterate 4 exact Z))|(apply Zi Za;exact Z)|(apply Zf Za;exact Z)|(apply Zp Za;exact Z)|refine Zd Z Qt ?_)
  all_goals exact Qe
theorem K1 {p:PriV}(hfl:p.fl<18446744073709551616):wfI (WW p).1:=by
 unfold WW
 cases h:Vm p with
 | false=>exact NT
 | true=>exact HG 2 (Lq h hfl) (by simp[VX])
def pr0:PriV:=⟨0,0,Ye,Ye,Ye,0,0,0⟩
def eZ (y:It):EidV:=match(ZS y).2 with|true=>(ZS y).1|false=>Ye
theorem U3 {x:EidV}{t q:Nat}(h:Yo x t q=true):Yu (Yl x t q)=(x,t,q,true):=by
 obtain⟨h1,_,_⟩:=YT.1 h
 have hr:=UY h1 (VV h1)
 have hz:UH (Z1 x)=x:=by show(match(ZS (Z1 x)).2 with|true=>(ZS (Z1 x)).1|false=>Ye)=x;rw[hr]
 unfold Yl Yu
 dsimp only
 have e:Uz (Z1 x) (.mk 0 t [] []) (.mk 0 q [] []) (.mk 4 0 [] [Z1 x,.mk 4 0 [] [.mk 0 t [] [],.mk 0 q [] []]])=true:=by
  unfold Uz
  rw[hz,hr]
  dsimp only[It.n]
  rw[h]
  exact NV _
 rw[e,hz]
 rfl
end Go.Proofs.YtmljabhmajehnaaGreatDoor
end
