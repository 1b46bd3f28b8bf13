/- CanonBack: plain laws. -/
import Derived.Test.YtmljabhmajehnaaGreatDoorR29
import Derived.Test.YtmljabhmajehnaaGreatDoorR24
import Derived.Test.YtmljabhmajehnaaGreatDoorR26
import Derived.Test.YtmljabhmajehnaaGreatDoorR13
set_option linter.unusedVariables false
set_option linter.unusedSimpArgs false
section
open Go.RowKit Go.Pl Go.Av
namespace Go.Proofs.YtmljabhmajehnaaGreatDoor
set_option maxHeartbeats 4000000
theorem L2 (x:It):It.beq x x=true:=It.beq_iff.2 rfl
theorem Hj (b:BlkV):JL b b=true:=by
 obtain⟨ty,num,fl,sum,data⟩:=b
 simp[JL]
theorem Yn (k:Int)(n:Nat)(b:List UInt8)(l:List It):(ZI (.mk k n b l)).length<=9+(b.length+(ZO l).length):=by
 rw[ZI,List.length_append,List.length_append]
 split
 ·rename_i h
  have h1:=Q6 h rfl
  have h2:ZG (It.mk k n b l).hn<=8:=by
   unfold ZG
   repeat' split
   all_goals omega
  dsimp only at h1
  omega
 ·simp
theorem Yp (n:Nat):(ZI (.mk 0 n [] [])).length<=9:=by
 have:=Yn 0 n [] []
 simpa[ZO]using this
theorem Ut (n m:Nat):(ZI (IU n m)).length<=27:=by
 have h0:=Yn 4 0 [] [.mk 0 n [] [],.mk 0 m [] []]
 have h1:=Yp n
 have h2:=Yp m
 simp only[ZO,List.length_append,List.length_nil,Nat.add_zero,Nat.zero_add]at h0
 have e:IU n m=.mk 4 0 [] [.mk 0 n [] [],.mk 0 m [] []]:=rfl
 rw[e]
 omega
theorem Tn {l:List It}{a:Int}{x:It}(h:VO l a=(x,0)):x=.mk 4 0 [] l\/∃ s,(s=1\/s=2)/\x=UK s l:=by
 unfold VO at h
 cases d0:(decide (a<0)||decide (a ≥ (l.length:Int))) with
 | true=>rw[d0]at h;simp at h
 | false=>
 rw[d0]at h
 cases d1:(l.all ZC&&decide (Wv l a ≥ 0)) with
 | false=>rw[d1]at h;simp at h
 | true=>
 rw[d1]at h
 dsimp only at h
 cases d2:decide (Wv l a>0) with
 | false=>
  rw[d2]at h
  dsimp only at h
  cases hr:ZC (.mk 4 0 [] l) with
  | false=>rw[hr]at h;simp at h
  | true=>
   rw[hr]at h
   simp only[Prod.mk.injEq,and_true]at h
   exact .inl h.symm
 | true=>
  rw[d2]at h
  dsimp only at h
  have hs:(Wv l a).toNat=1\/(Wv l a).toNat=2:=by
   rcases QN l a with e|⟨e,_⟩
   ·have:=of_decide_eq_true d2;omega
   ·have:=of_decide_eq_true d2;omega
  cases hz:ZC (ZV (Wv l a).toNat l) with
  | false=>rw[hz]at h;simp at h
  | true=>
   rw[hz]at h
   dsimp only at h
   cases hr:ZC (UK (Wv l a).toNat l) with
   | false=>rw[hr]at h;simp at h
   | true=>
    rw[hr]at h
    simp only[Prod.mk.injEq,and_true]at h
    exact .inr ⟨_,hs,h.symm⟩
theorem Ul {b:BlkV}{x:It}(h:YW b=(x,0)):Z2 b=true/\VO (YV b) 3=(x,0):=by
 unfold YW at h
 cases hr:Z2 b with
 | true=>rw[hr]at h;exact⟨rfl,h⟩
 | false=>rw[hr]at h;simp at h
abbrev Qw (y:It):EidV:=match(ZS y).2 with|true=>(ZS y).1|false=>Yi
def Qm (y p r x:It):Bool:=match(ZS y).2,Yv (Qw y) p.n r.n with
 | true,true=>It.beq (Yw (Qw y) p.n r.n) x
 | _,_=>false
abbrev Su (x:EidV)(t q:Nat)(b:Bool):D:=.tup [.agg (iC (match b with|true=>x|false=>Yi) (match b with|true=>t|false=>0) (match b with|true=>q|false=>0)),.int .i64 (match b with|true=>0|false=>3)]
def K5:It->Bool
 | .mk k _ _ [_,.mk k2 _ _ [_,_]]=>!(k==4&&k2==4)
 | _=>true
theorem To [Known][KnownU8](x:It)(h:K5 x=true):AP Tryz.prog 67 [itD x] (Su Yi 0 0 false) []:=by
 show AP Tryz.prog _ _ (.tup [.agg [.bool false,.int .u64 0,.int .u64 0,.str [],.str [],.int .u64 0,.int .u64 0],.int .i64 3]) []
 obtain⟨k,n,b,l⟩:=x
 by_cases hk:k=4
 ·have t1:(k != 4)=false:=by simpa using hk
  by_cases hl:l.length=2
  ·obtain⟨y,z,rfl⟩:∃ y z,l=[y,z]:=by
    match l,hl with
    | [y,z],_=>exact⟨y,z,rfl⟩
   have t2:(((Zv [y,z]).length:Int) != 2)=false:=rfl
   have hU:=YE [y,z]
   obtain⟨ky,ny,bY,ly⟩:=y
   obtain⟨kz,nz,bz,lz⟩:=z
   by_cases hk2:kz=4
   ·have t3:(kz != 4)=false:=by simpa using hk2
    have hl2:lz.length ≠ 2:=by
     intro e
     match lz,e with
     | [p,r],_=>simp[K5,hk,hk2]at h
    have t4:(((Zv lz).length:Int) != 2)=true:=by rw[Zw];simp;omega
    refine AP.ofA (Zl Tryz.func67 U Tryz.ntmps67 U U ?_)
    repeat'(first|(apply Zi Za;exact U)|(apply Zg Za;exact U)|(apply Zp Za;exact U)|refine Ze U U U Qt ?_|refine Zh U Qt U U ?_|refine Zd U Qt ?_|refine Zn Za U U U U ?_|(apply Zu Za;(iterate 6 exact U);(first|exact Qt|rotate_left);(first|with_reducible assumption|decide +kernel|exact U);(first|exact Zk rfl|with_reducible assumption|decide +kernel|rotate_left)))
    all_goals exact Qe
   ·have t3:(kz != 4)=true:=by simpa using hk2
    refine AP.ofA (Zl Tryz.func67 U Tryz.ntmps67 U U ?_)
    repeat'(first|(apply Zi Za;exact U)|(apply Zg Za;exact U)|(apply Zp Za;exact U)|refine Ze U U U Qt ?_|refine Zm U U U Qt ?_|refine Zj U Qt U U ?_|refine Zh U Qt U U ?_|refine Zd U Qt ?_|refine Zn Za U U U U ?_|(apply Zu Za;(iterate 6 exact U);(first|exact Qt|rotate_left);(first|with_reducible assumption|decide +kernel|exact U);(first|exact Zk rfl|with_reducible assumption|decide +kernel|rotate_left)))
    all_goals exact Qe
  ·have t2:(((Zv l).length:Int) != 2)=true:=by rw[Zw];simp;omega
   refine AP.ofA (Zl Tryz.func67 U Tryz.ntmps67 U U ?_)
   repeat'(first|(apply Zi Za;exact U)|(apply Zg Za;exact U)|(apply Zp Za;exact U)|refine Ze U U U Qt ?_|refine Zm U U U Qt ?_|refine Zj U Qt U U ?_|refine Zh U Qt U U ?_|refine Zd U Qt ?_|refine Zn Za U U U U ?_)
   all_goals exact Qe
 ·have t1:(k != 4)=true:=by simpa using hk
  refine AP.ofA (Zl Tryz.func67 U Tryz.ntmps67 U U ?_)
  repeat'(first|(apply Zi Za;exact U)|(apply Zg Za;exact U)|(apply Zp Za;exact U)|refine Zm U U U Qt ?_|refine Zj U Qt U U ?_|refine Zd U Qt ?_)
  all_goals exact Qe
theorem DC [Known](y z:It)(n:Nat)(b:List UInt8)(n2:Nat)(b2:List UInt8)(kp:Int)(np:Nat)(bp:List UInt8)(lp:List It)(kr:Int)(nr:Nat)(br:List UInt8)(lr:List It)(c:Int)
  (hE:AP Tryz.prog 112 [itD y] (.tup [.agg (eC Yi),.int .i64 3]) []) (hW:AP Tryz.prog 62 [.agg (iC Yi np nr)] (.tup [itD z,.int .i64 c]) []) :
  AP Tryz.prog 67 [itD (.mk 4 n b [y,.mk 4 n2 b2 [.mk kp np bp lp,.mk kr nr br lr]])] (.tup [.agg (iC Yi 0 0),.int .i64 3]) []:=by
 have hU:=YE [y,.mk 4 n2 b2 [.mk kp np bp lp,.mk kr nr br lr]]
 have hU2:=YE [.mk kp np bp lp,.mk kr nr br lr]
 have t2:(((Zv [y,.mk 4 n2 b2 [.mk kp np bp lp,.mk kr nr br lr]]).length:Int) != 2)=false:=rfl
 have t3:(((Zv [.mk kp np bp lp,.mk kr nr br lr]).length:Int) != 2)=false:=rfl
 obtain⟨yk,yn,yb,yl⟩:=y
 obtain⟨zk,zn,zb,zl⟩:=z
 replace hE:AP Tryz.prog _ [.agg [.int .i64 yk,.int .u64 (yn:Int),byE yb,.sl .ext (Zv yl)]] (.tup [.agg [.bool false,.int .u64 0,.int .u64 0,.str [],.str []],.int .i64 3]) []:=hE
 replace hW:AP Tryz.prog _ [.agg [.bool false,.int .u64 0,.int .u64 0,.str [],.str [],.int .u64 (np:Int),.int .u64 (nr:Int)]] (.tup [.agg [.int .i64 zk,.int .u64 (zn:Int),byE zb,.sl .ext (Zv zl)],.int .i64 c]) []:=hW
 refine AP.ofA (Zl Tryz.func67 U Tryz.ntmps67 U U ?_)
 repeat'(first|(apply Zb (hE);kernel_rfl;(iterate 4 exact U))|(apply Zb (hW);kernel_rfl;(iterate 4 exact U))|(apply Zi Za;exact U)|(apply Zg Za;exact U)|(apply Zp Za;exact U)|refine Ze U U U Qt ?_|refine Zm U U U Qt ?_|refine Zj U Qt U U ?_|refine Zh U Qt U U ?_|refine Zd U Qt ?_|refine Zf U Qt ?_|refine Zn Za U U U U ?_|(apply Zo 19 ZB;decide +kernel;kernel_rfl;kernel_rfl;kernel_rfl;exact U;exact U)|(apply Zs;(iterate 4 exact U))|exact AE.nil _ _ _ _|(apply Zx;exact U)|(apply Z1;exact U)|(apply Zz;exact U;exact U;decide +kernel;exact U)|(apply ZA;exact U)|(apply Ym;exact U)|exact AO.nil _ _ _|(apply Zr;(decide +kernel))|(apply ZU;(iterate 3 exact U))|exact AOs.nil|exact ZF rfl rfl|exact YK rfl rfl|(apply Zu Za;(iterate 6 exact U);(first|exact Qt|rotate_left);(first|with_reducible assumption|decide +kernel|exact U);(first|exact Zk rfl|with_reducible assumption|decide +kernel|rotate_left)))
 all_goals exact Qe
theorem DE [Known](x:EidV)(y z:It)(n:Nat)(b:List UInt8)(n2:Nat)(b2:List UInt8)(kp:Int)(np:Nat)(bp:List UInt8)(lp:List It)(kr:Int)(nr:Nat)(br:List UInt8)(lr:List It)
  (hE:AP Tryz.prog 112 [itD y] (.tup [.agg (eC x),.int .i64 0]) []) (hW:AP Tryz.prog 62 [.agg (iC x np nr)] (.tup [itD z,.int .i64 3]) []) :
  AP Tryz.prog 67 [itD (.mk 4 n b [y,.mk 4 n2 b2 [.mk kp np bp lp,.mk kr nr br lr]])] (.tup [.agg (iC Yi 0 0),.int .i64 3]) []:=by
 have hU:=YE [y,.mk 4 n2 b2 [.mk kp np bp lp,.mk kr nr br lr]]
 have hU2:=YE [.mk kp np bp lp,.mk kr nr br lr]
 have t2:(((Zv [y,.mk 4 n2 b2 [.mk kp np bp lp,.mk kr nr br lr]]).length:Int) != 2)=false:=rfl
 have t3:(((Zv [.mk kp np bp lp,.mk kr nr br lr]).length:Int) != 2)=false:=rfl
 obtain⟨yk,yn,yb,yl⟩:=y
 obtain⟨zk,zn,zb,zl⟩:=z
 obtain⟨xi,xn,xs,xh,xd⟩:=x
 replace hE:AP Tryz.prog _ [.agg [.int .i64 yk,.int .u64 (yn:Int),byE yb,.sl .ext (Zv yl)]] (.tup [.agg [.bool xi,.int .u64 (xn:Int),.int .u64 (xs:Int),.str xh,.str xd],.int .i64 0]) []:=hE
 replace hW:AP Tryz.prog _ [.agg [.bool xi,.int .u64 (xn:Int),.int .u64 (xs:Int),.str xh,.str xd,.int .u64 (np:Int),.int .u64 (nr:Int)]] (.tup [.agg [.int .i64 zk,.int .u64 (zn:Int),byE zb,.sl .ext (Zv zl)],.int .i64 3]) []:=hW
 refine AP.ofA (Zl Tryz.func67 U Tryz.ntmps67 U U ?_)
 repeat'(first|(apply Zb (hE);kernel_rfl;(iterate 4 exact U))|(apply Zb (hW);kernel_rfl;(iterate 4 exact U))|(apply Zi Za;exact U)|(apply Zg Za;exact U)|(apply Zp Za;exact U)|refine Ze U U U Qt ?_|refine Zm U U U Qt ?_|refine Zj U Qt U U ?_|refine Zh U Qt U U ?_|refine Zd U Qt ?_|refine Zf U Qt ?_|refine Zn Za U U U U ?_|(apply Zo 19 ZB;decide +kernel;kernel_rfl;kernel_rfl;kernel_rfl;exact U;exact U)|(apply Zs;(iterate 4 exact U))|exact AE.nil _ _ _ _|(apply Zx;exact U)|(apply Z1;exact U)|(apply Zz;exact U;exact U;decide +kernel;exact U)|(apply ZA;exact U)|(apply Ym;exact U)|exact AO.nil _ _ _|(apply Zr;(decide +kernel))|(apply ZU;(iterate 3 exact U))|exact AOs.nil|exact ZF rfl rfl|exact YK rfl rfl|(apply Zu Za;(iterate 6 exact U);(first|exact Qt|rotate_left);(first|with_reducible assumption|decide +kernel|exact U);(first|exact Zk rfl|with_reducible assumption|decide +kernel|rotate_left)))
 all_goals exact Qe
theorem DF [Known](x:EidV)(y z:It)(n:Nat)(b:List UInt8)(n2:Nat)(b2:List UInt8)(kp:Int)(np:Nat)(bp:List UInt8)(lp:List It)(kr:Int)(nr:Nat)(br:List UInt8)(lr:List It)(R:Bool)
  (hE:AP Tryz.prog 112 [itD y] (.tup [.agg (eC x),.int .i64 0]) []) (hW:AP Tryz.prog 62 [.agg (iC x np nr)] (.tup [itD z,.int .i64 0]) [])
  (hS:AP Tryz.prog 96 [itD z,itD (.mk 4 n b [y,.mk 4 n2 b2 [.mk kp np bp lp,.mk kr nr br lr]])] (.bool R) []) :
  AP Tryz.prog 67 [itD (.mk 4 n b [y,.mk 4 n2 b2 [.mk kp np bp lp,.mk kr nr br lr]])] (Su x np nr R) []:=by
 have hU:=YE [y,.mk 4 n2 b2 [.mk kp np bp lp,.mk kr nr br lr]]
 have hU2:=YE [.mk kp np bp lp,.mk kr nr br lr]
 have t2:(((Zv [y,.mk 4 n2 b2 [.mk kp np bp lp,.mk kr nr br lr]]).length:Int) != 2)=false:=rfl
 have t3:(((Zv [.mk kp np bp lp,.mk kr nr br lr]).length:Int) != 2)=false:=rfl
 obtain⟨yk,yn,yb,yl⟩:=y
 obtain⟨zk,zn,zb,zl⟩:=z
 obtain⟨xi,xn,xs,xh,xd⟩:=x
 replace hE:AP Tryz.prog _ [.agg [.int .i64 yk,.int .u64 (yn:Int),byE yb,.sl .ext (Zv yl)]] (.tup [.agg [.bool xi,.int .u64 (xn:Int),.int .u64 (xs:Int),.str xh,.str xd],.int .i64 0]) []:=hE
 replace hW:AP Tryz.prog _ [.agg [.bool xi,.int .u64 (xn:Int),.int .u64 (xs:Int),.str xh,.str xd,.int .u64 (np:Int),.int .u64 (nr:Int)]] (.tup [.agg [.int .i64 zk,.int .u64 (zn:Int),byE zb,.sl .ext (Zv zl)],.int .i64 0]) []:=hW
 replace hS:AP Tryz.prog _ [.agg [.int .i64 zk,.int .u64 (zn:Int),byE zb,.sl .ext (Zv zl)],itD (.mk 4 n b [.mk yk yn yb yl,.mk 4 n2 b2 [.mk kp np bp lp,.mk kr nr br lr]])] (.bool R) []:=hS
 cases R with
 | true=>
  show AP Tryz.prog _ _ (.tup [.agg [.bool xi,.int .u64 (xn:Int),.int .u64 (xs:Int),.str xh,.str xd,.int .u64 (np:Int),.int .u64 (nr:Int)],.int .i64 0]) []
  refine AP.ofA (Zl Tryz.func67 U Tryz.ntmps67 U U ?_)
  repeat'(first|(apply Zb (hE);kernel_rfl;(iterate 4 exact U))|(apply Zb (hW);kernel_rfl;(iterate 4 exact U))|(apply Zb (hS);kernel_rfl;(iterate 4 exact U))|(apply Zi Za;exact U)|(apply Zg Za;exact U)|(apply Zp Za;exact U)|refine Ze U U U Qt ?_|refine Zh U Qt U U ?_|refine Zf U Qt ?_|refine Zn Za U U U U ?_|(apply Zo 19 ZB;decide +kernel;kernel_rfl;kernel_rfl;kernel_rfl;exact U;exact U)|(apply Zs;(iterate 4 exact U))|exact AE.nil _ _ _ _|(apply Zx;exact U)|(apply Z1;exact U)|(apply Zz;exact U;exact U;decide +kernel;exact U)|(apply ZA;exact U)|(apply Ym;exact U)|exact AO.nil _ _ _|(apply Zr;(decide +kernel))|(apply ZU;(iterate 3 exact U))|exact AOs.nil|exact ZF rfl rfl|exact YK rfl rfl|(apply Zu Za;(iterate 6 exact U);(first|exact Qt|rotate_left);(first|with_reducible assumption|decide +kernel|exact U);(first|exact Zk rfl|with_reducible assumption|decide +kernel|rotate_left)))
  all_goals exact Qe
 | false=>
  show AP Tryz.prog _ _ (.tup [.agg [.bool false,.int .u64 0,.int .u64 0,.str [],.str [],.int .u64 0,.int .u64 0],.int .i64 3]) []
  refine AP.ofA (Zl Tryz.func67 U Tryz.ntmps67 U U ?_)
  repeat'(first|(apply Zb (hE);kernel_rfl;(iterate 4 exact U))|(apply Zb (hW);kernel_rfl;(iterate 4 exact U))|(apply Zb (hS);kernel_rfl;(iterate 4 exact U))|(apply Zi Za;exact U)|(apply Zg Za;exact U)|(apply Zp Za;exact U)|refine Ze U U U Qt ?_|refine Zh U Qt U U ?_|refine Zd U Qt ?_|refine Zf U Qt ?_|refine Zn Za U U U U ?_|(apply Zo 19 ZB;decide +kernel;kernel_rfl;kernel_rfl;kernel_rfl;exact U;exact U)|(apply Zs;(iterate 4 exact U))|exact AE.nil _ _ _ _|(apply Zx;exact U)|(apply Z1;exact U)|(apply Zz;exact U;exact U;decide +kernel;exact U)|(apply ZA;exact U)|(apply Ym;exact U)|exact AO.nil _ _ _|(apply Zr;(decide +kernel))|(apply ZU;(iterate 3 exact U))|exact AOs.nil|exact ZF rfl rfl|exact YK rfl rfl|(apply Zu Za;(iterate 6 exact U);(first|exact Qt|rotate_left);(first|with_reducible assumption|decide +kernel|exact U);(first|exact Zk rfl|with_reducible assumption|decide +kernel|rotate_left)))
  all_goals exact Qe
theorem Hk [Known][KnownU8](n:Nat)(b:List UInt8)(y:It)(n2:Nat)(b2:List UInt8)(p r:It)(hw:wfI (.mk 4 n b [y,.mk 4 n2 b2 [p,r]])) :
  AP Tryz.prog 67 [itD (.mk 4 n b [y,.mk 4 n2 b2 [p,r]])] (Su (Qw y) p.n r.n (Qm y p r (.mk 4 n b [y,.mk 4 n2 b2 [p,r]]))) []:=by
 have hwy:wfI y:=hw.2.2.2.1
 have hE:=GZ y hwy
 have hW:=XD (Qw y) p.n r.n
 unfold Qm
 cases hv:(ZS y).2 with
 | false=>
  have e0:Qw y=Yi:=by unfold Qw;rw[hv]
  unfold Tf at hE
  rw[hv]at hE
  rw[e0]at hW
  obtain⟨kp,np,bp,lp⟩:=p
  obtain⟨kr,nr,br,lr⟩:=r
  exact DC y _ n b n2 b2 kp np bp lp kr nr br lr _ hE hW
 | true=>
  have e0:Qw y=(ZS y).1:=by unfold Qw;rw[hv]
  unfold Tf at hE
  rw[hv]at hE
  rw[<- e0]at hE
  cases hr:Yv (Qw y) p.n r.n with
  | false=>
   rw[hr]at hW
   obtain⟨kp,np,bp,lp⟩:=p
   obtain⟨kr,nr,br,lr⟩:=r
   exact DE _ y _ n b n2 b2 kp np bp lp kr nr br lr hE hW
  | true=>
   rw[hr,if_pos rfl,if_pos rfl]at hW
   have hS:=J7 _ (KW hr) _ hw
   obtain⟨kp,np,bp,lp⟩:=p
   obtain⟨kr,nr,br,lr⟩:=r
   exact DF _ y _ n b n2 b2 kp np bp lp kr nr br lr _ hE hW hS
def YF (z:It):EidV × Nat × Nat × Bool:=match z with
 | .mk k n b [y,.mk k2 n2 b2 [p,r]]=>(match k==4&&k2==4 with
  | false=>(Yi,0,0,false)
  | true=>match Qm y p r (.mk k n b [y,.mk k2 n2 b2 [p,r]]) with
   | true=>(Qw y,p.n,r.n,true)
   | false=>(Yi,0,0,false))
 | _=>(Yi,0,0,false)
theorem L3 [Known][KnownU8](z:It)(hw:wfI z):AP Tryz.prog 67 [itD z] (.tup [.agg (iC (YF z).1 (YF z).2.1 (YF z).2.2.1),.int .i64 (match(YF z).2.2.2 with|true=>0|false=>3)]) []:=by
 cases h:K5 z with
 | true=>
  have e:YF z=(Yi,0,0,false):=by
   unfold K5 at h
   unfold YF
   split at h
   ·rw[Bool.not_eq_true']at h
    first|(rw[h];done)|(dsimp only;rw[h])
   ·rename_i hno
    first|rfl|(split<;>first|exact absurd rfl (hno _ _ _ _ _ _ _ _ _)|rfl)
  rw[e]
  exact To z h
 | false=>
  obtain⟨n,b,y,n2,b2,p,r,rfl⟩:∃ n b y n2 b2 p r,z=.mk 4 n b [y,.mk 4 n2 b2 [p,r]]:=by
   unfold K5 at h
   split at h
   ·simp only[Bool.not_eq_false',Bool.and_eq_true,beq_iff_eq]at h
    obtain⟨rfl,rfl⟩:=h
    exact⟨_,_,_,_,_,_,_,rfl⟩
   ·cases h
  have hR:=Hk n b y n2 b2 p r hw
  have e:YF (.mk 4 n b [y,.mk 4 n2 b2 [p,r]])=(match Qm y p r (.mk 4 n b [y,.mk 4 n2 b2 [p,r]]) with
   | true=>(Qw y,p.n,r.n,true)
   | false=>(Yi,0,0,false)):=rfl
  rw[e]
  unfold Su at hR
  cases hb:Qm y p r (.mk 4 n b [y,.mk 4 n2 b2 [p,r]]) with
  | false=>rw[hb]at hR;exact hR
  | true=>rw[hb]at hR;exact hR
theorem Vp {x:EidV}(h:ZQ x=true):(ZI (ZY x)).length<=200:=by
 unfold ZY
 repeat' split
 ·exact Nat.le_trans (Ut 1 0) (by decide)
 ·have h0:=Yn 4 0 [] [.mk 0 2 [] [],IU x.n x.s]
  have h1:=Yp 2
  have h2:=Ut x.n x.s
  simp only[ZO,List.length_append,List.length_nil,Nat.add_zero,Nat.zero_add]at h0
  exact Nat.le_trans h0 (by omega)
 ·have h0:=Yn 4 0 [] [.mk 0 1 [] [],.mk 3 0 (We x) []]
  have h1:=Yp 1
  have h2:=Yn 3 0 (We x) []
  rename_i hz hi
  have h3:(We x).length<=100:=by
   have ht:=Wf h (by simpa using hz) (by simpa using hi)
   simp only[We,List.length_append,List.length_cons,List.length_nil]
   omega
  simp only[ZO,List.length_append,List.length_nil,Nat.add_zero,Nat.zero_add]at h0 h2
  exact Nat.le_trans h0 (by omega)
theorem UV (a c:List It):ZO (a++c)=ZO a++ZO c:=by
 induction a with
 | nil=>rfl
 | cons y a ih=>rw[List.cons_append,ZO,ZO,ih,List.append_assoc]
theorem DG {p:PriV}(h:YA p=true)(s:Nat)(hs:s=1\/s=2):(ZI (ZV s (YO p))).length<=1000000000:=by
 obtain⟨h1,h2,h3,h4,h5,h6⟩:=VR h
 obtain⟨i1,_,_⟩:=YG.1 h5
 have h0:=Yn 4 0 [] (YO p++[.mk 2 0 (List.replicate (2*s) 0) []])
 have hb:=Yn 2 0 (List.replicate (2*s) 0) []
 have n1:=Yp 7
 have n2:=Yp p.fl
 have n3:=Yp p.sum.toNat
 have n4:=Vp h3
 have n5:=Vp i1
 have n6:=Vp h4
 have n7:=Ut p.t p.q
 have n8:=Yp p.life
 have e7:IU p.t p.q=.mk 4 0 [] [.mk 0 p.t [] [],.mk 0 p.q [] []]:=rfl
 rw[e7]at n7
 rw[UV]at h0
 simp only[YO,ZO,List.length_append,List.length_nil,List.length_replicate,Nat.add_zero,Nat.zero_add]at h0 hb
 show(ZI (.mk 4 0 [] (YO p++[.mk 2 0 (List.replicate (2*s) 0) []]))).length<=1000000000
 exact Nat.le_trans h0 (by omega)
theorem Tp [Known][KnownU8](p:PriV)(hfl:p.fl<18446744073709551616):AP Tryz.prog 107 [.agg (prC p)] (J9 (WJ p)) []:=by
 cases h:YA p with
 | true=>exact N8 p hfl (DG h)
 | false=>
  have hR:=OW p
  unfold WJ
  rw[h]at hR ⊢
  obtain⟨fl,sum,⟨di,dn,ds,dh,dd⟩,⟨ri,rn,rs,rh,rd⟩,⟨xi,xn,xs,xh,xd⟩,t,q,life⟩:=p
  dsimp only[z0]at *
  refine AP.ofA (Zl Tryz.func107 U Tryz.ntmps107 U U ?_)
  repeat'(first|(apply Zb (hR);kernel_rfl;(iterate 4 exact U))|(apply Zi Za;exact U)|(apply Zg Za;exact U)|(apply Zp Za;exact U)|refine Zd U Qt ?_)
  all_goals exact Qe
theorem XI {p:PriV}(hfl:p.fl<18446744073709551616):wfI (WJ p).1:=by
 unfold WJ
 cases h:YA p with
 | false=>exact L1
 | true=>exact Nu 2 (LU h hfl) (by simp[YO])
def pr0:PriV:=⟨0,0,Yi,Yi,Yi,0,0,0⟩
def eZ (y:It):EidV:=match(ZS y).2 with|true=>(ZS y).1|false=>Yi
theorem QS {x:EidV}{t q:Nat}(h:Yv x t q=true):YF (Yw x t q)=(x,t,q,true):=by
 obtain⟨h1,_,_⟩:=YG.1 h
 have hr:=QP h1 (VQ h1)
 have hz:Qw (ZY x)=x:=by show(match(ZS (ZY x)).2 with|true=>(ZS (ZY x)).1|false=>Yi)=x;rw[hr]
 unfold Yw YF
 dsimp only
 have e:Qm (ZY x) (.mk 0 t [] []) (.mk 0 q [] []) (.mk 4 0 [] [ZY x,.mk 4 0 [] [.mk 0 t [] [],.mk 0 q [] []]])=true:=by
  unfold Qm
  rw[hz,hr]
  dsimp only[It.n]
  rw[h]
  exact L2 _
 rw[e,hz]
 rfl
end Go.Proofs.YtmljabhmajehnaaGreatDoor
end
