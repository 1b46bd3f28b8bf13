/- Package eid: a name's item. -/
import Derived.Test.YtchlgagdbflkmaaGreatDoorK15
import Derived.Test.YtchlgagdbflkmaaGreatDoorK28
import Derived.Test.YtchlgagdbflkmaaGreatDoorK27
import Derived.Test.YtchlgagdbflkmaaGreatDoorK25
import Derived.Test.YtchlgagdbflkmaaGreatDoorK12
import Derived.Test.YtchlgagdbflkmaaGreatDoorK24
import Derived.Test.YtchlgagdbflkmaaGreatDoorK13
set_option linter.unusedVariables false
set_option linter.unusedSimpArgs false
section
open Go.RowKit Go.Pl Go.Av
namespace Go.Proofs.YtchlgagdbflkmaaGreatDoor
set_option maxHeartbeats 4000000
def V0 (x:EidV):It:=
 if isZ x then .mk 4 0 [] [.mk 0 1 [] [],.mk 0 0 [] []]
 else if x.i then .mk 4 0 [] [.mk 0 2 [] [],.mk 4 0 [] [.mk 0 x.n [] [],.mk 0 x.s [] []]]
 else .mk 4 0 [] [.mk 0 1 [] [],.mk 3 0 (Qp x) []]
theorem J3 [Known](x:EidV):AP Tryz.prog 216 [.agg (eC x)] (.tup [itD (if Ys x then V0 x else .mk 0 0 [] []),.int .i64 (if Ys x then 0 else 3)]) []:=by
 have hR:=Vi x
 cases hr:Ys x with
 | false=>
  rw[hr]at hR
  refine AP.ofA (Zl Tryz.func216 Z Tryz.ntmps216 Z Z ?_)
  repeat'(first|(apply Zb (hR);kernel_rfl;(iterate 4 exact Z))|(apply Zg Za;exact Z)|(apply Zh Za;exact Z)|(apply Zs Za;exact Z)|refine Ze Z Qt ?_)
  all_goals exact Qe
 | true=>
  rw[hr]at hR
  rw[if_pos rfl,if_pos rfl]
  unfold V0
  cases hz:isZ x with
  | true=>
   rw[if_pos rfl]
   have n1:=YY 1
   have n0:=YY 0
   have hL:=W4 [.mk 0 1 [] [],.mk 0 0 [] []] (by decide) (by simp[wfI,wfs])
   replace n1:AP Tryz.prog _ [.int .u64 1] (.agg [.int .i64 0,.int .u64 1,.sl .ext [],.sl .ext []]) []:=n1
   replace n0:AP Tryz.prog _ [.int .u64 0] (.agg [.int .i64 0,.int .u64 0,.sl .ext [],.sl .ext []]) []:=n0
   unfold isZ at hz
   refine AP.ofA (Zl Tryz.func216 Z Tryz.ntmps216 Z Z ?_)
   repeat'(first|(apply Zb (hR);kernel_rfl;(iterate 4 exact Z))|(apply Zb (n1);kernel_rfl;(iterate 4 exact Z))|(apply Zb (n0);kernel_rfl;(iterate 4 exact Z))|(apply Zb (hL);kernel_rfl;(iterate 4 exact Z))|(apply Zg Za;exact Z)|(apply Zh Za;exact Z)|(apply Zs Za;exact Z)|refine Ze Z Qt ?_|refine Zf Z Qt ?_|refine ZO Za Z Z Z Z Z Z Z Z Z Z Z Z ?_|refine UG Za Z Z Z Z Qk Qk Z Z Z ?_)
   all_goals exact Qe
  | false=>
   rw[if_neg (by simp)]
   cases hi:x.i with
   | true=>
    obtain⟨b1,b2,_⟩:=Ku hr hz hi
    rw[if_pos rfl]
    have n2:=YY 2
    have nn:=YY x.n
    have ns:=YY x.s
    have hL1:=W4 [.mk 0 x.n [] [],.mk 0 x.s [] []] (by simp) (by simp[wfI,wfs];omega)
    have hL:=W4 [.mk 0 2 [] [],.mk 4 0 [] [.mk 0 x.n [] [],.mk 0 x.s [] []]] (by simp) (by simp[wfI,wfs];omega)
    replace n2:AP Tryz.prog _ [.int .u64 2] (.agg [.int .i64 0,.int .u64 2,.sl .ext [],.sl .ext []]) []:=n2
    replace nn:AP Tryz.prog _ [.int .u64 (x.n:Int)] (.agg [.int .i64 0,.int .u64 (x.n:Int),.sl .ext [],.sl .ext []]) []:=nn
    replace ns:AP Tryz.prog _ [.int .u64 (x.s:Int)] (.agg [.int .i64 0,.int .u64 (x.s:Int),.sl .ext [],.sl .ext []]) []:=ns
    replace hL1:AP Tryz.prog _ _ (.agg [.int .i64 4,.int .u64 0,.sl .ext [],.sl .ext [.agg [.int .i64 0,.int .u64 (x.n:Int),.sl [],.sl []],.agg [.int .i64 0,.int .u64 (x.s:Int),.sl [],.sl []]]]) []:=hL1
    unfold isZ at hz
    refine AP.ofA (Zl Tryz.func216 Z Tryz.ntmps216 Z Z ?_)
    repeat'(first|(apply Zb (hR);kernel_rfl;(iterate 4 exact Z))|(apply Zb (n2);kernel_rfl;(iterate 4 exact Z))|(apply Zb (nn);kernel_rfl;(iterate 4 exact Z))|(apply Zb (ns);kernel_rfl;(iterate 4 exact Z))|(apply Zb (hL1);kernel_rfl;(iterate 4 exact Z))|(apply Zb (hL);kernel_rfl;(iterate 4 exact Z))|(apply Zg Za;exact Z)|(apply Zh Za;exact Z)|(apply Zs Za;exact Z)|refine Ze Z Qt ?_|refine Zf Z Qt ?_|refine ZO Za Z Z Z Z Z Z Z Z Z Z Z Z ?_|refine UG Za Z Z Z Z Qk Qk Z Z Z ?_|(apply Zm 6 ZG;decide +kernel;kernel_rfl;kernel_rfl;kernel_rfl;exact Z;exact Z)|(apply Zq;(iterate 4 exact Z))|exact AE.nil _ _ _ _|(apply Zv;exact Z)|(apply ZA;exact Z;exact Z;decide +kernel;exact Z)|(apply ZB;exact Z)|exact AO.nil _ _ _|(apply Zp;(decide +kernel))|exact AOs.nil|exact ZJ rfl rfl)
    all_goals exact Qe
   | false=>
    obtain⟨_,_,_,b1,b2,_⟩:=Q8 hr hz hi
    rw[if_neg (by simp)]
    have n1:=YY 1
    have hP:=LS x b1 b2
    have hT:=Lp (Qp x)
    have hpl:(Qp x).length<=1099511627776:=by unfold Qp;simp;omega
    generalize Qp x=p at *
    have hL:=W4 [.mk 0 1 [] [],.mk 3 0 p []] (by simp) (by simp[wfI,wfs];omega)
    replace n1:AP Tryz.prog _ [.int .u64 1] (.agg [.int .i64 0,.int .u64 1,.sl .ext [],.sl .ext []]) []:=n1
    replace hT:AP Tryz.prog _ [.str p] (.agg [.int .i64 3,.int .u64 0,byE p,.sl .ext []]) []:=hT
    unfold isZ at hz
    refine AP.ofA (Zl Tryz.func216 Z Tryz.ntmps216 Z Z ?_)
    repeat'(first|(apply Zb (hR);kernel_rfl;(iterate 4 exact Z))|(apply Zb (n1);kernel_rfl;(iterate 4 exact Z))|(apply Zb (hP);kernel_rfl;(iterate 4 exact Z))|(apply Zb (hT);kernel_rfl;(iterate 4 exact Z))|(apply Zb (hL);kernel_rfl;(iterate 4 exact Z))|(apply Zg Za;exact Z)|(apply Zh Za;exact Z)|(apply Zs Za;exact Z)|refine Zf Z Qt ?_|refine ZO Za Z Z Z Z Z Z Z Z Z Z Z Z ?_|refine UG Za Z Z Z Z Qk Qk Z Z Z ?_|(apply Zm 2 ZG;decide +kernel;kernel_rfl;kernel_rfl;kernel_rfl;exact Z;exact Z)|(apply Zq;(iterate 4 exact Z))|exact AE.nil _ _ _ _|(apply Zv;exact Z)|(apply ZA;exact Z;exact Z;decide +kernel;exact Z)|(apply ZB;exact Z)|exact AO.nil _ _ _|(apply Zp;(decide +kernel))|exact AOs.nil|exact ZJ rfl rfl)
    all_goals exact Qe
theorem Qq {x:EidV}(h:Ys x=true):wfI (V0 x):=by
 unfold V0
 cases hz:isZ x with
 | true=>rw[if_pos rfl];simp[wfI,wfs]
 | false=>
  rw[if_neg (by simp)]
  cases hi:x.i with
  | true=>
   obtain⟨b1,b2,b3,b4,b5⟩:=Ku h hz hi
   rw[if_pos rfl]
   simp[wfI,wfs]
   omega
  | false=>
   obtain⟨b1,b2,b3,b4,b5,b6,b7⟩:=Q8 h hz hi
   rw[if_neg (by simp)]
   simp[wfI,wfs,Qp]
   omega
theorem YO (k:Int)(n:Nat)(b:List UInt8)(l:List It):(ZU (.mk k n b l)).length<=9+(b.length+(ZQ l).length):=by
 rw[ZU,List.length_append,List.length_append]
 split
 ·rename_i h
  have h1:=QH h rfl
  have h2:ZF (It.mk k n b l).hn<=8:=by
   unfold ZF
   repeat' split
   all_goals omega
  dsimp only at h1
  omega
 ·simp
theorem Y0 (n:Nat):(ZU (.mk 0 n [] [])).length<=9:=by
 have:=YO 0 n [] []
 simpa[ZQ]using this
theorem XD (n m:Nat):(ZU (Mp n m)).length<=27:=by
 have h0:=YO 4 0 [] [.mk 0 n [] [],.mk 0 m [] []]
 have h1:=Y0 n
 have h2:=Y0 m
 simp only[ZQ,List.length_append,List.length_nil,Nat.add_zero,Nat.zero_add]at h0
 have e:Mp n m=.mk 4 0 [] [.mk 0 n [] [],.mk 0 m [] []]:=rfl
 rw[e]
 omega
theorem He {l:List It}{a:Int}{x:It}(h:VX l a=(x,0)):x=.mk 4 0 [] l\/∃ s,(s=1\/s=2)/\x=Ia s l:=by
 unfold VX at h
 cases d0:(decide (a<0)||decide (a ≥ (l.length:Int))) with
 | true=>rw[d0]at h;simp at h
 | false=>
 rw[d0]at h
 cases d1:(l.all ZS&&decide (YV l a ≥ 0)) with
 | false=>rw[d1]at h;simp at h
 | true=>
 rw[d1]at h
 dsimp only at h
 cases d2:decide (YV l a>0) with
 | false=>
  rw[d2]at h
  dsimp only at h
  cases hr:ZS (.mk 4 0 [] l) with
  | false=>rw[hr]at h;simp at h
  | true=>
   rw[hr]at h
   simp only[Prod.mk.injEq,and_true]at h
   exact .inl h.symm
 | true=>
  rw[d2]at h
  dsimp only at h
  have hs:(YV l a).toNat=1\/(YV l a).toNat=2:=by
   rcases Ql l a with e|⟨e,_⟩
   ·have:=of_decide_eq_true d2;omega
   ·have:=of_decide_eq_true d2;omega
  cases hz:ZS (Yh (YV l a).toNat l) with
  | false=>rw[hz]at h;simp at h
  | true=>
   rw[hz]at h
   dsimp only at h
   cases hr:ZS (Ia (YV l a).toNat l) with
   | false=>rw[hr]at h;simp at h
   | true=>
    rw[hr]at h
    simp only[Prod.mk.injEq,and_true]at h
    exact .inr ⟨_,hs,h.symm⟩
theorem Qr {b:BlkV}{x:It}(h:YL b=(x,0)):YW b=true/\VX (Uf b) 3=(x,0):=by
 unfold YL at h
 cases hr:YW b with
 | true=>rw[hr]at h;exact⟨rfl,h⟩
 | false=>rw[hr]at h;simp at h
theorem Ms {x:It}(h:wfI x):x.n<18446744073709551616:=by obtain⟨k,n,b,l⟩:=x;exact h.1
abbrev iC (x:EidV)(t q:Nat):List D:=[.bool x.i,.int .u64 (x.n:Int),.int .u64 (x.s:Int),.str x.h,.str x.d,.int .u64 (t:Int),.int .u64 (q:Int)]
def W9 (x:EidV)(t q:Nat):Bool:=Ys x&&decide ((t:Int)<=1099511627776)&&decide ((q:Int)<=1099511627776)
theorem OD [Known](x:EidV)(t q:Nat):AP Tryz.prog 248 [.agg (iC x t q)] (.bool (W9 x t q)) []:=by
 refine AP.ofA (Zl Tryz.func248 Z Tryz.ntmps248 Z Z ?_)
 repeat'(first|(apply Zb (Vi x);kernel_rfl;(iterate 4 exact Z))|(apply Zg Za;exact Z)|(apply Zh Za;exact Z)|(apply Zd;(iterate 3 exact Z);(first|with_reducible assumption|(solve|simp only[bn])))|(apply Zr;(iterate 3 exact Z);(first|with_reducible assumption|(solve|simp only[bn])))|(apply Ym;exact Z;exact Z;all_goals intro hb)|(apply Zj;exact Z;(first|with_reducible assumption|(solve|simp only[bn]));exact Z;exact Z)|(apply Zi;exact Z;(first|with_reducible assumption|(solve|simp only[bn]));exact Z;exact Z))
 all_goals(apply Zt [];(apply Zc Za;exact Z);(iterate 4 exact Z))
 all_goals first|rfl|(unfold W9;simp only[*];done)|(unfold W9;simp only[*];simp only[Bool.and_true,Bool.true_and,Bool.and_false,Bool.false_and];done)
structure PriV where
 fl:Nat
 sum:Int
 dest:EidV
 rep:EidV
 src:EidV
 t:Nat
 q:Nat
 life:Nat
abbrev prC (p:PriV):List D:=[.int .u64 (p.fl:Int),.int .i64 p.sum,.bool p.dest.i,.int .u64 (p.dest.n:Int),.int .u64 (p.dest.s:Int),.str p.dest.h,.str p.dest.d,.bool p.rep.i,.int .u64 (p.rep.n:Int),.int .u64 (p.rep.s:Int),.str p.rep.h,.str p.rep.d,.bool p.src.i,.int .u64 (p.src.n:Int),.int .u64 (p.src.s:Int),.str p.src.h,.str p.src.d,.int .u64 (p.t:Int),.int .u64 (p.q:Int),.int .u64 (p.life:Int)]
def Vx (p:PriV):Bool:=(bits .andNot .u64 (p.fl:Int) 409638==0)&&(decide (p.sum ≥ 0)&&(decide (p.sum<=2)&&(Ys p.dest&&(Ys p.rep&&(W9 p.src p.t p.q&&decide ((p.life:Int)<=1099511627776))))))
theorem OE [Known](p:PriV):AP Tryz.prog 215 [.agg (prC p)] (.bool (Vx p)) []:=by
 have hD:=Vi p.dest
 have hR:=Vi p.rep
 have hI:=OD p.src p.t p.q
 unfold Vx
 generalize Ys p.dest=e1 at *
 generalize Ys p.rep=e2 at *
 generalize W9 p.src p.t p.q=e3 at *
 obtain⟨fl,sum,⟨di,dn,ds,dh,dd⟩,⟨ri,rn,rs,rh,rd⟩,⟨xi,xn,xs,xh,xd⟩,t,q,life⟩:=p
 dsimp only at *
 cases t1:(bits .andNot .u64 (fl:Int) 409638==0) with
 | false=>
  refine AP.ofA (Zl Tryz.func215 Z Tryz.ntmps215 Z Z ?_)
  repeat'(first|(apply Zg Za;exact Z)|(apply Zh Za;exact Z)|refine Zr Z Z Z Qt ?_|refine Zi Z Qt Z Z ?_)
  all_goals exact Qe
 | true=>
 cases t2:decide (sum ≥ 0) with
 | false=>
  refine AP.ofA (Zl Tryz.func215 Z Tryz.ntmps215 Z Z ?_)
  repeat'(first|(apply Zg Za;exact Z)|(apply Zh Za;exact Z)|refine Zd Z Z Z Qt ?_|refine Zr Z Z Z Qt ?_|refine Zj Z Qt Z Z ?_|refine Zi Z Qt Z Z ?_)
  all_goals exact Qe
 | true=>
 cases t3:decide (sum<=2) with
 | false=>
  refine AP.ofA (Zl Tryz.func215 Z Tryz.ntmps215 Z Z ?_)
  repeat'(first|(apply Zg Za;exact Z)|(apply Zh Za;exact Z)|refine Zd Z Z Z Qt ?_|refine Zr Z Z Z Qt ?_|refine Zj Z Qt Z Z ?_|refine Zi Z Qt Z Z ?_)
  all_goals exact Qe
 | true=>
 cases e1
 ·refine AP.ofA ?_
  refine Zl Tryz.func215 rfl Tryz.ntmps215 rfl rfl ?_
  repeat'(first|(apply Zb (hD);kernel_rfl;(iterate 4 exact Z))|(apply Zg Za;exact Z)|(apply Zh Za;exact Z)|refine Zd Z Z Z Qt ?_|refine Zr Z Z Z Qt ?_|refine Zj Z Qt Z Z ?_|refine Zi Z Qt Z Z ?_)
  all_goals exact Qe
 cases e2
 ·refine AP.ofA ?_
  refine Zl Tryz.func215 rfl Tryz.ntmps215 rfl rfl ?_
  repeat'(first|(apply Zb (hD);kernel_rfl;(iterate 4 exact Z))|(apply Zb (hR);kernel_rfl;(iterate 4 exact Z))|(apply Zg Za;exact Z)|(apply Zh Za;exact Z)|refine Zd Z Z Z Qt ?_|refine Zr Z Z Z Qt ?_|refine Zj Z Qt Z Z ?_|refine Zi Z Qt Z Z ?_)
  all_goals exact Qe
 cases e3
 ·refine AP.ofA ?_
  refine Zl Tryz.func215 rfl Tryz.ntmps215 rfl rfl ?_
  repeat'(first|(apply Zb (hD);kernel_rfl;(iterate 4 exact Z))|(apply Zb (hR);kernel_rfl;(iterate 4 exact Z))|(apply Zb (hI);kernel_rfl;(iterate 4 exact Z))|(apply Zg Za;exact Z)|(apply Zh Za;exact Z)|refine Zd Z Z Z Qt ?_|refine Zr Z Z Z Qt ?_|refine Zj Z Qt Z Z ?_|refine Zi Z Qt Z Z ?_)
  all_goals exact Qe
 refine AP.ofA (Zl Tryz.func215 Z Tryz.ntmps215 Z Z ?_)
 repeat'(first|(apply Zb (hD);kernel_rfl;(iterate 4 exact Z))|(apply Zb (hR);kernel_rfl;(iterate 4 exact Z))|(apply Zb (hI);kernel_rfl;(iterate 4 exact Z))|(apply Zg Za;exact Z)|(apply Zh Za;exact Z)|refine Zd Z Z Z Qt ?_|refine Zj Z Qt Z Z ?_)
 all_goals exact Qe
def OF (x:EidV)(t q:Nat):It:=.mk 4 0 [] [V0 x,.mk 4 0 [] [.mk 0 t [] [],.mk 0 q [] []]]
theorem V1 {x:EidV}{t q:Nat}:W9 x t q=true ↔ Ys x=true/\t<=1099511627776/\q<=1099511627776:=by
 unfold W9
 simp only[Bool.and_eq_true,decide_eq_true_eq]
 rw[and_assoc]
 exact and_congr Iff.rfl (and_congr (by omega) (by omega))
theorem Mt {x:EidV}{t q:Nat}(h:W9 x t q=true):wfI (OF x t q):=by
 obtain⟨h1,h2,h3⟩:=V1.1 h
 have hw:=Qq h1
 unfold OF
 generalize V0 x=y at *
 simp[wfI,wfs,hw]
 omega
theorem OG [Known](x:EidV)(t q:Nat):AP Tryz.prog 213 [.agg (iC x t q)] (.tup [itD (if W9 x t q then OF x t q else .mk 0 0 [] []),.int .i64 (if W9 x t q then 0 else 3)]) []:=by
 have hR:=OD x t q
 cases hr:W9 x t q with
 | false=>
  rw[hr]at hR
  refine AP.ofA (Zl Tryz.func213 Z Tryz.ntmps213 Z Z ?_)
  repeat'(first|(apply Zb (hR);kernel_rfl;(iterate 4 exact Z))|(apply Zg Za;exact Z)|(apply Zh Za;exact Z)|(apply Zs Za;exact Z)|refine Ze Z Qt ?_)
  all_goals exact Qe
 | true=>
  rw[hr]at hR
  rw[if_pos rfl,if_pos rfl]
  obtain⟨h1,h2,h3⟩:=V1.1 hr
  have hE:=J3 x
  rw[h1,if_pos rfl,if_pos rfl]at hE
  have hw:=Qq h1
  have nt:=YY t
  have nq:=YY q
  unfold OF
  generalize V0 x=y at *
  have hL1:=W4 [.mk 0 t [] [],.mk 0 q [] []] (by simp) (by simp[wfI,wfs];omega)
  have hL:=W4 [y,.mk 4 0 [] [.mk 0 t [] [],.mk 0 q [] []]] (by simp) (by simp[wfI,wfs,hw];omega)
  obtain⟨k,n,b,l⟩:=y
  replace nt:AP Tryz.prog _ [.int .u64 (t:Int)] (.agg [.int .i64 0,.int .u64 (t:Int),.sl .ext [],.sl .ext []]) []:=nt
  replace nq:AP Tryz.prog _ [.int .u64 (q:Int)] (.agg [.int .i64 0,.int .u64 (q:Int),.sl .ext [],.sl .ext []]) []:=nq
  replace hE:AP Tryz.prog _ [.agg (eC x)] (.tup [.agg [.int .i64 k,.int .u64 (n:Int),byE b,.sl .ext (Zu l)],.int .i64 0]) []:=hE
  replace hL1:AP Tryz.prog _ _ (.agg [.int .i64 4,.int .u64 0,.sl .ext [],.sl .ext [.agg [.int .i64 0,.int .u64 (t:Int),.sl [],.sl []],.agg [.int .i64 0,.int .u64 (q:Int),.sl [],.sl []]]]) []:=hL1
  refine AP.ofA (Zl Tryz.func213 Z Tryz.ntmps213 Z Z ?_)
  repeat'(first|(apply Zb (hR);kernel_rfl;(iterate 4 exact Z))|(apply Zb (hE);kernel_rfl;(iterate 4 exact Z))|(apply Zb (nt);kernel_rfl;(iterate 4 exact Z))|(apply Zb (nq);kernel_rfl;(iterate 4 exact Z))|(apply Zb (hL1);kernel_rfl;(iterate 4 exact Z))|(apply Zb (hL);kernel_rfl;(iterate 4 exact Z))|(apply Zg Za;exact Z)|(apply Zh Za;exact Z)|(apply Zs Za;exact Z)|refine Zf Z Qt ?_|refine ZO Za Z Z Z Z Z Z Z Z Z Z Z Z ?_|(apply Zm 13 ZG;decide +kernel;kernel_rfl;kernel_rfl;kernel_rfl;exact Z;exact Z)|(apply Zq;(iterate 4 exact Z))|exact AE.nil _ _ _ _|(apply Zv;exact Z)|(apply Vv;exact Z)|(apply ZA;exact Z;exact Z;decide +kernel;exact Z)|(apply ZB;exact Z)|(apply UZ;exact Z)|exact AO.nil _ _ _|(apply Zp;(decide +kernel))|(apply ZZ;(iterate 3 exact Z))|exact AOs.nil|exact ZJ rfl rfl|exact Y6 rfl rfl rfl rfl rfl|exact VS rfl)
  all_goals exact Qe
def Ug (p:PriV):List It:=[.mk 0 7 [] [],.mk 0 p.fl [] [],.mk 0 p.sum.toNat [] [],V0 p.dest,V0 p.src,V0 p.rep,.mk 4 0 [] [.mk 0 p.t [] [],.mk 0 p.q [] []],.mk 0 p.life [] []]
def Wm (p:PriV):It × Int:=match Vx p with
 | true=>VX (Ug p) 2
 | false=>(z0,3)
theorem JG {p:PriV}(h:Vx p=true):0<=p.sum/\p.sum<=2/\Ys p.dest=true/\Ys p.rep=true/\W9 p.src p.t p.q=true/\p.life<=1099511627776:=by
 unfold Vx at h
 simp only[Bool.and_eq_true,decide_eq_true_eq]at h
 obtain⟨_,h1,h2,h3,h4,h5,h6⟩:=h
 exact⟨h1,h2,h3,h4,h5,by omega⟩
theorem Rr {p:PriV}(h:Vx p=true)(hfl:p.fl<18446744073709551616):wfs (Ug p):=by
 obtain⟨h1,h2,h3,h4,h5,h6⟩:=JG h
 obtain⟨i1,i2,i3⟩:=V1.1 h5
 refine⟨?_,?_,?_,Qq h3,Qq i1,Qq h4,?_,?_,trivial⟩
 all_goals first|(simp[wfI,wfs];done)|(simp[wfI,wfs];omega)
theorem T2 [Known][KnownU8](p:PriV)(hfl:p.fl<18446744073709551616)(hlim:∀ s,s=1\/s=2->(ZU (Yh s (Ug p))).length<=1000000000):AP Tryz.prog 175 [.agg (prC p)] (JC (Wm p)) []:=by
 have hR:=OE p
 unfold Wm
 cases hr:Vx p with
 | false=>
  rw[hr]at hR
  obtain⟨fl,sum,⟨di,dn,ds,dh,dd⟩,⟨ri,rn,rs,rh,rd⟩,⟨xi,xn,xs,xh,xd⟩,t,q,life⟩:=p
  dsimp only[z0]at *
  refine AP.ofA (Zl Tryz.func175 Z Tryz.ntmps175 Z Z ?_)
  repeat'(first|(apply Zb (hR);kernel_rfl;(iterate 4 exact Z))|(apply Zg Za;exact Z)|(apply Zh Za;exact Z)|(apply Zs Za;exact Z)|refine Ze Z Qt ?_)
  all_goals exact Qe
 | true=>
  rw[hr]at hR
  obtain⟨h1,h2,h3,h4,h5,h6⟩:=JG hr
  have hS:=H9 (Ug p) 2 (Rr hr hfl) (by simp[Ug]) hlim
  have hD:=J3 p.dest
  have hP:=J3 p.rep
  have hI:=OG p.src p.t p.q
  rw[if_pos h3,if_pos h3]at hD
  rw[if_pos h4,if_pos h4]at hP
  rw[if_pos h5,if_pos h5]at hI
  have hN:=YY 7
  have hF:=YY p.fl
  have hM:=YY p.sum.toNat
  have hL:=YY p.life
  dsimp only
  generalize VX (Ug p) 2=r at *
  unfold Ug at hS
  unfold OF at hI
  obtain⟨fl,sum,⟨di,dn,ds,dh,dd⟩,⟨ri,rn,rs,rh,rd⟩,⟨xi,xn,xs,xh,xd⟩,t,q,life⟩:=p
  dsimp only at *
  generalize V0 ⟨di,dn,ds,dh,dd⟩=I1 at *
  generalize V0 ⟨ri,rn,rs,rh,rd⟩=I2 at *
  generalize V0 ⟨xi,xn,xs,xh,xd⟩=I3 at *
  obtain⟨ak,an,ab,al⟩:=I1
  obtain⟨bk,bn,bb,bl⟩:=I2
  obtain⟨ck,cn,cb,cl⟩:=I3
  obtain⟨⟨k,n,b,l⟩,e⟩:=r
  have es:IntKind.u64.wrap sum=((sum.toNat:Nat):Int):=by rw[IntWalk.u64_in _ (by omega)];omega
  have hU:=Y4 [It.mk ck cn cb cl,.mk 4 0 [] [.mk 0 t [] [],.mk 0 q [] []]]
  have hv0:(Zu [It.mk ck cn cb cl,.mk 4 0 [] [.mk 0 t [] [],.mk 0 q [] []]])[(0:Int).toNat]?=some (.agg [.int .i64 ck,.int .u64 (cn:Int),.sl (cb.map E.byte),.sl (Zu cl)]):=rfl
  have hv1:(Zu [It.mk ck cn cb cl,.mk 4 0 [] [.mk 0 t [] [],.mk 0 q [] []]])[(1:Int).toNat]?=some (.agg [.int .i64 4,.int .u64 0,.sl [],.sl [nmE t,nmE q]]):=rfl
  generalize hLe:Zu [It.mk ck cn cb cl,.mk 4 0 [] [.mk 0 t [] [],.mk 0 q [] []]]=LL at *
  replace hI:AP Tryz.prog 213 [.agg (iC ⟨xi,xn,xs,xh,xd⟩ t q)] (.tup [.agg [.int .i64 4,.int .u64 0,.sl .ext [],.sl .ext LL],.int .i64 0]) []:=by rw[<- hLe];exact hI
  replace hS:AP Tryz.prog 217 [.sl .ext [nmE 7,nmE fl,nmE sum.toNat,.agg [.int .i64 ak,.int .u64 (an:Int),.sl (ab.map E.byte),.sl (Zu al)],.agg [.int .i64 ck,.int .u64 (cn:Int),.sl (cb.map E.byte),.sl (Zu cl)],.agg [.int .i64 bk,.int .u64 (bn:Int),.sl (bb.map E.byte),.sl (Zu bl)],.agg [.int .i64 4,.int .u64 0,.sl [],.sl [nmE t,nmE q]],nmE life],.int .i64 2] (JC (.mk k n b l,e)) []:=hS
  refine AP.ofA (Zl Tryz.func175 Z Tryz.ntmps175 Z Z ?_)
  repeat'(first|(apply Zb (hR);kernel_rfl;(iterate 4 exact Z))|rw[es]|(apply Zb (hD);kernel_rfl;(iterate 4 exact Z))|(apply Zb (hP);kernel_rfl;(iterate 4 exact Z))|(apply Zb (hI);kernel_rfl;(iterate 4 exact Z))|(apply Zb (hN);kernel_rfl;(iterate 4 exact Z))|(apply Zb (hF);kernel_rfl;(iterate 4 exact Z))|(apply Zb (hM);kernel_rfl;(iterate 4 exact Z))|(apply Zb (hL);kernel_rfl;(iterate 4 exact Z))|(apply Zb (hS);kernel_rfl;(iterate 4 exact Z))|(apply Zg Za;exact Z)|(apply Zh Za;exact Z)|(apply Zs Za;exact Z)|refine Zf Z Qt ?_|refine ZO Za Z Z Z Z Z Z Z Z Z Z Z Z ?_|(apply Zm 21 ZG;decide +kernel;kernel_rfl;kernel_rfl;kernel_rfl;exact Z;exact Z)|(apply Zq;(iterate 4 exact Z))|exact AE.nil _ _ _ _|(apply Zv;exact Z)|(apply ZA;exact Z;exact Z;decide +kernel;exact Z)|(apply ZB;exact Z)|exact AO.nil _ _ _|(apply Zp;(decide +kernel))|exact AOs.nil|exact ZJ rfl rfl|(apply Zw Za;(iterate 6 exact Z);(first|exact Qt|rotate_left);(first|with_reducible assumption|decide +kernel|exact Z);(first|exact Zk rfl|with_reducible assumption|decide +kernel|rotate_left)))
  all_goals exact Qe
theorem Dr [Known][KnownU8](k:Int)(n:Nat)(b:List UInt8)(xl:List E)(L:List E)(e:Int)
  (hO:AP Tryz.prog 171 [.agg [.int .i64 k,.int .u64 (n:Int),byE b,.sl .ext xl],.int .i64 2] (.tup [.sl .ext L,.int .i64 e]) []) (t1:(e != 0)=true) :
  AP Tryz.prog 147 [.agg [.int .i64 k,.int .u64 (n:Int),byE b,.sl .ext xl]] (.tup [.agg [.int .u64 0,.int .i64 0,.bool false,.int .u64 0,.int .u64 0,.str [],.str [],.bool false,.int .u64 0,.int .u64 0,.str [],.str [],.bool false,.int .u64 0,.int .u64 0,.str [],.str [],.int .u64 0,.int .u64 0,.int .u64 0],.int .i64 e]) []:=by
 refine AP.ofA (Zl Tryz.func147 Z Tryz.ntmps147 Z Z ?_)
 repeat'(first|(apply Zb (hO);kernel_rfl;(iterate 4 exact Z))|(apply Zg Za;exact Z)|(apply Zh Za;exact Z)|(apply Zs Za;exact Z)|refine Ze Z Qt ?_)
 all_goals exact Qe
theorem Dt [Known][KnownU8](k:Int)(n:Nat)(b:List UInt8)(xl:List E)(L:List E)(e:Int)
  (hO:AP Tryz.prog 171 [.agg [.int .i64 k,.int .u64 (n:Int),byE b,.sl .ext xl],.int .i64 2] (.tup [.sl .ext L,.int .i64 e]) []) (t1:(e != 0)=false) (t2:((L.length:Int) != 8)=true) :
  AP Tryz.prog 147 [.agg [.int .i64 k,.int .u64 (n:Int),byE b,.sl .ext xl]] (.tup [.agg [.int .u64 0,.int .i64 0,.bool false,.int .u64 0,.int .u64 0,.str [],.str [],.bool false,.int .u64 0,.int .u64 0,.str [],.str [],.bool false,.int .u64 0,.int .u64 0,.str [],.str [],.int .u64 0,.int .u64 0,.int .u64 0],.int .i64 3]) []:=by
 refine AP.ofA (Zl Tryz.func147 Z Tryz.ntmps147 Z Z ?_)
 repeat'(first|(apply Zb (hO);kernel_rfl;(iterate 4 exact Z))|(apply Zg Za;exact Z)|(apply Zh Za;exact Z)|(apply Zs Za;exact Z)|refine Ze Z Qt ?_|refine Zf Z Qt ?_|refine Zn Za Z Z Z Z ?_)
 all_goals exact Qe
theorem J4 [Known][KnownU8](k:Int)(n:Nat)(b:List UInt8)(xl:List E)(L:List E)(e:Int)(k0:Int)(n0:Nat)(b0:List UInt8)(l0:List It)(k1:Int)(n1:Nat)(b1:List UInt8)(l1:List It)(k2:Int)(n2:Nat)(b2:List UInt8)(l2:List It)(k3:Int)(n3:Nat)(b3:List UInt8)(l3:List It)(k4:Int)(n4:Nat)(b4:List UInt8)(l4:List It)(k5:Int)(n5:Nat)(b5:List UInt8)(l5:List It)(k6:Int)(n6:Nat)(b6:List UInt8)(l6:List It)(k7:Int)(n7:Nat)(b7:List UInt8)(l7:List It)(di:Bool)(dn ds:Nat)(dh dd:List UInt8)(ri:Bool)(rn rs:Nat)(rh rd:List UInt8)(ui:Bool)(un us:Nat)(uh ud:List UInt8)(ut uq:Nat)(de re ie we:Int)(wk:Int)(wn:Nat)(wb:List UInt8)(wl:List E)(s:Bool)(hO:AP Tryz.prog 171 [.agg [.int .i64 k,.int .u64 (n:Int),byE b,.sl .ext xl],.int .i64 2] (.tup [.sl .ext L,.int .i64 e]) [])(t1:(e != 0)=false)(t2:((L.length:Int) != 8)=false)(hU:Uni 4 L)(hv1:L[(1:Int).toNat]?=some (.agg [.int .i64 k1,.int .u64 (n1:Int),.sl (b1.map E.byte),.sl (Zu l1)]))(hv2:L[(2:Int).toNat]?=some (.agg [.int .i64 k2,.int .u64 (n2:Int),.sl (b2.map E.byte),.sl (Zu l2)]))(hv3:L[(3:Int).toNat]?=some (.agg [.int .i64 k3,.int .u64 (n3:Int),.sl (b3.map E.byte),.sl (Zu l3)]))(hv4:L[(4:Int).toNat]?=some (.agg [.int .i64 k4,.int .u64 (n4:Int),.sl (b4.map E.byte),.sl (Zu l4)]))(hv5:L[(5:Int).toNat]?=some (.agg [.int .i64 k5,.int .u64 (n5:Int),.sl (b5.map E.byte),.sl (Zu l5)]))(hv6:L[(6:Int).toNat]?=some (.agg [.int .i64 k6,.int .u64 (n6:Int),.sl (b6.map E.byte),.sl (Zu l6)]))(hv7:L[(7:Int).toNat]?=some (.agg [.int .i64 k7,.int .u64 (n7:Int),.sl (b7.map E.byte),.sl (Zu l7)]))(hD:AP Tryz.prog 172 [.agg [.int .i64 k3,.int .u64 (n3:Int),.sl .ext (b3.map E.byte),.sl .ext (Zu l3)]] (.tup [.agg [.bool di,.int .u64 (dn:Int),.int .u64 (ds:Int),.str dh,.str dd],.int .i64 de]) [])(hR:AP Tryz.prog 172 [.agg [.int .i64 k5,.int .u64 (n5:Int),.sl .ext (b5.map E.byte),.sl .ext (Zu l5)]] (.tup [.agg [.bool ri,.int .u64 (rn:Int),.int .u64 (rs:Int),.str rh,.str rd],.int .i64 re]) [])(hL:AP Tryz.prog 174 [.sl .ext [.agg [.int .i64 k4,.int .u64 (n4:Int),.sl (b4.map E.byte),.sl (Zu l4)],.agg [.int .i64 k6,.int .u64 (n6:Int),.sl (b6.map E.byte),.sl (Zu l6)]]] (.agg [.int .i64 4,.int .u64 0,.sl .ext [],.sl .ext [.agg [.int .i64 k4,.int .u64 (n4:Int),.sl (b4.map E.byte),.sl (Zu l4)],.agg [.int .i64 k6,.int .u64 (n6:Int),.sl (b6.map E.byte),.sl (Zu l6)]]]) [])(hI:AP Tryz.prog 173 [.agg [.int .i64 4,.int .u64 0,.sl .ext [],.sl .ext [.agg [.int .i64 k4,.int .u64 (n4:Int),.sl (b4.map E.byte),.sl (Zu l4)],.agg [.int .i64 k6,.int .u64 (n6:Int),.sl (b6.map E.byte),.sl (Zu l6)]]]] (.tup [.agg [.bool ui,.int .u64 (un:Int),.int .u64 (us:Int),.str uh,.str ud,.int .u64 (ut:Int),.int .u64 (uq:Int)],.int .i64 ie]) [])(hW:AP Tryz.prog 175 [.agg [.int .u64 (n1:Int),.int .i64 (IntKind.i64.wrap (n2:Int)),.bool di,.int .u64 (dn:Int),.int .u64 (ds:Int),.str dh,.str dd,.bool ri,.int .u64 (rn:Int),.int .u64 (rs:Int),.str rh,.str rd,.bool ui,.int .u64 (un:Int),.int .u64 (us:Int),.str uh,.str ud,.int .u64 (ut:Int),.int .u64 (uq:Int),.int .u64 (n7:Int)]] (.tup [.agg [.int .i64 wk,.int .u64 (wn:Int),byE wb,.sl .ext wl],.int .i64 we]) [])(hS:AP Tryz.prog 176 [.agg [.int .i64 wk,.int .u64 (wn:Int),byE wb,.sl .ext wl],.agg [.int .i64 k,.int .u64 (n:Int),byE b,.sl .ext xl]] (.bool s) []) :
  (∀(c1:(de != 0)=true),
  AP Tryz.prog 147 [.agg [.int .i64 k,.int .u64 (n:Int),byE b,.sl .ext xl]] (.tup [.agg [.int .u64 0,.int .i64 0,.bool false,.int .u64 0,.int .u64 0,.str [],.str [],.bool false,.int .u64 0,.int .u64 0,.str [],.str [],.bool false,.int .u64 0,.int .u64 0,.str [],.str [],.int .u64 0,.int .u64 0,.int .u64 0],.int .i64 3]) []) /\
  (∀(c1:(de != 0)=false) (c2:(re != 0)=true),
  AP Tryz.prog 147 [.agg [.int .i64 k,.int .u64 (n:Int),byE b,.sl .ext xl]] (.tup [.agg [.int .u64 0,.int .i64 0,.bool false,.int .u64 0,.int .u64 0,.str [],.str [],.bool false,.int .u64 0,.int .u64 0,.str [],.str [],.bool false,.int .u64 0,.int .u64 0,.str [],.str [],.int .u64 0,.int .u64 0,.int .u64 0],.int .i64 3]) []) /\
  (∀(c1:(de != 0)=false) (c2:(re != 0)=false) (c3:(ie != 0)=true),
  AP Tryz.prog 147 [.agg [.int .i64 k,.int .u64 (n:Int),byE b,.sl .ext xl]] (.tup [.agg [.int .u64 0,.int .i64 0,.bool false,.int .u64 0,.int .u64 0,.str [],.str [],.bool false,.int .u64 0,.int .u64 0,.str [],.str [],.bool false,.int .u64 0,.int .u64 0,.str [],.str [],.int .u64 0,.int .u64 0,.int .u64 0],.int .i64 3]) []):=by
 refine⟨fun c1=>?_,fun c1 c2=>?_,fun c1 c2 c3=>?_⟩
 all_goals
  refine AP.ofA (Zl Tryz.func147 Z Tryz.ntmps147 Z Z ?_)
  repeat'(first|(apply Zb (hO);kernel_rfl;(iterate 4 exact Z))|(apply Zb (hD);kernel_rfl;(iterate 4 exact Z))|(apply Zb (hR);kernel_rfl;(iterate 4 exact Z))|(apply Zb (hL);kernel_rfl;(iterate 4 exact Z))|(apply Zb (hI);kernel_rfl;(iterate 4 exact Z))|(apply Zb (hW);kernel_rfl;(iterate 4 exact Z))|(apply Zg Za;exact Z)|(apply Zh Za;exact Z)|(apply Zs Za;exact Z)|refine Zd Z Z Z Qt ?_|refine Zo Z Z Z Qt ?_|refine Zj Z Qt Z Z ?_|refine Zi Z Qt Z Z ?_|refine Ze Z Qt ?_|refine Zf Z Qt ?_|refine Zn Za Z Z Z Z ?_|refine ZO Za Z Z Z Z Z Z Z Z Z Z Z Z ?_|(apply Zm 14 ZG;decide +kernel;kernel_rfl;kernel_rfl;kernel_rfl;exact Z;exact Z)|(apply Zm 18 ZG;decide +kernel;kernel_rfl;kernel_rfl;kernel_rfl;exact Z;exact Z)|(apply Zq;(iterate 4 exact Z))|exact AE.nil _ _ _ _|(apply Zv;exact Z)|(apply Yj;exact Z)|(apply Vv;exact Z)|(apply ZA;exact Z;exact Z;decide +kernel;exact Z)|(apply ZB;exact Z)|(apply Yr;exact Z)|(apply UZ;exact Z)|exact AO.nil _ _ _|(apply Zp;(decide +kernel))|(apply ZZ;(iterate 3 exact Z))|exact AOs.nil|exact ZJ rfl rfl|exact Y6 rfl rfl rfl rfl rfl|exact Y2 rfl rfl|exact VS rfl|(apply Zw Za;(iterate 6 exact Z);(first|exact Qt|rotate_left);(first|with_reducible assumption|decide +kernel|exact Z);(first|exact Zk rfl|with_reducible assumption|decide +kernel|rotate_left)))
  all_goals(apply Zt [];(apply Zc Za;exact Z);(iterate 4 exact Z))
  all_goals first|rfl|(exfalso;simp_all;done)
theorem J5 [Known][KnownU8](k:Int)(n:Nat)(b:List UInt8)(xl:List E)(L:List E)(e:Int)(k0:Int)(n0:Nat)(b0:List UInt8)(l0:List It)(k1:Int)(n1:Nat)(b1:List UInt8)(l1:List It)(k2:Int)(n2:Nat)(b2:List UInt8)(l2:List It)(k3:Int)(n3:Nat)(b3:List UInt8)(l3:List It)(k4:Int)(n4:Nat)(b4:List UInt8)(l4:List It)(k5:Int)(n5:Nat)(b5:List UInt8)(l5:List It)(k6:Int)(n6:Nat)(b6:List UInt8)(l6:List It)(k7:Int)(n7:Nat)(b7:List UInt8)(l7:List It)(di:Bool)(dn ds:Nat)(dh dd:List UInt8)(ri:Bool)(rn rs:Nat)(rh rd:List UInt8)(ui:Bool)(un us:Nat)(uh ud:List UInt8)(ut uq:Nat)(de re ie we:Int)(wk:Int)(wn:Nat)(wb:List UInt8)(wl:List E)(s:Bool)(hO:AP Tryz.prog 171 [.agg [.int .i64 k,.int .u64 (n:Int),byE b,.sl .ext xl],.int .i64 2] (.tup [.sl .ext L,.int .i64 e]) [])(t1:(e != 0)=false)(t2:((L.length:Int) != 8)=false)(hU:Uni 4 L)(hv1:L[(1:Int).toNat]?=some (.agg [.int .i64 k1,.int .u64 (n1:Int),.sl (b1.map E.byte),.sl (Zu l1)]))(hv2:L[(2:Int).toNat]?=some (.agg [.int .i64 k2,.int .u64 (n2:Int),.sl (b2.map E.byte),.sl (Zu l2)]))(hv3:L[(3:Int).toNat]?=some (.agg [.int .i64 k3,.int .u64 (n3:Int),.sl (b3.map E.byte),.sl (Zu l3)]))(hv4:L[(4:Int).toNat]?=some (.agg [.int .i64 k4,.int .u64 (n4:Int),.sl (b4.map E.byte),.sl (Zu l4)]))(hv5:L[(5:Int).toNat]?=some (.agg [.int .i64 k5,.int .u64 (n5:Int),.sl (b5.map E.byte),.sl (Zu l5)]))(hv6:L[(6:Int).toNat]?=some (.agg [.int .i64 k6,.int .u64 (n6:Int),.sl (b6.map E.byte),.sl (Zu l6)]))(hv7:L[(7:Int).toNat]?=some (.agg [.int .i64 k7,.int .u64 (n7:Int),.sl (b7.map E.byte),.sl (Zu l7)]))(hD:AP Tryz.prog 172 [.agg [.int .i64 k3,.int .u64 (n3:Int),.sl .ext (b3.map E.byte),.sl .ext (Zu l3)]] (.tup [.agg [.bool di,.int .u64 (dn:Int),.int .u64 (ds:Int),.str dh,.str dd],.int .i64 de]) [])(hR:AP Tryz.prog 172 [.agg [.int .i64 k5,.int .u64 (n5:Int),.sl .ext (b5.map E.byte),.sl .ext (Zu l5)]] (.tup [.agg [.bool ri,.int .u64 (rn:Int),.int .u64 (rs:Int),.str rh,.str rd],.int .i64 re]) [])(hL:AP Tryz.prog 174 [.sl .ext [.agg [.int .i64 k4,.int .u64 (n4:Int),.sl (b4.map E.byte),.sl (Zu l4)],.agg [.int .i64 k6,.int .u64 (n6:Int),.sl (b6.map E.byte),.sl (Zu l6)]]] (.agg [.int .i64 4,.int .u64 0,.sl .ext [],.sl .ext [.agg [.int .i64 k4,.int .u64 (n4:Int),.sl (b4.map E.byte),.sl (Zu l4)],.agg [.int .i64 k6,.int .u64 (n6:Int),.sl (b6.map E.byte),.sl (Zu l6)]]]) [])(hI:AP Tryz.prog 173 [.agg [.int .i64 4,.int .u64 0,.sl .ext [],.sl .ext [.agg [.int .i64 k4,.int .u64 (n4:Int),.sl (b4.map E.byte),.sl (Zu l4)],.agg [.int .i64 k6,.int .u64 (n6:Int),.sl (b6.map E.byte),.sl (Zu l6)]]]] (.tup [.agg [.bool ui,.int .u64 (un:Int),.int .u64 (us:Int),.str uh,.str ud,.int .u64 (ut:Int),.int .u64 (uq:Int)],.int .i64 ie]) [])(hW:AP Tryz.prog 175 [.agg [.int .u64 (n1:Int),.int .i64 (IntKind.i64.wrap (n2:Int)),.bool di,.int .u64 (dn:Int),.int .u64 (ds:Int),.str dh,.str dd,.bool ri,.int .u64 (rn:Int),.int .u64 (rs:Int),.str rh,.str rd,.bool ui,.int .u64 (un:Int),.int .u64 (us:Int),.str uh,.str ud,.int .u64 (ut:Int),.int .u64 (uq:Int),.int .u64 (n7:Int)]] (.tup [.agg [.int .i64 wk,.int .u64 (wn:Int),byE wb,.sl .ext wl],.int .i64 we]) [])(hS:AP Tryz.prog 176 [.agg [.int .i64 wk,.int .u64 (wn:Int),byE wb,.sl .ext wl],.agg [.int .i64 k,.int .u64 (n:Int),byE b,.sl .ext xl]] (.bool s) [])(c1:(de != 0)=false)(c2:(re != 0)=false)(c3:(ie != 0)=false) :
  (∀(c4:(we != 0)=true),
  AP Tryz.prog 147 [.agg [.int .i64 k,.int .u64 (n:Int),byE b,.sl .ext xl]] (.tup [.agg [.int .u64 0,.int .i64 0,.bool false,.int .u64 0,.int .u64 0,.str [],.str [],.bool false,.int .u64 0,.int .u64 0,.str [],.str [],.bool false,.int .u64 0,.int .u64 0,.str [],.str [],.int .u64 0,.int .u64 0,.int .u64 0],.int .i64 3]) []) /\
  (∀(c4:(we != 0)=false) (hSn:AP Tryz.prog 176 [.agg [.int .i64 wk,.int .u64 (wn:Int),byE wb,.sl .ext wl],.agg [.int .i64 k,.int .u64 (n:Int),byE b,.sl .ext xl]] (.bool false) []),
  AP Tryz.prog 147 [.agg [.int .i64 k,.int .u64 (n:Int),byE b,.sl .ext xl]] (.tup [.agg [.int .u64 0,.int .i64 0,.bool false,.int .u64 0,.int .u64 0,.str [],.str [],.bool false,.int .u64 0,.int .u64 0,.str [],.str [],.bool false,.int .u64 0,.int .u64 0,.str [],.str [],.int .u64 0,.int .u64 0,.int .u64 0],.int .i64 3]) []) /\
  (∀(c4:(we != 0)=false) (hSn:AP Tryz.prog 176 [.agg [.int .i64 wk,.int .u64 (wn:Int),byE wb,.sl .ext wl],.agg [.int .i64 k,.int .u64 (n:Int),byE b,.sl .ext xl]] (.bool true) []),
  AP Tryz.prog 147 [.agg [.int .i64 k,.int .u64 (n:Int),byE b,.sl .ext xl]] (.tup [.agg [.int .u64 (n1:Int),.int .i64 (IntKind.i64.wrap (n2:Int)),.bool di,.int .u64 (dn:Int),.int .u64 (ds:Int),.str dh,.str dd,.bool ri,.int .u64 (rn:Int),.int .u64 (rs:Int),.str rh,.str rd,.bool ui,.int .u64 (un:Int),.int .u64 (us:Int),.str uh,.str ud,.int .u64 (ut:Int),.int .u64 (uq:Int),.int .u64 (n7:Int)],.int .i64 0]) []):=by
 refine⟨fun c4=>?_,fun c4 hSn=>?_,fun c4 hSn=>?_⟩
 all_goals
  refine AP.ofA (Zl Tryz.func147 Z Tryz.ntmps147 Z Z ?_)
  repeat'(first|(apply Zb (hO);kernel_rfl;(iterate 4 exact Z))|(apply Zb (hD);kernel_rfl;(iterate 4 exact Z))|(apply Zb (hR);kernel_rfl;(iterate 4 exact Z))|(apply Zb (hL);kernel_rfl;(iterate 4 exact Z))|(apply Zb (hI);kernel_rfl;(iterate 4 exact Z))|(apply Zb (hW);kernel_rfl;(iterate 4 exact Z))|(apply Zb (hSn);kernel_rfl;(iterate 4 exact Z))|(apply Zg Za;exact Z)|(apply Zh Za;exact Z)|(apply Zs Za;exact Z)|refine Zd Z Z Z Qt ?_|refine Zo Z Z Z Qt ?_|refine Zj Z Qt Z Z ?_|refine Zi Z Qt Z Z ?_|refine Ze Z Qt ?_|refine Zf Z Qt ?_|refine Zn Za Z Z Z Z ?_|refine ZO Za Z Z Z Z Z Z Z Z Z Z Z Z ?_|(apply Zm 14 ZG;decide +kernel;kernel_rfl;kernel_rfl;kernel_rfl;exact Z;exact Z)|(apply Zm 18 ZG;decide +kernel;kernel_rfl;kernel_rfl;kernel_rfl;exact Z;exact Z)|(apply Zq;(iterate 4 exact Z))|exact AE.nil _ _ _ _|(apply Zv;exact Z)|(apply Yj;exact Z)|(apply Vv;exact Z)|(apply ZA;exact Z;exact Z;decide +kernel;exact Z)|(apply ZB;exact Z)|(apply Yr;exact Z)|(apply UZ;exact Z)|exact AO.nil _ _ _|(apply Zp;(decide +kernel))|(apply ZZ;(iterate 3 exact Z))|exact AOs.nil|exact ZJ rfl rfl|exact Y6 rfl rfl rfl rfl rfl|exact Y2 rfl rfl|exact VS rfl|(apply Zw Za;(iterate 6 exact Z);(first|exact Qt|rotate_left);(first|with_reducible assumption|decide +kernel|exact Z);(first|exact Zk rfl|with_reducible assumption|decide +kernel|rotate_left)))
  all_goals(apply Zt [];(apply Zc Za;exact Z);(iterate 4 exact Z))
  all_goals first|rfl|(exfalso;simp_all;done)
end Go.Proofs.YtchlgagdbflkmaaGreatDoor
end
