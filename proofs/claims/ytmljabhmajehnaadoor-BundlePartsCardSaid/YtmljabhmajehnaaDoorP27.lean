/- CanonBack: plain laws. -/
import Derived.Test.YtmljabhmajehnaaDoorP26
import Derived.Test.YtmljabhmajehnaaDoorP20
import Derived.Test.YtmljabhmajehnaaDoorP01
import Derived.Test.YtmljabhmajehnaaDoorP07
import Derived.Test.YtmljabhmajehnaaDoorProg
import Derived.Test.YtmljabhmajehnaaDoorP21
import Derived.Test.YtmljabhmajehnaaDoorP22
set_option linter.unusedVariables false
set_option linter.unusedSimpArgs false
section
open Go.RowKit Go.Pl Go.Av
namespace Go.Proofs.YtmljabhmajehnaaDoor
set_option maxHeartbeats 4000000
theorem QQ (x:It):It.beq x x=true:=It.beq_iff.2 rfl
theorem Hh {l r:List It}{a:Int}(h:Z2 l a ≥ 0):Z2 (l++r) a=Z2 l a:=by
 rcases W4 l a with e|⟨_,h0,h1⟩
 ·omega
 ·unfold Z2
  rw[List.getElem?_append_left (by omega)]
theorem Kg {l:List It}{a:Int}{x:It}(h:W3 l a=(x,0)):VB x a=(l,0):=by
 unfold W3 at h
 cases d0:(decide (a<0)||decide (a ≥ (l.length:Int))) with
 | true=>rw[d0]at h;simp at h
 | false=>
 rw[d0]at h
 cases d1:(l.all ZI&&decide (Z2 l a ≥ 0)) with
 | false=>rw[d1]at h;simp at h
 | true=>
 rw[d1]at h
 rw[Bool.and_eq_true,decide_eq_true_eq]at d1
 obtain⟨_,d1⟩:=d1
 rw[Bool.or_eq_false_iff,decide_eq_false_iff_not,decide_eq_false_iff_not]at d0
 dsimp only at h
 cases d2:decide (Z2 l a>0) with
 | false=>
  rw[d2]at h
  dsimp only at h
  cases hr:ZI (.mk 4 0 [] l) with
  | false=>rw[hr]at h;simp at h
  | true=>
   rw[hr]at h
   simp only[Prod.mk.injEq,and_true]at h
   subst h
   have e:Z2 l a=0:=by have:=of_decide_eq_false d2;omega
   unfold VB
   dsimp only
   rw[hr,e]
   rfl
 | true=>
  rw[d2]at h
  dsimp only at h
  have hs:(Z2 l a).toNat=1\/(Z2 l a).toNat=2:=by
   rcases W4 l a with e|⟨e,_⟩
   ·omega
   ·have:=of_decide_eq_true d2;omega
  cases hz:ZI (ZU (Z2 l a).toNat l) with
  | false=>rw[hz]at h;simp at h
  | true=>
   rw[hz]at h
   dsimp only at h
   cases hr:ZI (Qh (Z2 l a).toNat l) with
   | false=>rw[hr]at h;simp at h
   | true=>
    rw[hr]at h
    simp only[Prod.mk.injEq,and_true]at h
    subst h
    have hlen:=QN (Z2 l a).toNat (ZM (ZU (Z2 l a).toNat l)) hs
    unfold Qh at hr ⊢
    unfold VB
    dsimp only
    rw[hr,Hh d1]
    have e1:decide (Z2 l a<0)=false:=decide_eq_false (by omega)
    have e2:(Z2 l a==0)=false:=by rw[beq_eq_false_iff_ne];have:=of_decide_eq_true d2;omega
    rw[e1,e2]
    have e3:(l++[It.mk 2 0 (Vu (Z2 l a).toNat (ZM (ZU (Z2 l a).toNat l))) []]).length-1=l.length:=by simp
    rw[e3]
    have e4:(l++[It.mk 2 0 (Vu (Z2 l a).toNat (ZM (ZU (Z2 l a).toNat l))) []])[l.length]?=some (It.mk 2 0 (Vu (Z2 l a).toNat (ZM (ZU (Z2 l a).toNat l))) []):=by simp
    have e5:(l++[It.mk 2 0 (Vu (Z2 l a).toNat (ZM (ZU (Z2 l a).toNat l))) []]).take l.length=l:=by simp
    rw[e4,e5]
    dsimp only
    have e6:decide (((l.length:Nat):Int)<=a)=false:=decide_eq_false (by omega)
    rw[e6,QQ,hlen,hz]
    simp
theorem Xv {b:BlkV}(hs:b.sum=IntKind.i64.wrap ((b.sum.toNat:Nat):Int)){x:It}(h:Z7 b=(x,0)):WO x=(b,0):=by
 have hr:Yh b=true:=by
  unfold Z7 at h
  cases hr:Yh b with
  | true=>rfl
  | false=>rw[hr]at h;simp at h
 have h2:=h
 unfold Z7 at h2
 rw[hr]at h2
 have ho:=Kg h2
 unfold WO
 rw[ho]
 unfold OS WH
 dsimp only
 have e:(⟨b.ty,b.num,b.fl,IntKind.i64.wrap ((b.sum.toNat:Nat):Int),b.data⟩:BlkV)=b:=by rw[<- hs]
 rw[e,h]
 simp[QQ]
theorem YG (k:Int)(n:Nat)(b:List UInt8)(l:List It):(ZM (.mk k n b l)).length<=9+(b.length+(ZH l).length):=by
 rw[ZM,List.length_append,List.length_append]
 split
 ·rename_i h
  have h1:=UP h rfl
  have h2:ZC (It.mk k n b l).hn<=8:=by
   unfold ZC
   repeat' split
   all_goals omega
  dsimp only at h1
  omega
 ·simp
theorem YN (n:Nat):(ZM (.mk 0 n [] [])).length<=9:=by
 have:=YG 0 n [] []
 simpa[ZH]using this
theorem JB (n m:Nat):(ZM (TF n m)).length<=27:=by
 have h0:=YG 4 0 [] [.mk 0 n [] [],.mk 0 m [] []]
 have h1:=YN n
 have h2:=YN m
 simp only[ZH,List.length_append,List.length_nil,Nat.add_zero,Nat.zero_add]at h0
 have e:TF n m=.mk 4 0 [] [.mk 0 n [] [],.mk 0 m [] []]:=rfl
 rw[e]
 omega
theorem Vp {l:List It}{a:Int}{x:It}(h:W3 l a=(x,0)):x=.mk 4 0 [] l\/∃ s,(s=1\/s=2)/\x=Qh s l:=by
 unfold W3 at h
 cases d0:(decide (a<0)||decide (a ≥ (l.length:Int))) with
 | true=>rw[d0]at h;simp at h
 | false=>
 rw[d0]at h
 cases d1:(l.all ZI&&decide (Z2 l a ≥ 0)) with
 | false=>rw[d1]at h;simp at h
 | true=>
 rw[d1]at h
 dsimp only at h
 cases d2:decide (Z2 l a>0) with
 | false=>
  rw[d2]at h
  dsimp only at h
  cases hr:ZI (.mk 4 0 [] l) with
  | false=>rw[hr]at h;simp at h
  | true=>
   rw[hr]at h
   simp only[Prod.mk.injEq,and_true]at h
   exact .inl h.symm
 | true=>
  rw[d2]at h
  dsimp only at h
  have hs:(Z2 l a).toNat=1\/(Z2 l a).toNat=2:=by
   rcases W4 l a with e|⟨e,_⟩
   ·have:=of_decide_eq_true d2;omega
   ·have:=of_decide_eq_true d2;omega
  cases hz:ZI (ZU (Z2 l a).toNat l) with
  | false=>rw[hz]at h;simp at h
  | true=>
   rw[hz]at h
   dsimp only at h
   cases hr:ZI (Qh (Z2 l a).toNat l) with
   | false=>rw[hr]at h;simp at h
   | true=>
    rw[hr]at h
    simp only[Prod.mk.injEq,and_true]at h
    exact .inr ⟨_,hs,h.symm⟩
theorem Vq {b:BlkV}{x:It}(h:Z7 b=(x,0)):Yh b=true/\W3 (WH b) 3=(x,0):=by
 unfold Z7 at h
 cases hr:Yh b with
 | true=>rw[hr]at h;exact⟨rfl,h⟩
 | false=>rw[hr]at h;simp at h
theorem TJ {x:It}(h:wfI x):x.n<18446744073709551616:=by obtain⟨k,n,b,l⟩:=x;exact h.1
abbrev iC (x:EidV)(t q:Nat):List D:=[.bool x.i,.int .u64 (x.n:Int),.int .u64 (x.s:Int),.str x.h,.str x.d,.int .u64 (t:Int),.int .u64 (q:Int)]
def Wp (x:EidV)(t q:Nat):Bool:=Yg x&&decide ((t:Int)<=1099511627776)&&decide ((q:Int)<=1099511627776)
theorem Kh [Known](x:EidV)(t q:Nat):AP Tryd.prog 43 [.agg (iC x t q)] (.bool (Wp x t q)) []:=by
 refine AP.ofA (Zl Tryd.func43 Z Tryd.ntmps43 Z Z ?_)
 repeat'(first|(apply Zb (Ve x);kernel_rfl;(iterate 4 exact Z))|(apply Zh Za;exact Z)|(apply Zf Za;exact Z)|(apply Ze;(iterate 3 exact Z);(first|with_reducible assumption|(solve|simp only[bn])))|(apply Zw;(iterate 3 exact Z);(first|with_reducible assumption|(solve|simp only[bn])))|(apply YP;exact Z;exact Z;all_goals intro hb)|(apply Zk;exact Z;(first|with_reducible assumption|(solve|simp only[bn]));exact Z;exact Z)|(apply Zi;exact Z;(first|with_reducible assumption|(solve|simp only[bn]));exact Z;exact Z))
 all_goals(apply Zs [];(apply Zc Za;exact Z);(iterate 4 exact Z))
 all_goals first|rfl|(unfold Wp;simp only[*];done)|(unfold Wp;simp only[*];simp only[Bool.and_true,Bool.true_and,Bool.and_false,Bool.false_and];done)
theorem Hi [Known](x:EidV)(t q:Nat):AP Tryd.prog 31 [.agg (iC x t q)] (.bool (decide (IntKind.i64.wrap ((x.h.length:Int)+(x.d.length:Int))>300))) []:=by
 refine AP.ofA (Zl Tryd.func31 Z Tryd.ntmps31 Z Z ?_)
 repeat'(first|(apply Zh Za;exact Z)|(apply Zf Za;exact Z)|refine Va Za Z Z Z Z ?_)
 (apply Zs [];(apply Zc Za;exact Z);(iterate 4 exact Z))
 all_goals rfl
end Go.Proofs.YtmljabhmajehnaaDoor
end
section
open Go.RowKit Go.Pl
namespace Go.Pl
variable {P:Program} {t:TypeId}
theorem OT {α β γ δ ε:Type}{R0:Rep α}{R1:Rep β}{R2:Rep γ}{R3:Rep δ}{R4:Rep ε}{fs:Array Field}{f0 f1 f2 f3 f4:Field}(hs:P.underlying t=some (.struct fs))(hfs:fs = #[f0,f1,f2,f3,f4])
  (h00:f0.offset=0) (h01:f1.offset=R0.n) (h02:f2.offset=R0.n+R1.n) (h03:f3.offset=R0.n+R1.n+R2.n) (h04:f4.offset=R0.n+R1.n+R2.n+R3.n)
  (hc0:P.cellsOf f0.type=R0.n) (hc1:P.cellsOf f1.type=R1.n) (hc2:P.cellsOf f2.type=R2.n) (hc3:P.cellsOf f3.type=R3.n) (hc4:P.cellsOf f4.type=R4.n) (hc:P.cellsOf t=R0.n+(R1.n+(R2.n+(R3.n+R4.n))))
  (h0:YI P f0.type R0) (h1:YI P f1.type R1) (h2:YI P f2.type R2) (h3:YI P f3.type R3) (h4:YI P f4.type R4):YI P t (R0.prod (R1.prod (R2.prod (R3.prod R4)))):=by
 intro H enc W spare held fuel cs y h
 obtain⟨xs,n,_,_,hl,hxl,hg⟩:=DataW.trod_struct hs h
 subst hfs
 have e0:=hg 0 f0 rfl
 have e1:=hg 1 f1 rfl
 have e2:=hg 2 f2 rfl
 have e3:=hg 3 f3 rfl
 have e4:=hg 4 f4 rfl
 rw[h00,hc0,List.drop_zero]at e0
 rw[h01,hc1]at e1
 rw[h02,hc2]at e2
 rw[h03,hc3]at e3
 rw[h04,hc4]at e4
 have hn:xs.length=5:=hxl
 have hx0:xs[0]?=some (xs[0]'(by omega)):=List.getElem?_eq_getElem (by omega)
 have hx1:xs[1]?=some (xs[1]'(by omega)):=List.getElem?_eq_getElem (by omega)
 have hx2:xs[2]?=some (xs[2]'(by omega)):=List.getElem?_eq_getElem (by omega)
 have hx3:xs[3]?=some (xs[3]'(by omega)):=List.getElem?_eq_getElem (by omega)
 have hx4:xs[4]?=some (xs[4]'(by omega)):=List.getElem?_eq_getElem (by omega)
 obtain⟨x0,k0⟩:=h0 H enc W spare held n _ _ (e0.trans hx0)
 obtain⟨x1,k1⟩:=h1 H enc W spare held n _ _ (e1.trans hx1)
 obtain⟨x2,k2⟩:=h2 H enc W spare held n _ _ (e2.trans hx2)
 obtain⟨x3,k3⟩:=h3 H enc W spare held n _ _ (e3.trans hx3)
 obtain⟨x4,k4⟩:=h4 H enc W spare held n _ _ (e4.trans hx4)
 refine⟨(x0,x1,x2,x3,x4),cs.take R0.n,cs.drop R0.n,(List.take_append_drop _ _).symm,k0,(cs.drop R0.n).take R1.n,(cs.drop R0.n).drop R1.n,(List.take_append_drop _ _).symm,k1,
  ((cs.drop R0.n).drop R1.n).take R2.n,((cs.drop R0.n).drop R1.n).drop R2.n,(List.take_append_drop _ _).symm,?_,(((cs.drop R0.n).drop R1.n).drop R2.n).take R3.n,(((cs.drop R0.n).drop R1.n).drop R2.n).drop R3.n,(List.take_append_drop _ _).symm,?_,?_⟩
 ·rw[List.drop_drop];exact k2
 ·rw[List.drop_drop,List.drop_drop,show R0.n+(R1.n+R2.n)=R0.n+R1.n+R2.n from by omega];exact k3
 ·rw[List.drop_drop,List.drop_drop,List.drop_drop,show R0.n+(R1.n+(R2.n+R3.n))=R0.n+R1.n+R2.n+R3.n from by omega]
  rw[List.take_of_length_le (i:=R4.n) (by rw[List.length_drop];omega)]at k4
  exact k4
abbrev RE:Rep (Bool × Nat × Nat × List UInt8 × List UInt8):=Rep.bool.prod (Rep.u64.prod (Rep.u64.prod (Rep.str.prod Rep.str)))
abbrev RI:Rep ((Bool × Nat × Nat × List UInt8 × List UInt8) × Nat × Nat):=RE.prod (Rep.u64.prod Rep.u64)
end Go.Pl
end
section
open Go.RowKit Go.Pl
namespace Go.Proofs.YtmljabhmajehnaaDoor
theorem TK:YI Tryd.prog 24 RE:=
 OT Tryd.underlying24 rfl rfl rfl rfl rfl rfl (by kernel_rfl) (by kernel_rfl) (by kernel_rfl) (by kernel_rfl) (by kernel_rfl) (by kernel_rfl) (O8 Tryd.underlying4) (Wa Tryd.underlying22) (Wa Tryd.underlying22) (Xz Tryd.underlying9) (Xz Tryd.underlying9)
theorem LD:YI Tryd.prog 26 RI:=
 KZ Tryd.underlying26 rfl (by kernel_rfl) rfl rfl rfl (by kernel_rfl) (by kernel_rfl) (by kernel_rfl) TK (Wa Tryd.underlying22) (Wa Tryd.underlying22)
end Go.Proofs.YtmljabhmajehnaaDoor
end
section
open Go.RowKit Go.Pl Go.Av
namespace Go.Proofs.YtmljabhmajehnaaDoor
set_option maxHeartbeats 4000000
theorem KQ:ToE RE (fun x=>.agg [.bool x.1,.int .u64 (x.2.1:Int),.int .u64 (x.2.2.1:Int),.str x.2.2.2.1,.str x.2.2.2.2]):=
 ToE.bool.prod (ToE.u64.prod (ToE.u64.prod (ToE.str.prod ToE.str)))
abbrev XE:=Bool × Nat × Nat × List UInt8 × List UInt8
def XE.v (x:XE):EidV:=⟨x.1,x.2.1,x.2.2.1,x.2.2.2.1,x.2.2.2.2⟩
structure PriV where
 fl:Nat
 sum:Int
 dest:EidV
 rep:EidV
 src:EidV
 t:Nat
 q:Nat
 life:Nat
abbrev prC (p:PriV):List D:=[.int .u64 (p.fl:Int),.int .i64 p.sum,.bool p.dest.i,.int .u64 (p.dest.n:Int),.int .u64 (p.dest.s:Int),.str p.dest.h,.str p.dest.d,.bool p.rep.i,.int .u64 (p.rep.n:Int),.int .u64 (p.rep.s:Int),.str p.rep.h,.str p.rep.d,.bool p.src.i,.int .u64 (p.src.n:Int),.int .u64 (p.src.s:Int),.str p.src.h,.str p.src.d,.int .u64 (p.t:Int),.int .u64 (p.q:Int),.int .u64 (p.life:Int)]
def WJ (p:PriV):Bool:=(bits .andNot .u64 (p.fl:Int) 409638==0)&&(decide (p.sum ≥ 0)&&(decide (p.sum<=2)&&(Yg p.dest&&(Yg p.rep&&(Wp p.src p.t p.q&&decide ((p.life:Int)<=1099511627776))))))
theorem Ki [Known](p:PriV):AP Tryd.prog 50 [.agg (prC p)] (.bool (WJ p)) []:=by
 have hD:=Ve p.dest
 have hR:=Ve p.rep
 have hI:=Kh p.src p.t p.q
 unfold WJ
 generalize Yg p.dest=e1 at *
 generalize Yg p.rep=e2 at *
 generalize Wp p.src p.t p.q=e3 at *
 obtain⟨fl,sum,⟨di,dn,ds,dh,dd⟩,⟨ri,rn,rs,rh,rd⟩,⟨xi,xn,xs,xh,xd⟩,t,q,life⟩:=p
 dsimp only at *
 cases t1:(bits .andNot .u64 (fl:Int) 409638==0) with
 | false=>
  refine AP.ofA (Zl Tryd.func50 Z Tryd.ntmps50 Z Z ?_)
  repeat'(first|(apply Zh Za;exact Z)|(apply Zf Za;exact Z)|refine Zw Z Z Z Qt ?_|refine Zi Z Qt Z Z ?_)
  all_goals exact Qe
 | true=>
 cases t2:decide (sum ≥ 0) with
 | false=>
  refine AP.ofA (Zl Tryd.func50 Z Tryd.ntmps50 Z Z ?_)
  repeat'(first|(apply Zh Za;exact Z)|(apply Zf Za;exact Z)|refine Ze Z Z Z Qt ?_|refine Zw Z Z Z Qt ?_|refine Zk Z Qt Z Z ?_|refine Zi Z Qt Z Z ?_)
  all_goals exact Qe
 | true=>
 cases t3:decide (sum<=2) with
 | false=>
  refine AP.ofA (Zl Tryd.func50 Z Tryd.ntmps50 Z Z ?_)
  repeat'(first|(apply Zh Za;exact Z)|(apply Zf Za;exact Z)|refine Ze Z Z Z Qt ?_|refine Zw Z Z Z Qt ?_|refine Zk Z Qt Z Z ?_|refine Zi Z Qt Z Z ?_)
  all_goals exact Qe
 | true=>
 cases e1
 ·refine AP.ofA ?_
  refine Zl Tryd.func50 rfl Tryd.ntmps50 rfl rfl ?_
  repeat'(first|(apply Zb (hD);kernel_rfl;(iterate 4 exact Z))|(apply Zh Za;exact Z)|(apply Zf Za;exact Z)|refine Ze Z Z Z Qt ?_|refine Zw Z Z Z Qt ?_|refine Zk Z Qt Z Z ?_|refine Zi Z Qt Z Z ?_)
  all_goals exact Qe
 cases e2
 ·refine AP.ofA ?_
  refine Zl Tryd.func50 rfl Tryd.ntmps50 rfl rfl ?_
  repeat'(first|(apply Zb (hD);kernel_rfl;(iterate 4 exact Z))|(apply Zb (hR);kernel_rfl;(iterate 4 exact Z))|(apply Zh Za;exact Z)|(apply Zf Za;exact Z)|refine Ze Z Z Z Qt ?_|refine Zw Z Z Z Qt ?_|refine Zk Z Qt Z Z ?_|refine Zi Z Qt Z Z ?_)
  all_goals exact Qe
 cases e3
 ·refine AP.ofA ?_
  refine Zl Tryd.func50 rfl Tryd.ntmps50 rfl rfl ?_
  repeat'(first|(apply Zb (hD);kernel_rfl;(iterate 4 exact Z))|(apply Zb (hR);kernel_rfl;(iterate 4 exact Z))|(apply Zb (hI);kernel_rfl;(iterate 4 exact Z))|(apply Zh Za;exact Z)|(apply Zf Za;exact Z)|refine Ze Z Z Z Qt ?_|refine Zw Z Z Z Qt ?_|refine Zk Z Qt Z Z ?_|refine Zi Z Qt Z Z ?_)
  all_goals exact Qe
 refine AP.ofA (Zl Tryd.func50 Z Tryd.ntmps50 Z Z ?_)
 repeat'(first|(apply Zb (hD);kernel_rfl;(iterate 4 exact Z))|(apply Zb (hR);kernel_rfl;(iterate 4 exact Z))|(apply Zb (hI);kernel_rfl;(iterate 4 exact Z))|(apply Zh Za;exact Z)|(apply Zf Za;exact Z)|refine Ze Z Z Z Qt ?_|refine Zk Z Qt Z Z ?_)
 all_goals exact Qe
def QR (x:EidV)(t q:Nat):It:=.mk 4 0 [] [YA x,.mk 4 0 [] [.mk 0 t [] [],.mk 0 q [] []]]
theorem WU {x:EidV}{t q:Nat}:Wp x t q=true ↔ Yg x=true/\t<=1099511627776/\q<=1099511627776:=by
 unfold Wp
 simp only[Bool.and_eq_true,decide_eq_true_eq]
 rw[and_assoc]
 exact and_congr Iff.rfl (and_congr (by omega) (by omega))
theorem TL {x:EidV}{t q:Nat}(h:Wp x t q=true):wfI (QR x t q):=by
 obtain⟨h1,h2,h3⟩:=WU.1 h
 have hw:=UG h1
 unfold QR
 generalize YA x=y at *
 simp[wfI,wfs,hw]
 omega
theorem Kj [Known](x:EidV)(t q:Nat):AP Tryd.prog 25 [.agg (iC x t q)] (.tup [itD (if Wp x t q then QR x t q else .mk 0 0 [] []),.int .i64 (if Wp x t q then 0 else 3)]) []:=by
 have hR:=Kh x t q
 cases hr:Wp x t q with
 | false=>
  rw[hr]at hR
  refine AP.ofA (Zl Tryd.func25 Z Tryd.ntmps25 Z Z ?_)
  repeat'(first|(apply Zb (hR);kernel_rfl;(iterate 4 exact Z))|(apply Zh Za;exact Z)|(apply Zf Za;exact Z)|(apply Zt Za;exact Z)|refine Zd Z Qt ?_)
  all_goals exact Qe
 | true=>
  rw[hr]at hR
  rw[if_pos rfl,if_pos rfl]
  obtain⟨h1,h2,h3⟩:=WU.1 hr
  have hE:=Q9 x
  rw[h1,if_pos rfl,if_pos rfl]at hE
  have hw:=UG h1
  have nt:=YL t
  have nq:=YL q
  unfold QR
  generalize YA x=y at *
  have hL1:=Wz [.mk 0 t [] [],.mk 0 q [] []] (by simp) (by simp[wfI,wfs];omega)
  have hL:=Wz [y,.mk 4 0 [] [.mk 0 t [] [],.mk 0 q [] []]] (by simp) (by simp[wfI,wfs,hw];omega)
  obtain⟨k,n,b,l⟩:=y
  replace nt:AP Tryd.prog _ [.int .u64 (t:Int)] (.agg [.int .i64 0,.int .u64 (t:Int),.sl .ext [],.sl .ext []]) []:=nt
  replace nq:AP Tryd.prog _ [.int .u64 (q:Int)] (.agg [.int .i64 0,.int .u64 (q:Int),.sl .ext [],.sl .ext []]) []:=nq
  replace hE:AP Tryd.prog _ [.agg (eC x)] (.tup [.agg [.int .i64 k,.int .u64 (n:Int),byE b,.sl .ext (Zp l)],.int .i64 0]) []:=hE
  replace hL1:AP Tryd.prog _ _ (.agg [.int .i64 4,.int .u64 0,.sl .ext [],.sl .ext [.agg [.int .i64 0,.int .u64 (t:Int),.sl [],.sl []],.agg [.int .i64 0,.int .u64 (q:Int),.sl [],.sl []]]]) []:=hL1
  refine AP.ofA (Zl Tryd.func25 Z Tryd.ntmps25 Z Z ?_)
  repeat'(first|(apply Zb (hR);kernel_rfl;(iterate 4 exact Z))|(apply Zb (hE);kernel_rfl;(iterate 4 exact Z))|(apply Zb (nt);kernel_rfl;(iterate 4 exact Z))|(apply Zb (nq);kernel_rfl;(iterate 4 exact Z))|(apply Zb (hL1);kernel_rfl;(iterate 4 exact Z))|(apply Zb (hL);kernel_rfl;(iterate 4 exact Z))|(apply Zh Za;exact Z)|(apply Zf Za;exact Z)|(apply Zt Za;exact Z)|refine Zg Z Qt ?_|refine ZS Za Z Z Z Z Z Z Z Z Z Z Z Z ?_|(apply Zn 13 ZF;decide +kernel;kernel_rfl;kernel_rfl;kernel_rfl;exact Z;exact Z)|(apply Zr;(iterate 4 exact Z))|exact AE.nil _ _ _ _|(apply Zv;exact Z)|(apply VG;exact Z)|(apply ZA;exact Z;exact Z;decide +kernel;exact Z)|(apply ZB;exact Z)|(apply U4;exact Z)|exact AO.nil _ _ _|(apply Zq;(decide +kernel))|(apply ZY;(iterate 3 exact Z))|exact AOs.nil|exact ZG rfl rfl|exact Y8 rfl rfl rfl rfl rfl|exact V9 rfl)
  all_goals exact Qe
def WK (p:PriV):List It:=[.mk 0 7 [] [],.mk 0 p.fl [] [],.mk 0 p.sum.toNat [] [],YA p.dest,YA p.src,YA p.rep,.mk 4 0 [] [.mk 0 p.t [] [],.mk 0 p.q [] []],.mk 0 p.life [] []]
def Yq (p:PriV):It × Int:=match WJ p with
 | true=>W3 (WK p) 2
 | false=>(z0,3)
theorem V1 {p:PriV}(h:WJ p=true):0<=p.sum/\p.sum<=2/\Yg p.dest=true/\Yg p.rep=true/\Wp p.src p.t p.q=true/\p.life<=1099511627776:=by
 unfold WJ at h
 simp only[Bool.and_eq_true,decide_eq_true_eq]at h
 obtain⟨_,h1,h2,h3,h4,h5,h6⟩:=h
 exact⟨h1,h2,h3,h4,h5,by omega⟩
theorem Ml {p:PriV}(h:WJ p=true)(hfl:p.fl<18446744073709551616):wfs (WK p):=by
 obtain⟨h1,h2,h3,h4,h5,h6⟩:=V1 h
 obtain⟨i1,i2,i3⟩:=WU.1 h5
 refine⟨?_,?_,?_,UG h3,UG i1,UG h4,?_,?_,trivial⟩
 all_goals first|(simp[wfI,wfs];done)|(simp[wfI,wfs];omega)
theorem Hj [Known][KnownU8](p:PriV)(hfl:p.fl<18446744073709551616)(hlim:∀ s,s=1\/s=2->(ZM (ZU s (WK p))).length<=1000000000):AP Tryd.prog 36 [.agg (prC p)] (QO (Yq p)) []:=by
 have hR:=Ki p
 unfold Yq
 cases hr:WJ p with
 | false=>
  rw[hr]at hR
  obtain⟨fl,sum,⟨di,dn,ds,dh,dd⟩,⟨ri,rn,rs,rh,rd⟩,⟨xi,xn,xs,xh,xd⟩,t,q,life⟩:=p
  dsimp only[z0]at *
  refine AP.ofA (Zl Tryd.func36 Z Tryd.ntmps36 Z Z ?_)
  repeat'(first|(apply Zb (hR);kernel_rfl;(iterate 4 exact Z))|(apply Zh Za;exact Z)|(apply Zf Za;exact Z)|(apply Zt Za;exact Z)|refine Zd Z Qt ?_)
  all_goals exact Qe
 | true=>
  rw[hr]at hR
  obtain⟨h1,h2,h3,h4,h5,h6⟩:=V1 hr
  have hS:=Gl (WK p) 2 (Ml hr hfl) (by simp[WK]) hlim
  have hD:=Q9 p.dest
  have hP:=Q9 p.rep
  have hI:=Kj p.src p.t p.q
  rw[if_pos h3,if_pos h3]at hD
  rw[if_pos h4,if_pos h4]at hP
  rw[if_pos h5,if_pos h5]at hI
  have hN:=YL 7
  have hF:=YL p.fl
  have hM:=YL p.sum.toNat
  have hL:=YL p.life
  dsimp only
  generalize W3 (WK p) 2=r at *
  unfold WK at hS
  unfold QR at hI
  obtain⟨fl,sum,⟨di,dn,ds,dh,dd⟩,⟨ri,rn,rs,rh,rd⟩,⟨xi,xn,xs,xh,xd⟩,t,q,life⟩:=p
  dsimp only at *
  generalize YA ⟨di,dn,ds,dh,dd⟩=I1 at *
  generalize YA ⟨ri,rn,rs,rh,rd⟩=I2 at *
  generalize YA ⟨xi,xn,xs,xh,xd⟩=I3 at *
  obtain⟨ak,an,ab,al⟩:=I1
  obtain⟨bk,bn,bb,bl⟩:=I2
  obtain⟨ck,cn,cb,cl⟩:=I3
  obtain⟨⟨k,n,b,l⟩,e⟩:=r
  have es:IntKind.u64.wrap sum=((sum.toNat:Nat):Int):=by rw[IntWalk.u64_in _ (by omega)];omega
  have hU:=YV [It.mk ck cn cb cl,.mk 4 0 [] [.mk 0 t [] [],.mk 0 q [] []]]
  have hv0:(Zp [It.mk ck cn cb cl,.mk 4 0 [] [.mk 0 t [] [],.mk 0 q [] []]])[(0:Int).toNat]?=some (.agg [.int .i64 ck,.int .u64 (cn:Int),.sl (cb.map E.byte),.sl (Zp cl)]):=rfl
  have hv1:(Zp [It.mk ck cn cb cl,.mk 4 0 [] [.mk 0 t [] [],.mk 0 q [] []]])[(1:Int).toNat]?=some (.agg [.int .i64 4,.int .u64 0,.sl [],.sl [nmE t,nmE q]]):=rfl
  generalize hLe:Zp [It.mk ck cn cb cl,.mk 4 0 [] [.mk 0 t [] [],.mk 0 q [] []]]=LL at *
  replace hI:AP Tryd.prog 25 [.agg (iC ⟨xi,xn,xs,xh,xd⟩ t q)] (.tup [.agg [.int .i64 4,.int .u64 0,.sl .ext [],.sl .ext LL],.int .i64 0]) []:=by rw[<- hLe];exact hI
  replace hS:AP Tryd.prog 51 [.sl .ext [nmE 7,nmE fl,nmE sum.toNat,.agg [.int .i64 ak,.int .u64 (an:Int),.sl (ab.map E.byte),.sl (Zp al)],.agg [.int .i64 ck,.int .u64 (cn:Int),.sl (cb.map E.byte),.sl (Zp cl)],.agg [.int .i64 bk,.int .u64 (bn:Int),.sl (bb.map E.byte),.sl (Zp bl)],.agg [.int .i64 4,.int .u64 0,.sl [],.sl [nmE t,nmE q]],nmE life],.int .i64 2] (QO (.mk k n b l,e)) []:=hS
  refine AP.ofA (Zl Tryd.func36 Z Tryd.ntmps36 Z Z ?_)
  repeat'(first|(apply Zb (hR);kernel_rfl;(iterate 4 exact Z))|rw[es]|(apply Zb (hD);kernel_rfl;(iterate 4 exact Z))|(apply Zb (hP);kernel_rfl;(iterate 4 exact Z))|(apply Zb (hI);kernel_rfl;(iterate 4 exact Z))|(apply Zb (hN);kernel_rfl;(iterate 4 exact Z))|(apply Zb (hF);kernel_rfl;(iterate 4 exact Z))|(apply Zb (hM);kernel_rfl;(iterate 4 exact Z))|(apply Zb (hL);kernel_rfl;(iterate 4 exact Z))|(apply Zb (hS);kernel_rfl;(iterate 4 exact Z))|(apply Zh Za;exact Z)|(apply Zf Za;exact Z)|(apply Zt Za;exact Z)|refine Zg Z Qt ?_|refine ZS Za Z Z Z Z Z Z Z Z Z Z Z Z ?_|(apply Zn 21 ZF;decide +kernel;kernel_rfl;kernel_rfl;kernel_rfl;exact Z;exact Z)|(apply Zr;(iterate 4 exact Z))|exact AE.nil _ _ _ _|(apply Zv;exact Z)|(apply ZA;exact Z;exact Z;decide +kernel;exact Z)|(apply ZB;exact Z)|exact AO.nil _ _ _|(apply Zq;(decide +kernel))|exact AOs.nil|exact ZG rfl rfl|(apply Zu Za;(iterate 6 exact Z);(first|exact Qt|rotate_left);(first|with_reducible assumption|decide +kernel|exact Z);(first|exact Zj rfl|with_reducible assumption|decide +kernel|rotate_left)))
  all_goals exact Qe
theorem Re [Known][KnownU8](k:Int)(n:Nat)(b:List UInt8)(xl:List E)(L:List E)(e:Int)
  (hO:AP Tryd.prog 40 [.agg [.int .i64 k,.int .u64 (n:Int),byE b,.sl .ext xl],.int .i64 2] (.tup [.sl .ext L,.int .i64 e]) []) (t1:(e != 0)=true) :
  AP Tryd.prog 22 [.agg [.int .i64 k,.int .u64 (n:Int),byE b,.sl .ext xl]] (.tup [.agg [.int .u64 0,.int .i64 0,.bool false,.int .u64 0,.int .u64 0,.str [],.str [],.bool false,.int .u64 0,.int .u64 0,.str [],.str [],.bool false,.int .u64 0,.int .u64 0,.str [],.str [],.int .u64 0,.int .u64 0,.int .u64 0],.int .i64 e]) []:=by
 refine AP.ofA (Zl Tryd.func22 Z Tryd.ntmps22 Z Z ?_)
 repeat'(first|(apply Zb (hO);kernel_rfl;(iterate 4 exact Z))|(apply Zh Za;exact Z)|(apply Zf Za;exact Z)|(apply Zt Za;exact Z)|refine Zd Z Qt ?_)
 all_goals exact Qe
theorem Rf [Known][KnownU8](k:Int)(n:Nat)(b:List UInt8)(xl:List E)(L:List E)(e:Int)
  (hO:AP Tryd.prog 40 [.agg [.int .i64 k,.int .u64 (n:Int),byE b,.sl .ext xl],.int .i64 2] (.tup [.sl .ext L,.int .i64 e]) []) (t1:(e != 0)=false) (t2:((L.length:Int) != 8)=true) :
  AP Tryd.prog 22 [.agg [.int .i64 k,.int .u64 (n:Int),byE b,.sl .ext xl]] (.tup [.agg [.int .u64 0,.int .i64 0,.bool false,.int .u64 0,.int .u64 0,.str [],.str [],.bool false,.int .u64 0,.int .u64 0,.str [],.str [],.bool false,.int .u64 0,.int .u64 0,.str [],.str [],.int .u64 0,.int .u64 0,.int .u64 0],.int .i64 3]) []:=by
 refine AP.ofA (Zl Tryd.func22 Z Tryd.ntmps22 Z Z ?_)
 repeat'(first|(apply Zb (hO);kernel_rfl;(iterate 4 exact Z))|(apply Zh Za;exact Z)|(apply Zf Za;exact Z)|(apply Zt Za;exact Z)|refine Zd Z Qt ?_|refine Zg Z Qt ?_|refine Zm Za Z Z Z Z ?_)
 all_goals exact Qe
theorem Ja [Known][KnownU8](k:Int)(n:Nat)(b:List UInt8)(xl:List E)(L:List E)(e:Int)(k0:Int)(n0:Nat)(b0:List UInt8)(l0:List It)(k1:Int)(n1:Nat)(b1:List UInt8)(l1:List It)(k2:Int)(n2:Nat)(b2:List UInt8)(l2:List It)(k3:Int)(n3:Nat)(b3:List UInt8)(l3:List It)(k4:Int)(n4:Nat)(b4:List UInt8)(l4:List It)(k5:Int)(n5:Nat)(b5:List UInt8)(l5:List It)(k6:Int)(n6:Nat)(b6:List UInt8)(l6:List It)(k7:Int)(n7:Nat)(b7:List UInt8)(l7:List It)(di:Bool)(dn ds:Nat)(dh dd:List UInt8)(ri:Bool)(rn rs:Nat)(rh rd:List UInt8)(ui:Bool)(un us:Nat)(uh ud:List UInt8)(ut uq:Nat)(de re ie we:Int)(wk:Int)(wn:Nat)(wb:List UInt8)(wl:List E)(s:Bool)(hO:AP Tryd.prog 40 [.agg [.int .i64 k,.int .u64 (n:Int),byE b,.sl .ext xl],.int .i64 2] (.tup [.sl .ext L,.int .i64 e]) [])(t1:(e != 0)=false)(t2:((L.length:Int) != 8)=false)(hU:Uni 4 L)(hv1:L[(1:Int).toNat]?=some (.agg [.int .i64 k1,.int .u64 (n1:Int),.sl (b1.map E.byte),.sl (Zp l1)]))(hv2:L[(2:Int).toNat]?=some (.agg [.int .i64 k2,.int .u64 (n2:Int),.sl (b2.map E.byte),.sl (Zp l2)]))(hv3:L[(3:Int).toNat]?=some (.agg [.int .i64 k3,.int .u64 (n3:Int),.sl (b3.map E.byte),.sl (Zp l3)]))(hv4:L[(4:Int).toNat]?=some (.agg [.int .i64 k4,.int .u64 (n4:Int),.sl (b4.map E.byte),.sl (Zp l4)]))(hv5:L[(5:Int).toNat]?=some (.agg [.int .i64 k5,.int .u64 (n5:Int),.sl (b5.map E.byte),.sl (Zp l5)]))(hv6:L[(6:Int).toNat]?=some (.agg [.int .i64 k6,.int .u64 (n6:Int),.sl (b6.map E.byte),.sl (Zp l6)]))(hv7:L[(7:Int).toNat]?=some (.agg [.int .i64 k7,.int .u64 (n7:Int),.sl (b7.map E.byte),.sl (Zp l7)]))(hD:AP Tryd.prog 41 [.agg [.int .i64 k3,.int .u64 (n3:Int),.sl .ext (b3.map E.byte),.sl .ext (Zp l3)]] (.tup [.agg [.bool di,.int .u64 (dn:Int),.int .u64 (ds:Int),.str dh,.str dd],.int .i64 de]) [])(hR:AP Tryd.prog 41 [.agg [.int .i64 k5,.int .u64 (n5:Int),.sl .ext (b5.map E.byte),.sl .ext (Zp l5)]] (.tup [.agg [.bool ri,.int .u64 (rn:Int),.int .u64 (rs:Int),.str rh,.str rd],.int .i64 re]) [])(hL:AP Tryd.prog 28 [.sl .ext [.agg [.int .i64 k4,.int .u64 (n4:Int),.sl (b4.map E.byte),.sl (Zp l4)],.agg [.int .i64 k6,.int .u64 (n6:Int),.sl (b6.map E.byte),.sl (Zp l6)]]] (.agg [.int .i64 4,.int .u64 0,.sl .ext [],.sl .ext [.agg [.int .i64 k4,.int .u64 (n4:Int),.sl (b4.map E.byte),.sl (Zp l4)],.agg [.int .i64 k6,.int .u64 (n6:Int),.sl (b6.map E.byte),.sl (Zp l6)]]]) [])(hI:AP Tryd.prog 32 [.agg [.int .i64 4,.int .u64 0,.sl .ext [],.sl .ext [.agg [.int .i64 k4,.int .u64 (n4:Int),.sl (b4.map E.byte),.sl (Zp l4)],.agg [.int .i64 k6,.int .u64 (n6:Int),.sl (b6.map E.byte),.sl (Zp l6)]]]] (.tup [.agg [.bool ui,.int .u64 (un:Int),.int .u64 (us:Int),.str uh,.str ud,.int .u64 (ut:Int),.int .u64 (uq:Int)],.int .i64 ie]) [])(hW:AP Tryd.prog 36 [.agg [.int .u64 (n1:Int),.int .i64 (IntKind.i64.wrap (n2:Int)),.bool di,.int .u64 (dn:Int),.int .u64 (ds:Int),.str dh,.str dd,.bool ri,.int .u64 (rn:Int),.int .u64 (rs:Int),.str rh,.str rd,.bool ui,.int .u64 (un:Int),.int .u64 (us:Int),.str uh,.str ud,.int .u64 (ut:Int),.int .u64 (uq:Int),.int .u64 (n7:Int)]] (.tup [.agg [.int .i64 wk,.int .u64 (wn:Int),byE wb,.sl .ext wl],.int .i64 we]) [])(hS:AP Tryd.prog 42 [.agg [.int .i64 wk,.int .u64 (wn:Int),byE wb,.sl .ext wl],.agg [.int .i64 k,.int .u64 (n:Int),byE b,.sl .ext xl]] (.bool s) []) :
  (∀(c1:(de != 0)=true),
  AP Tryd.prog 22 [.agg [.int .i64 k,.int .u64 (n:Int),byE b,.sl .ext xl]] (.tup [.agg [.int .u64 0,.int .i64 0,.bool false,.int .u64 0,.int .u64 0,.str [],.str [],.bool false,.int .u64 0,.int .u64 0,.str [],.str [],.bool false,.int .u64 0,.int .u64 0,.str [],.str [],.int .u64 0,.int .u64 0,.int .u64 0],.int .i64 3]) []) /\
  (∀(c1:(de != 0)=false) (c2:(re != 0)=true),
  AP Tryd.prog 22 [.agg [.int .i64 k,.int .u64 (n:Int),byE b,.sl .ext xl]] (.tup [.agg [.int .u64 0,.int .i64 0,.bool false,.int .u64 0,.int .u64 0,.str [],.str [],.bool false,.int .u64 0,.int .u64 0,.str [],.str [],.bool false,.int .u64 0,.int .u64 0,.str [],.str [],.int .u64 0,.int .u64 0,.int .u64 0],.int .i64 3]) []) /\
  (∀(c1:(de != 0)=false) (c2:(re != 0)=false) (c3:(ie != 0)=true),
  AP Tryd.prog 22 [.agg [.int .i64 k,.int .u64 (n:Int),byE b,.sl .ext xl]] (.tup [.agg [.int .u64 0,.int .i64 0,.bool false,.int .u64 0,.int .u64 0,.str [],.str [],.bool false,.int .u64 0,.int .u64 0,.str [],.str [],.bool false,.int .u64 0,.int .u64 0,.str [],.str [],.int .u64 0,.int .u64 0,.int .u64 0],.int .i64 3]) []):=by
 refine⟨fun c1=>?_,fun c1 c2=>?_,fun c1 c2 c3=>?_⟩
 all_goals
  refine AP.ofA (Zl Tryd.func22 Z Tryd.ntmps22 Z Z ?_)
  repeat'(first|(apply Zb (hO);kernel_rfl;(iterate 4 exact Z))|(apply Zb (hD);kernel_rfl;(iterate 4 exact Z))|(apply Zb (hR);kernel_rfl;(iterate 4 exact Z))|(apply Zb (hL);kernel_rfl;(iterate 4 exact Z))|(apply Zb (hI);kernel_rfl;(iterate 4 exact Z))|(apply Zb (hW);kernel_rfl;(iterate 4 exact Z))|(apply Zh Za;exact Z)|(apply Zf Za;exact Z)|(apply Zt Za;exact Z)|refine Ze Z Z Z Qt ?_|refine Zo Z Z Z Qt ?_|refine Zk Z Qt Z Z ?_|refine Zi Z Qt Z Z ?_|refine Zd Z Qt ?_|refine Zg Z Qt ?_|refine Zm Za Z Z Z Z ?_|refine ZS Za Z Z Z Z Z Z Z Z Z Z Z Z ?_|(apply Zn 14 ZF;decide +kernel;kernel_rfl;kernel_rfl;kernel_rfl;exact Z;exact Z)|(apply Zn 18 ZF;decide +kernel;kernel_rfl;kernel_rfl;kernel_rfl;exact Z;exact Z)|(apply Zr;(iterate 4 exact Z))|exact AE.nil _ _ _ _|(apply Zv;exact Z)|(apply Yb;exact Z)|(apply VG;exact Z)|(apply ZA;exact Z;exact Z;decide +kernel;exact Z)|(apply ZB;exact Z)|(apply Yv;exact Z)|(apply U4;exact Z)|exact AO.nil _ _ _|(apply Zq;(decide +kernel))|(apply ZY;(iterate 3 exact Z))|exact AOs.nil|exact ZG rfl rfl|exact Y8 rfl rfl rfl rfl rfl|exact YK rfl rfl|exact V9 rfl|(apply Zu Za;(iterate 6 exact Z);(first|exact Qt|rotate_left);(first|with_reducible assumption|decide +kernel|exact Z);(first|exact Zj rfl|with_reducible assumption|decide +kernel|rotate_left)))
  all_goals(apply Zs [];(apply Zc Za;exact Z);(iterate 4 exact Z))
  all_goals first|rfl|(exfalso;simp_all;done)
theorem Jb [Known][KnownU8](k:Int)(n:Nat)(b:List UInt8)(xl:List E)(L:List E)(e:Int)(k0:Int)(n0:Nat)(b0:List UInt8)(l0:List It)(k1:Int)(n1:Nat)(b1:List UInt8)(l1:List It)(k2:Int)(n2:Nat)(b2:List UInt8)(l2:List It)(k3:Int)(n3:Nat)(b3:List UInt8)(l3:List It)(k4:Int)(n4:Nat)(b4:List UInt8)(l4:List It)(k5:Int)(n5:Nat)(b5:List UInt8)(l5:List It)(k6:Int)(n6:Nat)(b6:List UInt8)(l6:List It)(k7:Int)(n7:Nat)(b7:List UInt8)(l7:List It)(di:Bool)(dn ds:Nat)(dh dd:List UInt8)(ri:Bool)(rn rs:Nat)(rh rd:List UInt8)(ui:Bool)(un us:Nat)(uh ud:List UInt8)(ut uq:Nat)(de re ie we:Int)(wk:Int)(wn:Nat)(wb:List UInt8)(wl:List E)(s:Bool)(hO:AP Tryd.prog 40 [.agg [.int .i64 k,.int .u64 (n:Int),byE b,.sl .ext xl],.int .i64 2] (.tup [.sl .ext L,.int .i64 e]) [])(t1:(e != 0)=false)(t2:((L.length:Int) != 8)=false)(hU:Uni 4 L)(hv1:L[(1:Int).toNat]?=some (.agg [.int .i64 k1,.int .u64 (n1:Int),.sl (b1.map E.byte),.sl (Zp l1)]))(hv2:L[(2:Int).toNat]?=some (.agg [.int .i64 k2,.int .u64 (n2:Int),.sl (b2.map E.byte),.sl (Zp l2)]))(hv3:L[(3:Int).toNat]?=some (.agg [.int .i64 k3,.int .u64 (n3:Int),.sl (b3.map E.byte),.sl (Zp l3)]))(hv4:L[(4:Int).toNat]?=some (.agg [.int .i64 k4,.int .u64 (n4:Int),.sl (b4.map E.byte),.sl (Zp l4)]))(hv5:L[(5:Int).toNat]?=some (.agg [.int .i64 k5,.int .u64 (n5:Int),.sl (b5.map E.byte),.sl (Zp l5)]))(hv6:L[(6:Int).toNat]?=some (.agg [.int .i64 k6,.int .u64 (n6:Int),.sl (b6.map E.byte),.sl (Zp l6)]))(hv7:L[(7:Int).toNat]?=some (.agg [.int .i64 k7,.int .u64 (n7:Int),.sl (b7.map E.byte),.sl (Zp l7)]))(hD:AP Tryd.prog 41 [.agg [.int .i64 k3,.int .u64 (n3:Int),.sl .ext (b3.map E.byte),.sl .ext (Zp l3)]] (.tup [.agg [.bool di,.int .u64 (dn:Int),.int .u64 (ds:Int),.str dh,.str dd],.int .i64 de]) [])(hR:AP Tryd.prog 41 [.agg [.int .i64 k5,.int .u64 (n5:Int),.sl .ext (b5.map E.byte),.sl .ext (Zp l5)]] (.tup [.agg [.bool ri,.int .u64 (rn:Int),.int .u64 (rs:Int),.str rh,.str rd],.int .i64 re]) [])(hL:AP Tryd.prog 28 [.sl .ext [.agg [.int .i64 k4,.int .u64 (n4:Int),.sl (b4.map E.byte),.sl (Zp l4)],.agg [.int .i64 k6,.int .u64 (n6:Int),.sl (b6.map E.byte),.sl (Zp l6)]]] (.agg [.int .i64 4,.int .u64 0,.sl .ext [],.sl .ext [.agg [.int .i64 k4,.int .u64 (n4:Int),.sl (b4.map E.byte),.sl (Zp l4)],.agg [.int .i64 k6,.int .u64 (n6:Int),.sl (b6.map E.byte),.sl (Zp l6)]]]) [])(hI:AP Tryd.prog 32 [.agg [.int .i64 4,.int .u64 0,.sl .ext [],.sl .ext [.agg [.int .i64 k4,.int .u64 (n4:Int),.sl (b4.map E.byte),.sl (Zp l4)],.agg [.int .i64 k6,.int .u64 (n6:Int),.sl (b6.map E.byte),.sl (Zp l6)]]]] (.tup [.agg [.bool ui,.int .u64 (un:Int),.int .u64 (us:Int),.str uh,.str ud,.int .u64 (ut:Int),.int .u64 (uq:Int)],.int .i64 ie]) [])(hW:AP Tryd.prog 36 [.agg [.int .u64 (n1:Int),.int .i64 (IntKind.i64.wrap (n2:Int)),.bool di,.int .u64 (dn:Int),.int .u64 (ds:Int),.str dh,.str dd,.bool ri,.int .u64 (rn:Int),.int .u64 (rs:Int),.str rh,.str rd,.bool ui,.int .u64 (un:Int),.int .u64 (us:Int),.str uh,.str ud,.int .u64 (ut:Int),.int .u64 (uq:Int),.int .u64 (n7:Int)]] (.tup [.agg [.int .i64 wk,.int .u64 (wn:Int),byE wb,.sl .ext wl],.int .i64 we]) [])(hS:AP Tryd.prog 42 [.agg [.int .i64 wk,.int .u64 (wn:Int),byE wb,.sl .ext wl],.agg [.int .i64 k,.int .u64 (n:Int),byE b,.sl .ext xl]] (.bool s) [])(c1:(de != 0)=false)(c2:(re != 0)=false)(c3:(ie != 0)=false) :
  (∀(c4:(we != 0)=true),
  AP Tryd.prog 22 [.agg [.int .i64 k,.int .u64 (n:Int),byE b,.sl .ext xl]] (.tup [.agg [.int .u64 0,.int .i64 0,.bool false,.int .u64 0,.int .u64 0,.str [],.str [],.bool false,.int .u64 0,.int .u64 0,.str [],.str [],.bool false,.int .u64 0,.int .u64 0,.str [],.str [],.int .u64 0,.int .u64 0,.int .u64 0],.int .i64 3]) []) /\
  (∀(c4:(we != 0)=false) (hSn:AP Tryd.prog 42 [.agg [.int .i64 wk,.int .u64 (wn:Int),byE wb,.sl .ext wl],.agg [.int .i64 k,.int .u64 (n:Int),byE b,.sl .ext xl]] (.bool false) []),
  AP Tryd.prog 22 [.agg [.int .i64 k,.int .u64 (n:Int),byE b,.sl .ext xl]] (.tup [.agg [.int .u64 0,.int .i64 0,.bool false,.int .u64 0,.int .u64 0,.str [],.str [],.bool false,.int .u64 0,.int .u64 0,.str [],.str [],.bool false,.int .u64 0,.int .u64 0,.str [],.str [],.int .u64 0,.int .u64 0,.int .u64 0],.int .i64 3]) []) /\
  (∀(c4:(we != 0)=false) (hSn:AP Tryd.prog 42 [.agg [.int .i64 wk,.int .u64 (wn:Int),byE wb,.sl .ext wl],.agg [.int .i64 k,.int .u64 (n:Int),byE b,.sl .ext xl]] (.bool true) []),
  AP Tryd.prog 22 [.agg [.int .i64 k,.int .u64 (n:Int),byE b,.sl .ext xl]] (.tup [.agg [.int .u64 (n1:Int),.int .i64 (IntKind.i64.wrap (n2:Int)),.bool di,.int .u64 (dn:Int),.int .u64 (ds:Int),.str dh,.str dd,.bool ri,.int .u64 (rn:Int),.int .u64 (rs:Int),.str rh,.str rd,.bool ui,.int .u64 (un:Int),.int .u64 (us:Int),.str uh,.str ud,.int .u64 (ut:Int),.int .u64 (uq:Int),.int .u64 (n7:Int)],.int .i64 0]) []):=by
 refine⟨fun c4=>?_,fun c4 hSn=>?_,fun c4 hSn=>?_⟩
 all_goals
  refine AP.ofA (Zl Tryd.func22 Z Tryd.ntmps22 Z Z ?_)
  repeat'(first|(apply Zb (hO);kernel_rfl;(iterate 4 exact Z))|(apply Zb (hD);kernel_rfl;(iterate 4 exact Z))|(apply Zb (hR);kernel_rfl;(iterate 4 exact Z))|(apply Zb (hL);kernel_rfl;(iterate 4 exact Z))|(apply Zb (hI);kernel_rfl;(iterate 4 exact Z))|(apply Zb (hW);kernel_rfl;(iterate 4 exact Z))|(apply Zb (hSn);kernel_rfl;(iterate 4 exact Z))|(apply Zh Za;exact Z)|(apply Zf Za;exact Z)|(apply Zt Za;exact Z)|refine Ze Z Z Z Qt ?_|refine Zo Z Z Z Qt ?_|refine Zk Z Qt Z Z ?_|refine Zi Z Qt Z Z ?_|refine Zd Z Qt ?_|refine Zg Z Qt ?_|refine Zm Za Z Z Z Z ?_|refine ZS Za Z Z Z Z Z Z Z Z Z Z Z Z ?_|(apply Zn 14 ZF;decide +kernel;kernel_rfl;kernel_rfl;kernel_rfl;exact Z;exact Z)|(apply Zn 18 ZF;decide +kernel;kernel_rfl;kernel_rfl;kernel_rfl;exact Z;exact Z)|(apply Zr;(iterate 4 exact Z))|exact AE.nil _ _ _ _|(apply Zv;exact Z)|(apply Yb;exact Z)|(apply VG;exact Z)|(apply ZA;exact Z;exact Z;decide +kernel;exact Z)|(apply ZB;exact Z)|(apply Yv;exact Z)|(apply U4;exact Z)|exact AO.nil _ _ _|(apply Zq;(decide +kernel))|(apply ZY;(iterate 3 exact Z))|exact AOs.nil|exact ZG rfl rfl|exact Y8 rfl rfl rfl rfl rfl|exact YK rfl rfl|exact V9 rfl|(apply Zu Za;(iterate 6 exact Z);(first|exact Qt|rotate_left);(first|with_reducible assumption|decide +kernel|exact Z);(first|exact Zj rfl|with_reducible assumption|decide +kernel|rotate_left)))
  all_goals(apply Zs [];(apply Zc Za;exact Z);(iterate 4 exact Z))
  all_goals first|rfl|(exfalso;simp_all;done)
end Go.Proofs.YtmljabhmajehnaaDoor
end
