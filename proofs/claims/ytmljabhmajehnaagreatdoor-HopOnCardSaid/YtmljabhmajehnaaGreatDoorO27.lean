/- A name's item, read back: plain laws, no program in sight. -/
import Derived.Test.YtmljabhmajehnaaGreatDoorO25
import Derived.Test.YtmljabhmajehnaaGreatDoorO22
import Derived.Test.YtmljabhmajehnaaGreatDoorO26
import Derived.Test.YtmljabhmajehnaaGreatDoorO14
import Derived.Test.YtmljabhmajehnaaGreatDoorO21
import Derived.Test.YtmljabhmajehnaaGreatDoorO01
import Derived.Test.YtmljabhmajehnaaGreatDoorO07
import Derived.Test.YtmljabhmajehnaaGreatDoorProg
import Derived.Test.YtmljabhmajehnaaGreatDoorO13
set_option linter.unusedVariables false
set_option linter.unusedSimpArgs false
section
open Go.RowKit Go.Pl Go.Av
namespace Go.Proofs.YtmljabhmajehnaaGreatDoor
set_option maxHeartbeats 4000000
theorem L5 {x:EidV}(h:ZE x=true)(hz:isZ x=false)(hi:x.i=false):ppV (Y5 x)=(x,true):=by
 obtain⟨b1,b2,b3,b4,b5,b6,b7⟩:=Y6 h hz hi
 have e1:Y5 x=[47,47]++(x.h++47::x.d):=by simp[Y5]
 rw[e1]
 unfold ppV
 rw[QO]
 dsimp only
 rw[Uj (JD b6 (by decide))]
 dsimp only
 have ex:(⟨false,0,0,x.h,x.d⟩:EidV)=x:=by
  obtain⟨i,n,s,hh,d⟩:=x
  simp only at hi b1 b2
  rw[hi,b1,b2]
 rw[ex,h]
 have:(x.h != [])=true:=by
  rw[bne_iff_ne]
  intro e
  rw[e]at b3
  simp at b3
 rw[this]
 rfl
theorem W7 {x:EidV}(h:ZE x=true):wfI (ZW x):=by
 unfold ZW
 cases hz:isZ x with
 | true=>rw[if_pos rfl];simp[wfI,wfs]
 | false=>
  rw[if_neg (by simp)]
  cases hi:x.i with
  | true=>
   obtain⟨b1,b2,b3,b4,b5⟩:=Wx h hz hi
   rw[if_pos rfl]
   simp[wfI,wfs]
   omega
  | false=>
   obtain⟨b1,b2,b3,b4,b5,b6,b7⟩:=Y6 h hz hi
   rw[if_neg (by simp)]
   simp[wfI,wfs,Y5]
   omega
theorem G5 {x:EidV}(h:ZE x=true)(hr:ZB (ZW x)=true):Z5 (ZW x)=(x,true):=by
 unfold Z5
 rw[hr]
 unfold ZW
 cases hz:isZ x with
 | true=>
  rw[if_pos rfl,Vx.1 hz]
  rfl
 | false=>
  rw[if_neg (by simp)]
  cases hi:x.i with
  | true=>
   obtain⟨b1,b2,b3,b4,b5⟩:=Wx h hz hi
   rw[if_pos rfl]
   dsimp only
   rw[if_pos rfl]
   have ex:(⟨true,x.n,x.s,[],[]⟩:EidV)=x:=by
    obtain⟨i,n,s,hh,d⟩:=x
    simp only at hi b3 b4
    rw[hi,b3,b4]
   have e1:W0 1 (.mk 0 2 [] [])=false:=rfl
   have e2:W0 2 (.mk 0 2 [] [])=true:=rfl
   have e3:∀ n,W0 n (.mk 0 n [] [])=true:=fun n=>It.beq_iff.2 rfl
   have e4:UQ (.mk 4 0 [] [.mk 0 x.n [] [],.mk 0 x.s [] []])=some (x.n,x.s):=by
    unfold UQ
    dsimp only
    rw[if_pos rfl]
    simp only[It.n,e3,Bool.and_self]
   unfold Qm
   rw[e1,e2,e4]
   dsimp only
   rw[ex,h]
  | false=>
   rw[if_neg (by simp)]
   dsimp only
   rw[if_pos rfl]
   have e1:W0 1 (.mk 0 1 [] [])=true:=rfl
   have e2:W0 0 (.mk 3 0 (Y5 x) [])=false:=rfl
   unfold Qm
   rw[e1,e2]
   exact L5 h hz hi
theorem Nv {m:Nat}(hm:m<128){c:UInt8}(h:okB m c=true):c.toNat<128:=by
 simp only[okB,Bool.or_eq_true,Bool.and_eq_true,decide_eq_true_eq,beq_iff_eq]at h
 omega
theorem Vh {x:EidV}(h:ZE x=true):ZB (ZW x)=true:=by
 unfold ZW
 cases hz:isZ x with
 | true=>rw[if_pos rfl];rfl
 | false=>
  rw[if_neg (by simp)]
  cases hi:x.i with
  | true=>rw[if_pos rfl];simp[ZB,Y2,YB,Wb]
  | false=>
   obtain⟨b1,b2,b3,b4,b5,b6,b7⟩:=Y6 h hz hi
   rw[if_neg (by simp)]
   have hv:ZM (Y5 x)=true:=by
    rw[Ww (Y5 x).length (Y5 x) (Nat.le_refl _) fun c hc=>?_,List.drop_length]
    ·rfl
    ·rw[List.take_length]at hc
     simp only[Y5,List.mem_append,List.mem_cons,List.not_mem_nil,or_false]at hc
     rcases hc with((hc|hc)|hc)|hc
     ·rcases hc with hc|hc<;>rw[hc]<;>decide
     ·exact Nv (by decide) (List.all_eq_true.1 b6 c hc)
     ·rw[hc];decide
     ·exact Nv (by decide) (List.all_eq_true.1 b7 c hc)
   simp[ZB,Y2,YB,Wb,hv]
theorem G6 (b:BlkV):JE b b=true:=by
 obtain⟨ty,num,fl,sum,data⟩:=b
 simp[JE]
theorem Nw {kind ZQ:Nat}{sum:Int}{x:It}{e:Int}{p:BlkV}(h:ofV kind ZQ sum x e=(p,0)):e=0/\ZB x=true/\ZH p=true/\p=⟨kind,ZQ,0,sum,ZN x⟩:=by
 unfold ofV at h
 cases d0:(e != 0) with
 | true=>rw[d0]at h;simp at h
 | false=>
 rw[d0]at h
 dsimp only at h
 cases d1:ZB x with
 | false=>rw[d1]at h;simp at h
 | true=>
 rw[d1]at h
 dsimp only at h
 cases d2:ZH ⟨kind,ZQ,0,sum,ZN x⟩ with
 | false=>rw[d2]at h;simp at h
 | true=>
  rw[d2]at h
  simp only[Prod.mk.injEq,and_true]at h
  subst h
  exact⟨by simpa[bne]using d0,rfl,d2,rfl⟩
theorem L6 {kind ZQ:Nat}{sum:Int}{x:It}{e:Int}:(ofV kind ZQ sum x e).2=0\/ofV kind ZQ sum x e=(bk0,3):=by
 unfold ofV
 repeat' split
 all_goals first|exact .inl rfl|exact .inr rfl
theorem Tm {n:Nat}(h:n<18446744073709551616):wfI (.mk 0 n [] []):=⟨h,by simp,by simp,trivial⟩
theorem O1 (n:Nat):ZB (.mk 0 n [] [])=true:=by simp[ZB,Y2,Wb,YB]
theorem O2 (n m:Nat):ZB (VZ n m)=true:=by simp[ZB,Y2,Wb,YB]
theorem BX {n m:Nat}(hn:n<18446744073709551616)(hm:m<18446744073709551616):wfI (VZ n m):=⟨by decide,by simp,by simp,Tm hn,Tm hm,trivial⟩
theorem Yz (k:Int)(n:Nat)(b:List UInt8)(l:List It):(ZN (.mk k n b l)).length<=9+(b.length+(ZV l).length):=by
 rw[ZN,List.length_append,List.length_append]
 split
 ·rename_i h
  have h1:=Q7 h rfl
  have h2:ZG (It.mk k n b l).hn<=8:=by
   unfold ZG
   repeat' split
   all_goals omega
  dsimp only at h1
  omega
 ·simp
theorem Yv (n:Nat):(ZN (.mk 0 n [] [])).length<=9:=by
 have:=Yz 0 n [] []
 simpa[ZV]using this
theorem V3 (n m:Nat):(ZN (VZ n m)).length<=27:=by
 have h0:=Yz 4 0 [] [.mk 0 n [] [],.mk 0 m [] []]
 have h1:=Yv n
 have h2:=Yv m
 simp only[ZV,List.length_append,List.length_nil,Nat.add_zero,Nat.zero_add]at h0
 have e:VZ n m=.mk 4 0 [] [.mk 0 n [] [],.mk 0 m [] []]:=rfl
 rw[e]
 omega
theorem Tn {l:List It}{a:Int}{x:It}(h:VU l a=(x,0)):x=.mk 4 0 [] l\/∃ s,(s=1\/s=2)/\x=UP s l:=by
 unfold VU at h
 cases d0:(decide (a<0)||decide (a ≥ (l.length:Int))) with
 | true=>rw[d0]at h;simp at h
 | false=>
 rw[d0]at h
 cases d1:(l.all ZB&&decide (Wn l a ≥ 0)) with
 | false=>rw[d1]at h;simp at h
 | true=>
 rw[d1]at h
 dsimp only at h
 cases d2:decide (Wn l a>0) with
 | false=>
  rw[d2]at h
  dsimp only at h
  cases hr:ZB (.mk 4 0 [] l) with
  | false=>rw[hr]at h;simp at h
  | true=>
   rw[hr]at h
   simp only[Prod.mk.injEq,and_true]at h
   exact .inl h.symm
 | true=>
  rw[d2]at h
  dsimp only at h
  have hs:(Wn l a).toNat=1\/(Wn l a).toNat=2:=by
   rcases QN l a with e|⟨e,_⟩
   ·have:=of_decide_eq_true d2;omega
   ·have:=of_decide_eq_true d2;omega
  cases hz:ZB (ZX (Wn l a).toNat l) with
  | false=>rw[hz]at h;simp at h
  | true=>
   rw[hz]at h
   dsimp only at h
   cases hr:ZB (UP (Wn l a).toNat l) with
   | false=>rw[hr]at h;simp at h
   | true=>
    rw[hr]at h
    simp only[Prod.mk.injEq,and_true]at h
    exact .inr ⟨_,hs,h.symm⟩
theorem Ul {b:BlkV}{x:It}(h:YM b=(x,0)):ZH b=true/\VU (YL b) 3=(x,0):=by
 unfold YM at h
 cases hr:ZH b with
 | true=>rw[hr]at h;exact⟨rfl,h⟩
 | false=>rw[hr]at h;simp at h
theorem Bl {x:It}(h:wfI x):x.n<18446744073709551616:=by obtain⟨k,n,b,l⟩:=x;exact h.1
abbrev iC (x:EidV)(t q:Nat):List D:=[.bool x.i,.int .u64 (x.n:Int),.int .u64 (x.s:Int),.str x.h,.str x.d,.int .u64 (t:Int),.int .u64 (q:Int)]
def Vd (x:EidV)(t q:Nat):Bool:=ZE x&&decide ((t:Int)<=1099511627776)&&decide ((q:Int)<=1099511627776)
theorem O3 [Known](x:EidV)(t q:Nat):AP Tryz.prog 73 [.agg (iC x t q)] (.bool (Vd x t q)) []:=by
 refine AP.ofA (Zl Tryz.func73 U Tryz.ntmps73 U U ?_)
 repeat'(first|(apply Zb (VI x);kernel_rfl;(iterate 4 exact U))|(apply Zh Za;exact U)|(apply Zg Za;exact U)|(apply Ze;(iterate 3 exact U);(first|with_reducible assumption|(solve|simp only[bn])))|(apply Zr;(iterate 3 exact U);(first|with_reducible assumption|(solve|simp only[bn])))|(apply Ys;exact U;exact U;all_goals intro hb)|(apply Zk;exact U;(first|with_reducible assumption|(solve|simp only[bn]));exact U;exact U)|(apply Zi;exact U;(first|with_reducible assumption|(solve|simp only[bn]));exact U;exact U))
 all_goals(apply Zp [];(apply Zc Za;exact U);(iterate 4 exact U))
 all_goals first|rfl|(unfold Vd;simp only[*];done)|(unfold Vd;simp only[*];simp only[Bool.and_true,Bool.true_and,Bool.and_false,Bool.false_and];done)
theorem Mn [Known](x:EidV)(t q:Nat):AP Tryz.prog 18 [.agg (iC x t q)] (.bool (decide (IntKind.i64.wrap ((x.h.length:Int)+(x.d.length:Int))>300))) []:=by
 refine AP.ofA (Zl Tryz.func18 U Tryz.ntmps18 U U ?_)
 repeat'(first|(apply Zh Za;exact U)|(apply Zg Za;exact U)|refine Yh Za U U U U ?_)
 (apply Zp [];(apply Zc Za;exact U);(iterate 4 exact U))
 all_goals rfl
end Go.Proofs.YtmljabhmajehnaaGreatDoor
end
section
open Go.RowKit Go.Pl
namespace Go.Pl
variable {P:Program} {t:TypeId}
theorem G8 {α β γ δ ε:Type}{R0:Rep α}{R1:Rep β}{R2:Rep γ}{R3:Rep δ}{R4:Rep ε}{fs:Array Field}{f0 f1 f2 f3 f4:Field}(hs:P.underlying t=some (.struct fs))(hfs:fs = #[f0,f1,f2,f3,f4])
  (h00:f0.offset=0) (h01:f1.offset=R0.n) (h02:f2.offset=R0.n+R1.n) (h03:f3.offset=R0.n+R1.n+R2.n) (h04:f4.offset=R0.n+R1.n+R2.n+R3.n)
  (hc0:P.cellsOf f0.type=R0.n) (hc1:P.cellsOf f1.type=R1.n) (hc2:P.cellsOf f2.type=R2.n) (hc3:P.cellsOf f3.type=R3.n) (hc4:P.cellsOf f4.type=R4.n) (hc:P.cellsOf t=R0.n+(R1.n+(R2.n+(R3.n+R4.n))))
  (h0:Y9 P f0.type R0) (h1:Y9 P f1.type R1) (h2:Y9 P f2.type R2) (h3:Y9 P f3.type R3) (h4:Y9 P f4.type R4):Y9 P t (R0.prod (R1.prod (R2.prod (R3.prod R4)))):=by
 intro H enc W spare held fuel cs y h
 obtain⟨xs,n,_,_,hl,hxl,hg⟩:=DataW.trod_struct hs h
 subst hfs
 have e0:=hg 0 f0 rfl
 have e1:=hg 1 f1 rfl
 have e2:=hg 2 f2 rfl
 have e3:=hg 3 f3 rfl
 have e4:=hg 4 f4 rfl
 rw[h00,hc0,List.drop_zero]at e0
 rw[h01,hc1]at e1
 rw[h02,hc2]at e2
 rw[h03,hc3]at e3
 rw[h04,hc4]at e4
 have hn:xs.length=5:=hxl
 have hx0:xs[0]?=some (xs[0]'(by omega)):=List.getElem?_eq_getElem (by omega)
 have hx1:xs[1]?=some (xs[1]'(by omega)):=List.getElem?_eq_getElem (by omega)
 have hx2:xs[2]?=some (xs[2]'(by omega)):=List.getElem?_eq_getElem (by omega)
 have hx3:xs[3]?=some (xs[3]'(by omega)):=List.getElem?_eq_getElem (by omega)
 have hx4:xs[4]?=some (xs[4]'(by omega)):=List.getElem?_eq_getElem (by omega)
 obtain⟨x0,k0⟩:=h0 H enc W spare held n _ _ (e0.trans hx0)
 obtain⟨x1,k1⟩:=h1 H enc W spare held n _ _ (e1.trans hx1)
 obtain⟨x2,k2⟩:=h2 H enc W spare held n _ _ (e2.trans hx2)
 obtain⟨x3,k3⟩:=h3 H enc W spare held n _ _ (e3.trans hx3)
 obtain⟨x4,k4⟩:=h4 H enc W spare held n _ _ (e4.trans hx4)
 refine⟨(x0,x1,x2,x3,x4),cs.take R0.n,cs.drop R0.n,(List.take_append_drop _ _).symm,k0,(cs.drop R0.n).take R1.n,(cs.drop R0.n).drop R1.n,(List.take_append_drop _ _).symm,k1,
  ((cs.drop R0.n).drop R1.n).take R2.n,((cs.drop R0.n).drop R1.n).drop R2.n,(List.take_append_drop _ _).symm,?_,(((cs.drop R0.n).drop R1.n).drop R2.n).take R3.n,(((cs.drop R0.n).drop R1.n).drop R2.n).drop R3.n,(List.take_append_drop _ _).symm,?_,?_⟩
 ·rw[List.drop_drop];exact k2
 ·rw[List.drop_drop,List.drop_drop,show R0.n+(R1.n+R2.n)=R0.n+R1.n+R2.n from by omega];exact k3
 ·rw[List.drop_drop,List.drop_drop,List.drop_drop,show R0.n+(R1.n+(R2.n+R3.n))=R0.n+R1.n+R2.n+R3.n from by omega]
  rw[List.take_of_length_le (i:=R4.n) (by rw[List.length_drop];omega)]at k4
  exact k4
abbrev RE:Rep (Bool × Nat × Nat × List UInt8 × List UInt8):=Rep.bool.prod (Rep.u64.prod (Rep.u64.prod (Rep.str.prod Rep.str)))
abbrev RI:Rep ((Bool × Nat × Nat × List UInt8 × List UInt8) × Nat × Nat):=RE.prod (Rep.u64.prod Rep.u64)
end Go.Pl
end
section
open Go.RowKit Go.Pl
namespace Go.Proofs.YtmljabhmajehnaaGreatDoor
theorem Nx:Y9 Tryz.prog 24 RE:=
 G8 Tryz.underlying24 rfl rfl rfl rfl rfl rfl (by kernel_rfl) (by kernel_rfl) (by kernel_rfl) (by kernel_rfl) (by kernel_rfl) (by kernel_rfl) (HT Tryz.underlying4) (WW Tryz.underlying22) (WW Tryz.underlying22) (Ot Tryz.underlying9) (Ot Tryz.underlying9)
theorem DS:Y9 Tryz.prog 26 RI:=
 Ga Tryz.underlying26 rfl (by kernel_rfl) rfl rfl rfl (by kernel_rfl) (by kernel_rfl) (by kernel_rfl) Nx (WW Tryz.underlying22) (WW Tryz.underlying22)
end Go.Proofs.YtmljabhmajehnaaGreatDoor
end
section
open Go.RowKit Go.Pl Go.Av
namespace Go.Proofs.YtmljabhmajehnaaGreatDoor
set_option maxHeartbeats 4000000
theorem Kl:ToE RE (fun x=>.agg [.bool x.1,.int .u64 (x.2.1:Int),.int .u64 (x.2.2.1:Int),.str x.2.2.2.1,.str x.2.2.2.2]):=
 ToE.bool.prod (ToE.u64.prod (ToE.u64.prod (ToE.str.prod ToE.str)))
abbrev XE:=Bool × Nat × Nat × List UInt8 × List UInt8
def XE.v (x:XE):EidV:=⟨x.1,x.2.1,x.2.2.1,x.2.2.2.1,x.2.2.2.2⟩
theorem DT [Known]{W:World}{cs:List Value}{x:XE}(h:RE.ok W (· < W.heap.size) cs x):V W (g0 W) [] (.agg (eC x.v)) (.agg cs.toArray):=
 Kl.agg (l:=[.bool x.1,.int .u64 (x.2.1:Int),.int .u64 (x.2.2.1:Int),.str x.2.2.2.1,.str x.2.2.2.2]) rfl h
structure PriV where
 fl:Nat
 sum:Int
 dest:EidV
 rep:EidV
 src:EidV
 t:Nat
 q:Nat
 life:Nat
abbrev prC (p:PriV):List D:=[.int .u64 (p.fl:Int),.int .i64 p.sum,.bool p.dest.i,.int .u64 (p.dest.n:Int),.int .u64 (p.dest.s:Int),.str p.dest.h,.str p.dest.d,.bool p.rep.i,.int .u64 (p.rep.n:Int),.int .u64 (p.rep.s:Int),.str p.rep.h,.str p.rep.d,.bool p.src.i,.int .u64 (p.src.n:Int),.int .u64 (p.src.s:Int),.str p.src.h,.str p.src.d,.int .u64 (p.t:Int),.int .u64 (p.q:Int),.int .u64 (p.life:Int)]
def Yr (p:PriV):Bool:=(bits .andNot .u64 (p.fl:Int) 409638==0)&&(decide (p.sum ≥ 0)&&(decide (p.sum<=2)&&(ZE p.dest&&(ZE p.rep&&(Vd p.src p.t p.q&&decide ((p.life:Int)<=1099511627776))))))
theorem O4 [Known](p:PriV):AP Tryz.prog 137 [.agg (prC p)] (.bool (Yr p)) []:=by
 have hD:=VI p.dest
 have hR:=VI p.rep
 have hI:=O3 p.src p.t p.q
 unfold Yr
 generalize ZE p.dest=e1 at *
 generalize ZE p.rep=e2 at *
 generalize Vd p.src p.t p.q=e3 at *
 obtain⟨fl,sum,⟨di,dn,ds,dh,dd⟩,⟨ri,rn,rs,rh,rd⟩,⟨xi,xn,xs,xh,xd⟩,t,q,life⟩:=p
 dsimp only at *
 cases t1:(bits .andNot .u64 (fl:Int) 409638==0) with
 | false=>
  refine AP.ofA (Zl Tryz.func137 U Tryz.ntmps137 U U ?_)
  repeat'(first|(apply Zh Za;exact U)|(apply Zg Za;exact U)|refine Zr U U U Qt ?_|refine Zi U Qt U U ?_)
  all_goals exact Qe
 | true=>
 cases t2:decide (sum ≥ 0) with
 | false=>
  refine AP.ofA (Zl Tryz.func137 U Tryz.ntmps137 U U ?_)
  repeat'(first|(apply Zh Za;exact U)|(apply Zg Za;exact U)|refine Ze U U U Qt ?_|refine Zr U U U Qt ?_|refine Zk U Qt U U ?_|refine Zi U Qt U U ?_)
  all_goals exact Qe
 | true=>
 cases t3:decide (sum<=2) with
 | false=>
  refine AP.ofA (Zl Tryz.func137 U Tryz.ntmps137 U U ?_)
  repeat'(first|(apply Zh Za;exact U)|(apply Zg Za;exact U)|refine Ze U U U Qt ?_|refine Zr U U U Qt ?_|refine Zk U Qt U U ?_|refine Zi U Qt U U ?_)
  all_goals exact Qe
 | true=>
 cases e1
 ·refine AP.ofA ?_
  refine Zl Tryz.func137 rfl Tryz.ntmps137 rfl rfl ?_
  repeat'(first|(apply Zb (hD);kernel_rfl;(iterate 4 exact U))|(apply Zh Za;exact U)|(apply Zg Za;exact U)|refine Ze U U U Qt ?_|refine Zr U U U Qt ?_|refine Zk U Qt U U ?_|refine Zi U Qt U U ?_)
  all_goals exact Qe
 cases e2
 ·refine AP.ofA ?_
  refine Zl Tryz.func137 rfl Tryz.ntmps137 rfl rfl ?_
  repeat'(first|(apply Zb (hD);kernel_rfl;(iterate 4 exact U))|(apply Zb (hR);kernel_rfl;(iterate 4 exact U))|(apply Zh Za;exact U)|(apply Zg Za;exact U)|refine Ze U U U Qt ?_|refine Zr U U U Qt ?_|refine Zk U Qt U U ?_|refine Zi U Qt U U ?_)
  all_goals exact Qe
 cases e3
 ·refine AP.ofA ?_
  refine Zl Tryz.func137 rfl Tryz.ntmps137 rfl rfl ?_
  repeat'(first|(apply Zb (hD);kernel_rfl;(iterate 4 exact U))|(apply Zb (hR);kernel_rfl;(iterate 4 exact U))|(apply Zb (hI);kernel_rfl;(iterate 4 exact U))|(apply Zh Za;exact U)|(apply Zg Za;exact U)|refine Ze U U U Qt ?_|refine Zr U U U Qt ?_|refine Zk U Qt U U ?_|refine Zi U Qt U U ?_)
  all_goals exact Qe
 refine AP.ofA (Zl Tryz.func137 U Tryz.ntmps137 U U ?_)
 repeat'(first|(apply Zb (hD);kernel_rfl;(iterate 4 exact U))|(apply Zb (hR);kernel_rfl;(iterate 4 exact U))|(apply Zb (hI);kernel_rfl;(iterate 4 exact U))|(apply Zh Za;exact U)|(apply Zg Za;exact U)|refine Ze U U U Qt ?_|refine Zk U Qt U U ?_)
 all_goals exact Qe
def L7 (x:EidV)(t q:Nat):It:=.mk 4 0 [] [ZW x,.mk 4 0 [] [.mk 0 t [] [],.mk 0 q [] []]]
theorem WS {x:EidV}{t q:Nat}:Vd x t q=true ↔ ZE x=true/\t<=1099511627776/\q<=1099511627776:=by
 unfold Vd
 simp only[Bool.and_eq_true,decide_eq_true_eq]
 rw[and_assoc]
 exact and_congr Iff.rfl (and_congr (by omega) (by omega))
theorem Mo [Known](x:EidV)(t q:Nat):AP Tryz.prog 62 [.agg (iC x t q)] (.tup [itD (if Vd x t q then L7 x t q else .mk 0 0 [] []),.int .i64 (if Vd x t q then 0 else 3)]) []:=by
 have hR:=O3 x t q
 cases hr:Vd x t q with
 | false=>
  rw[hr]at hR
  refine AP.ofA (Zl Tryz.func62 U Tryz.ntmps62 U U ?_)
  repeat'(first|(apply Zb (hR);kernel_rfl;(iterate 4 exact U))|(apply Zh Za;exact U)|(apply Zg Za;exact U)|(apply Zo Za;exact U)|refine Zd U Qt ?_)
  all_goals exact Qe
 | true=>
  rw[hr]at hR
  rw[if_pos rfl,if_pos rfl]
  obtain⟨h1,h2,h3⟩:=WS.1 hr
  have hE:=Je x
  rw[h1,if_pos rfl,if_pos rfl]at hE
  have hw:=W7 h1
  have nt:=Wc t
  have nq:=Wc q
  unfold L7
  generalize ZW x=y at *
  have hL1:=Ur [.mk 0 t [] [],.mk 0 q [] []] (by simp) (by simp[wfI,wfs];omega)
  have hL:=Ur [y,.mk 4 0 [] [.mk 0 t [] [],.mk 0 q [] []]] (by simp) (by simp[wfI,wfs,hw];omega)
  obtain⟨k,n,b,l⟩:=y
  replace nt:AP Tryz.prog _ [.int .u64 (t:Int)] (.agg [.int .i64 0,.int .u64 (t:Int),.sl .ext [],.sl .ext []]) []:=nt
  replace nq:AP Tryz.prog _ [.int .u64 (q:Int)] (.agg [.int .i64 0,.int .u64 (q:Int),.sl .ext [],.sl .ext []]) []:=nq
  replace hE:AP Tryz.prog _ [.agg (eC x)] (.tup [.agg [.int .i64 k,.int .u64 (n:Int),byE b,.sl .ext (Zx l)],.int .i64 0]) []:=hE
  replace hL1:AP Tryz.prog _ _ (.agg [.int .i64 4,.int .u64 0,.sl .ext [],.sl .ext [.agg [.int .i64 0,.int .u64 (t:Int),.sl [],.sl []],.agg [.int .i64 0,.int .u64 (q:Int),.sl [],.sl []]]]) []:=hL1
  refine AP.ofA (Zl Tryz.func62 U Tryz.ntmps62 U U ?_)
  repeat'(first|(apply Zb (hR);kernel_rfl;(iterate 4 exact U))|(apply Zb (hE);kernel_rfl;(iterate 4 exact U))|(apply Zb (nt);kernel_rfl;(iterate 4 exact U))|(apply Zb (nq);kernel_rfl;(iterate 4 exact U))|(apply Zb (hL1);kernel_rfl;(iterate 4 exact U))|(apply Zb (hL);kernel_rfl;(iterate 4 exact U))|(apply Zh Za;exact U)|(apply Zg Za;exact U)|(apply Zo Za;exact U)|refine Zf U Qt ?_|refine ZO Za U U U U U U U U U U U U ?_|(apply Zq 13 ZF;decide +kernel;kernel_rfl;kernel_rfl;kernel_rfl;exact U;exact U)|(apply Zt;(iterate 4 exact U))|exact AE.nil _ _ _ _|(apply Zw;exact U)|(apply WI;exact U)|(apply Zz;exact U;exact U;decide +kernel;exact U)|(apply ZA;exact U)|(apply VA;exact U)|exact AO.nil _ _ _|(apply Zs;(decide +kernel))|(apply Yf;(iterate 3 exact U))|exact AOs.nil|exact ZI rfl rfl|exact W6 rfl rfl rfl rfl rfl|exact WP rfl)
  all_goals exact Qe
def YG (p:PriV):List It:=[.mk 0 7 [] [],.mk 0 p.fl [] [],.mk 0 p.sum.toNat [] [],ZW p.dest,ZW p.src,ZW p.rep,.mk 4 0 [] [.mk 0 p.t [] [],.mk 0 p.q [] []],.mk 0 p.life [] []]
def Wz (p:PriV):It × Int:=match Yr p with
 | true=>VU (YG p) 2
 | false=>(z0,3)
theorem Vy {p:PriV}(h:Yr p=true):0<=p.sum/\p.sum<=2/\ZE p.dest=true/\ZE p.rep=true/\Vd p.src p.t p.q=true/\p.life<=1099511627776:=by
 unfold Yr at h
 simp only[Bool.and_eq_true,decide_eq_true_eq]at h
 obtain⟨_,h1,h2,h3,h4,h5,h6⟩:=h
 exact⟨h1,h2,h3,h4,h5,by omega⟩
theorem L8 {p:PriV}(h:Yr p=true)(hfl:p.fl<18446744073709551616):wfs (YG p):=by
 obtain⟨h1,h2,h3,h4,h5,h6⟩:=Vy h
 obtain⟨i1,i2,i3⟩:=WS.1 h5
 refine⟨?_,?_,?_,W7 h3,W7 i1,W7 h4,?_,?_,trivial⟩
 all_goals first|(simp[wfI,wfs];done)|(simp[wfI,wfs];omega)
theorem Mp [Known][KnownU8](p:PriV)(hfl:p.fl<18446744073709551616)(hlim:∀ s,s=1\/s=2->(ZN (ZX s (YG p))).length<=1000000000):AP Tryz.prog 107 [.agg (prC p)] (J4 (Wz p)) []:=by
 have hR:=O4 p
 unfold Wz
 cases hr:Yr p with
 | false=>
  rw[hr]at hR
  obtain⟨fl,sum,⟨di,dn,ds,dh,dd⟩,⟨ri,rn,rs,rh,rd⟩,⟨xi,xn,xs,xh,xd⟩,t,q,life⟩:=p
  dsimp only[z0]at *
  refine AP.ofA (Zl Tryz.func107 U Tryz.ntmps107 U U ?_)
  repeat'(first|(apply Zb (hR);kernel_rfl;(iterate 4 exact U))|(apply Zh Za;exact U)|(apply Zg Za;exact U)|(apply Zo Za;exact U)|refine Zd U Qt ?_)
  all_goals exact Qe
 | true=>
  rw[hr]at hR
  obtain⟨h1,h2,h3,h4,h5,h6⟩:=Vy hr
  have hS:=Nm (YG p) 2 (L8 hr hfl) (by simp[YG]) hlim
  have hD:=Je p.dest
  have hP:=Je p.rep
  have hI:=Mo p.src p.t p.q
  rw[if_pos h3,if_pos h3]at hD
  rw[if_pos h4,if_pos h4]at hP
  rw[if_pos h5,if_pos h5]at hI
  have hN:=Wc 7
  have hF:=Wc p.fl
  have hM:=Wc p.sum.toNat
  have hL:=Wc p.life
  dsimp only
  generalize VU (YG p) 2=r at *
  unfold YG at hS
  unfold L7 at hI
  obtain⟨fl,sum,⟨di,dn,ds,dh,dd⟩,⟨ri,rn,rs,rh,rd⟩,⟨xi,xn,xs,xh,xd⟩,t,q,life⟩:=p
  dsimp only at *
  generalize ZW ⟨di,dn,ds,dh,dd⟩=I1 at *
  generalize ZW ⟨ri,rn,rs,rh,rd⟩=I2 at *
  generalize ZW ⟨xi,xn,xs,xh,xd⟩=I3 at *
  obtain⟨ak,an,ab,al⟩:=I1
  obtain⟨bk,bn,bb,bl⟩:=I2
  obtain⟨ck,cn,cb,cl⟩:=I3
  obtain⟨⟨k,n,b,l⟩,e⟩:=r
  have es:IntKind.u64.wrap sum=((sum.toNat:Nat):Int):=by rw[IntWalk.u64_in _ (by omega)];omega
  have hU:=Wl [It.mk ck cn cb cl,.mk 4 0 [] [.mk 0 t [] [],.mk 0 q [] []]]
  have hv0:(Zx [It.mk ck cn cb cl,.mk 4 0 [] [.mk 0 t [] [],.mk 0 q [] []]])[(0:Int).toNat]?=some (.agg [.int .i64 ck,.int .u64 (cn:Int),.sl (cb.map E.byte),.sl (Zx cl)]):=rfl
  have hv1:(Zx [It.mk ck cn cb cl,.mk 4 0 [] [.mk 0 t [] [],.mk 0 q [] []]])[(1:Int).toNat]?=some (.agg [.int .i64 4,.int .u64 0,.sl [],.sl [nmE t,nmE q]]):=rfl
  generalize hLe:Zx [It.mk ck cn cb cl,.mk 4 0 [] [.mk 0 t [] [],.mk 0 q [] []]]=LL at *
  replace hI:AP Tryz.prog 62 [.agg (iC ⟨xi,xn,xs,xh,xd⟩ t q)] (.tup [.agg [.int .i64 4,.int .u64 0,.sl .ext [],.sl .ext LL],.int .i64 0]) []:=by rw[<- hLe];exact hI
  replace hS:AP Tryz.prog 138 [.sl .ext [nmE 7,nmE fl,nmE sum.toNat,.agg [.int .i64 ak,.int .u64 (an:Int),.sl (ab.map E.byte),.sl (Zx al)],.agg [.int .i64 ck,.int .u64 (cn:Int),.sl (cb.map E.byte),.sl (Zx cl)],.agg [.int .i64 bk,.int .u64 (bn:Int),.sl (bb.map E.byte),.sl (Zx bl)],.agg [.int .i64 4,.int .u64 0,.sl [],.sl [nmE t,nmE q]],nmE life],.int .i64 2] (J4 (.mk k n b l,e)) []:=hS
  refine AP.ofA (Zl Tryz.func107 U Tryz.ntmps107 U U ?_)
  repeat'(first|(apply Zb (hR);kernel_rfl;(iterate 4 exact U))|rw[es]|(apply Zb (hD);kernel_rfl;(iterate 4 exact U))|(apply Zb (hP);kernel_rfl;(iterate 4 exact U))|(apply Zb (hI);kernel_rfl;(iterate 4 exact U))|(apply Zb (hN);kernel_rfl;(iterate 4 exact U))|(apply Zb (hF);kernel_rfl;(iterate 4 exact U))|(apply Zb (hM);kernel_rfl;(iterate 4 exact U))|(apply Zb (hL);kernel_rfl;(iterate 4 exact U))|(apply Zb (hS);kernel_rfl;(iterate 4 exact U))|(apply Zh Za;exact U)|(apply Zg Za;exact U)|(apply Zo Za;exact U)|refine Zf U Qt ?_|refine ZO Za U U U U U U U U U U U U ?_|(apply Zq 21 ZF;decide +kernel;kernel_rfl;kernel_rfl;kernel_rfl;exact U;exact U)|(apply Zt;(iterate 4 exact U))|exact AE.nil _ _ _ _|(apply Zw;exact U)|(apply Zz;exact U;exact U;decide +kernel;exact U)|(apply ZA;exact U)|exact AO.nil _ _ _|(apply Zs;(decide +kernel))|exact AOs.nil|exact ZI rfl rfl|(apply Zu Za;(iterate 6 exact U);(first|exact Qt|rotate_left);(first|with_reducible assumption|decide +kernel|exact U);(first|exact Zj rfl|with_reducible assumption|decide +kernel|rotate_left)))
  all_goals exact Qe
theorem WD {x:EidV}(h:ZE x=true):(ZN (ZW x)).length<=200:=by
 unfold ZW
 repeat' split
 ·exact Nat.le_trans (V3 1 0) (by decide)
 ·have h0:=Yz 4 0 [] [.mk 0 2 [] [],VZ x.n x.s]
  have h1:=Yv 2
  have h2:=V3 x.n x.s
  simp only[ZV,List.length_append,List.length_nil,Nat.add_zero,Nat.zero_add]at h0
  exact Nat.le_trans h0 (by omega)
 ·have h0:=Yz 4 0 [] [.mk 0 1 [] [],.mk 3 0 (Y5 x) []]
  have h1:=Yv 1
  have h2:=Yz 3 0 (Y5 x) []
  rename_i hz hi
  have h3:(Y5 x).length<=100:=by
   have ht:=Y6 h (by simpa using hz) (by simpa using hi)
   simp only[Y5,List.length_append,List.length_cons,List.length_nil]
   omega
  simp only[ZV,List.length_append,List.length_nil,Nat.add_zero,Nat.zero_add]at h0 h2
  exact Nat.le_trans h0 (by omega)
theorem UU (a c:List It):ZV (a++c)=ZV a++ZV c:=by
 induction a with
 | nil=>rfl
 | cons y a ih=>rw[List.cons_append,ZV,ZV,ih,List.append_assoc]
theorem DU {p:PriV}(h:Yr p=true)(s:Nat)(hs:s=1\/s=2):(ZN (ZX s (YG p))).length<=1000000000:=by
 obtain⟨h1,h2,h3,h4,h5,h6⟩:=Vy h
 obtain⟨i1,_,_⟩:=WS.1 h5
 have h0:=Yz 4 0 [] (YG p++[.mk 2 0 (List.replicate (2*s) 0) []])
 have hb:=Yz 2 0 (List.replicate (2*s) 0) []
 have n1:=Yv 7
 have n2:=Yv p.fl
 have n3:=Yv p.sum.toNat
 have n4:=WD h3
 have n5:=WD i1
 have n6:=WD h4
 have n7:=V3 p.t p.q
 have n8:=Yv p.life
 have e7:VZ p.t p.q=.mk 4 0 [] [.mk 0 p.t [] [],.mk 0 p.q [] []]:=rfl
 rw[e7]at n7
 rw[UU]at h0
 simp only[YG,ZV,List.length_append,List.length_nil,List.length_replicate,Nat.add_zero,Nat.zero_add]at h0 hb
 show(ZN (.mk 4 0 [] (YG p++[.mk 2 0 (List.replicate (2*s) 0) []]))).length<=1000000000
 exact Nat.le_trans h0 (by omega)
theorem To [Known][KnownU8](p:PriV)(hfl:p.fl<18446744073709551616):AP Tryz.prog 107 [.agg (prC p)] (J4 (Wz p)) []:=by
 cases h:Yr p with
 | true=>exact Mp p hfl (DU h)
 | false=>
  have hR:=O4 p
  unfold Wz
  rw[h]at hR ⊢
  obtain⟨fl,sum,⟨di,dn,ds,dh,dd⟩,⟨ri,rn,rs,rh,rd⟩,⟨xi,xn,xs,xh,xd⟩,t,q,life⟩:=p
  dsimp only[z0]at *
  refine AP.ofA (Zl Tryz.func107 U Tryz.ntmps107 U U ?_)
  repeat'(first|(apply Zb (hR);kernel_rfl;(iterate 4 exact U))|(apply Zh Za;exact U)|(apply Zg Za;exact U)|(apply Zo Za;exact U)|refine Zd U Qt ?_)
  all_goals exact Qe
theorem Xy {p:PriV}(hfl:p.fl<18446744073709551616):wfI (Wz p).1:=by
 unfold Wz
 cases h:Yr p with
 | false=>exact Nt
 | true=>exact Nu 2 (L8 h hfl) (by simp[YG])
def pr0:PriV:=⟨0,0,Wm,Wm,Wm,0,0,0⟩
def eZ (y:It):EidV:=match(Z5 y).2 with|true=>(Z5 y).1|false=>Wm
theorem WE {p:PriV}{x:It}(h:Wz p=(x,0)):Yr p=true/\VU (YG p) 2=(x,0):=by
 unfold Wz at h
 cases hr:Yr p with
 | true=>rw[hr]at h;exact⟨rfl,h⟩
 | false=>rw[hr]at h;simp at h
theorem Tp {p:PriV}(h:Yr p=true):(ZV (YG p)).length<=1000000:=by
 obtain⟨h1,h2,h3,h4,h5,h6⟩:=Vy h
 obtain⟨i1,_,_⟩:=WS.1 h5
 have n1:=Yv 7
 have n2:=Yv p.fl
 have n3:=Yv p.sum.toNat
 have n4:=WD h3
 have n5:=WD i1
 have n6:=WD h4
 have n7:=V3 p.t p.q
 have n8:=Yv p.life
 have e7:VZ p.t p.q=.mk 4 0 [] [.mk 0 p.t [] [],.mk 0 p.q [] []]:=rfl
 rw[e7]at n7
 simp only[YG,ZV,List.length_append,List.length_nil,Nat.add_zero]
 omega
structure BunV where
 p:PriV
 bl:List BlkV
def Uu (k:Nat):Bool:=k==1||(k==6||(k==7||k==10))
def Kc:List BlkV->List BlkV->Bool
 | _,[]=>true
 | pre,b::r=>ZH b&&(pre.all (fun c=>c.num != b.num&&(c.ty != b.ty || !Uu b.ty))&&Kc (pre++[b]) r)
def Tq (l:List BlkV):Bool:=match l.getLast? with
 | none=>false
 | some b=>decide (l.length<=8)&&(b.ty==1&&(b.num==1&&Kc [] l))
def Um (b:BunV):List It:=(Wz b.p).1::b.bl.map fun c=>(YM c).1
def QP (b:BunV):Bool:=(Wz b.p).2==0&&b.bl.all fun c=>(YM c).2==0
def L9 (b:BunV):List UInt8:=159::(ZV (Um b)++[255])
def Yb (b:BunV):Bool:=Tq b.bl&&(QP b&&decide (((ZV (Um b)).length:Int)<=598))
theorem Un {l:List It}{a:Int}{x:It}(h:VU l a=(x,0)):ZB x=true:=by
 unfold VU at h
 split at h
 ·simp at h
 ·split at h
  ·simp at h
  ·split at h
   ·split at h
    ·rename_i hr
     simp only[Prod.mk.injEq,and_true]at h
     subst h;exact hr
    ·simp at h
   ·split at h
    ·simp at h
    ·split at h
     ·simp at h
     ·rename_i hr
      simp only[Prod.mk.injEq,and_true]at h
      subst h;exact hr
theorem VL {x:It}(h:ZB x=true):Yw x=true:=by
 rw[Ws]at h
 simp only[Bool.and_eq_true]at h
 exact h.2.2
def bn0:BunV:=⟨pr0,[]⟩
end Go.Proofs.YtmljabhmajehnaaGreatDoor
end
