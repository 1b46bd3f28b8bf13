/- A name's item, read back: plain laws, no program in sight. -/
import Derived.Test.YtakblclkflnnpaaGreatDoorH25
import Derived.Test.YtakblclkflnnpaaGreatDoorH22
import Derived.Test.YtakblclkflnnpaaGreatDoorH26
import Derived.Test.YtakblclkflnnpaaGreatDoorH14
import Derived.Test.YtakblclkflnnpaaGreatDoorH21
import Derived.Test.YtakblclkflnnpaaGreatDoorH01
import Derived.Test.YtakblclkflnnpaaGreatDoorH07
import Derived.Test.YtakblclkflnnpaaGreatDoorProg
import Derived.Test.YtakblclkflnnpaaGreatDoorH13
set_option linter.unusedVariables false
set_option linter.unusedSimpArgs false
section
open Go.RowKit Go.Pl Go.Av
namespace Go.Proofs.YtakblclkflnnpaaGreatDoor
set_option maxHeartbeats 4000000
theorem Zo8 {x:EidV}(h:ZaH x=true)(hz:isZ x=false)(hi:x.i=false):ppV (Zck x)=(x,true):=by
 obtain⟨b1,b2,b3,b4,b5,b6,b7⟩:=ZbJ h hz hi
 have e1:Zck x=[47,47]++(x.h++47::x.d):=by simp[Zck]
 rw[e1]
 unfold ppV
 rw[ZeZ]
 dsimp only
 rw[ZdH (Zfj b6 (by decide))]
 dsimp only
 have ex:(⟨false,0,0,x.h,x.d⟩:EidV)=x:=by
  obtain⟨i,n,s,hh,d⟩:=x
  simp only at hi b1 b2
  rw[hi,b1,b2]
 rw[ex,h]
 have:(x.h != [])=true:=by
  rw[bne_iff_ne]
  intro e
  rw[e]at b3
  simp at b3
 rw[this]
 rfl
theorem Zdf {x:EidV}(h:ZaH x=true):wfI (Zbg x):=by
 unfold Zbg
 cases hz:isZ x with
 | true=>rw[if_pos rfl];simp[wfI,wfs]
 | false=>
  rw[if_neg (by simp)]
  cases hi:x.i with
  | true=>
   obtain⟨b1,b2,b3,b4,b5⟩:=Zb9 h hz hi
   rw[if_pos rfl]
   simp[wfI,wfs]
   omega
  | false=>
   obtain⟨b1,b2,b3,b4,b5,b6,b7⟩:=ZbJ h hz hi
   rw[if_neg (by simp)]
   simp[wfI,wfs,Zck]
   omega
theorem ZjE {x:EidV}(h:ZaH x=true)(hr:ZaD (Zbg x)=true):Zbf (Zbg x)=(x,true):=by
 unfold Zbf
 rw[hr]
 unfold Zbg
 cases hz:isZ x with
 | true=>
  rw[if_pos rfl,Zc3.1 hz]
  rfl
 | false=>
  rw[if_neg (by simp)]
  cases hi:x.i with
  | true=>
   obtain⟨b1,b2,b3,b4,b5⟩:=Zb9 h hz hi
   rw[if_pos rfl]
   dsimp only
   rw[if_pos rfl]
   have ex:(⟨true,x.n,x.s,[],[]⟩:EidV)=x:=by
    obtain⟨i,n,s,hh,d⟩:=x
    simp only at hi b3 b4
    rw[hi,b3,b4]
   have e1:Zc6 1 (.mk 0 2 [] [])=false:=rfl
   have e2:Zc6 2 (.mk 0 2 [] [])=true:=rfl
   have e3:∀ n,Zc6 n (.mk 0 n [] [])=true:=fun n=>It.beq_iff.2 rfl
   have e4:Zfk (.mk 4 0 [] [.mk 0 x.n [] [],.mk 0 x.s [] []])=some (x.n,x.s):=by
    unfold Zfk
    dsimp only
    rw[if_pos rfl]
    simp only[It.n,e3,Bool.and_self]
   unfold Ze3
   rw[e1,e2,e4]
   dsimp only
   rw[ex,h]
  | false=>
   rw[if_neg (by simp)]
   dsimp only
   rw[if_pos rfl]
   have e1:Zc6 1 (.mk 0 1 [] [])=true:=rfl
   have e2:Zc6 0 (.mk 3 0 (Zck x) [])=false:=rfl
   unfold Ze3
   rw[e1,e2]
   exact Zo8 h hz hi
theorem Zno {m:Nat}(hm:m<128){c:UInt8}(h:okB m c=true):c.toNat<128:=by
 simp only[okB,Bool.or_eq_true,Bool.and_eq_true,decide_eq_true_eq,beq_iff_eq]at h
 omega
theorem Zgt {x:EidV}(h:ZaH x=true):ZaD (Zbg x)=true:=by
 unfold Zbg
 cases hz:isZ x with
 | true=>rw[if_pos rfl];rfl
 | false=>
  rw[if_neg (by simp)]
  cases hi:x.i with
  | true=>rw[if_pos rfl];simp[ZaD,Zcv,ZbV,Zdi]
  | false=>
   obtain⟨b1,b2,b3,b4,b5,b6,b7⟩:=ZbJ h hz hi
   rw[if_neg (by simp)]
   have hv:ZaG (Zck x)=true:=by
    rw[Zb7 (Zck x).length (Zck x) (Nat.le_refl _) fun c hc=>?_,List.drop_length]
    ·rfl
    ·rw[List.take_length]at hc
     simp only[Zck,List.mem_append,List.mem_cons,List.not_mem_nil,or_false]at hc
     rcases hc with((hc|hc)|hc)|hc
     ·rcases hc with hc|hc<;>rw[hc]<;>decide
     ·exact Zno (by decide) (List.all_eq_true.1 b6 c hc)
     ·rw[hc];decide
     ·exact Zno (by decide) (List.all_eq_true.1 b7 c hc)
   simp[ZaD,Zcv,ZbV,Zdi,hv]
theorem Znp {kind ZaK:Nat}{sum:Int}{x:It}{e:Int}{p:BlkV}(h:ofV kind ZaK sum x e=(p,0)):e=0/\ZaD x=true/\ZaN p=true/\p=⟨kind,ZaK,0,sum,ZaZ x⟩:=by
 unfold ofV at h
 cases d0:(e != 0) with
 | true=>rw[d0]at h;simp at h
 | false=>
 rw[d0]at h
 dsimp only at h
 cases d1:ZaD x with
 | false=>rw[d1]at h;simp at h
 | true=>
 rw[d1]at h
 dsimp only at h
 cases d2:ZaN ⟨kind,ZaK,0,sum,ZaZ x⟩ with
 | false=>rw[d2]at h;simp at h
 | true=>
  rw[d2]at h
  simp only[Prod.mk.injEq,and_true]at h
  subst h
  exact⟨by simpa[bne]using d0,rfl,d2,rfl⟩
theorem ZpU {kind ZaK:Nat}{sum:Int}{x:It}{e:Int}:(ofV kind ZaK sum x e).2=0\/ofV kind ZaK sum x e=(bk0,3):=by
 unfold ofV
 repeat' split
 all_goals first|exact .inl rfl|exact .inr rfl
theorem Zbq (k:Int)(n:Nat)(b:List UInt8)(l:List It):(ZaZ (.mk k n b l)).length<=9+(b.length+(ZaX l).length):=by
 rw[ZaZ,List.length_append,List.length_append]
 split
 ·rename_i h
  have h1:=ZeS h rfl
  have h2:ZaE (It.mk k n b l).hn<=8:=by
   unfold ZaE
   repeat' split
   all_goals omega
  dsimp only at h1
  omega
 ·simp
theorem Zbs (n:Nat):(ZaZ (.mk 0 n [] [])).length<=9:=by
 have:=Zbq 0 n [] []
 simpa[ZaX]using this
theorem Zd3 (n m:Nat):(ZaZ (Zje n m)).length<=27:=by
 have h0:=Zbq 4 0 [] [.mk 0 n [] [],.mk 0 m [] []]
 have h1:=Zbs n
 have h2:=Zbs m
 simp only[ZaX,List.length_append,List.length_nil,Nat.add_zero,Nat.zero_add]at h0
 have e:Zje n m=.mk 4 0 [] [.mk 0 n [] [],.mk 0 m [] []]:=rfl
 rw[e]
 omega
theorem ZlG {l:List It}{a:Int}{x:It}(h:Zd0 l a=(x,0)):x=.mk 4 0 [] l\/∃ s,(s=1\/s=2)/\x=Zhe s l:=by
 unfold Zd0 at h
 cases d0:(decide (a<0)||decide (a ≥ (l.length:Int))) with
 | true=>rw[d0]at h;simp at h
 | false=>
 rw[d0]at h
 cases d1:(l.all ZaD&&decide (ZcB l a ≥ 0)) with
 | false=>rw[d1]at h;simp at h
 | true=>
 rw[d1]at h
 dsimp only at h
 cases d2:decide (ZcB l a>0) with
 | false=>
  rw[d2]at h
  dsimp only at h
  cases hr:ZaD (.mk 4 0 [] l) with
  | false=>rw[hr]at h;simp at h
  | true=>
   rw[hr]at h
   simp only[Prod.mk.injEq,and_true]at h
   exact .inl h.symm
 | true=>
  rw[d2]at h
  dsimp only at h
  have hs:(ZcB l a).toNat=1\/(ZcB l a).toNat=2:=by
   rcases Zeu l a with e|⟨e,_⟩
   ·have:=of_decide_eq_true d2;omega
   ·have:=of_decide_eq_true d2;omega
  cases hz:ZaD (Za0 (ZcB l a).toNat l) with
  | false=>rw[hz]at h;simp at h
  | true=>
   rw[hz]at h
   dsimp only at h
   cases hr:ZaD (Zhe (ZcB l a).toNat l) with
   | false=>rw[hr]at h;simp at h
   | true=>
    rw[hr]at h
    simp only[Prod.mk.injEq,and_true]at h
    exact .inr ⟨_,hs,h.symm⟩
theorem Zdl {b:BlkV}{x:It}(h:ZbL b=(x,0)):ZaN b=true/\Zd0 (Zb3 b) 3=(x,0):=by
 unfold ZbL at h
 cases hr:ZaN b with
 | true=>rw[hr]at h;exact⟨rfl,h⟩
 | false=>rw[hr]at h;simp at h
theorem Zs6 {x:It}(h:wfI x):x.n<18446744073709551616:=by obtain⟨k,n,b,l⟩:=x;exact h.1
abbrev iC (x:EidV)(t q:Nat):List D:=[.bool x.i,.int .u64 (x.n:Int),.int .u64 (x.s:Int),.str x.h,.str x.d,.int .u64 (t:Int),.int .u64 (q:Int)]
def Zc4 (x:EidV)(t q:Nat):Bool:=ZaH x&&decide ((t:Int)<=1099511627776)&&decide ((q:Int)<=1099511627776)
theorem ZiL [Known](x:EidV)(t q:Nat):AP Tryz.prog 92 [.agg (iC x t q)] (.bool (Zc4 x t q)) []:=by
 refine AP.ofA (Zam Tryz.func92 U Tryz.ntmps92 U U ?_)
 repeat'(first|(apply Zaa (Zc2 x);kernel_rfl;(iterate 4 exact U))|(apply Zai Zab;exact U)|(apply Zag Zab;exact U)|(apply Zae;(iterate 3 exact U);(first|with_reducible assumption|(solve|simp only[bn])))|(apply Zap;(iterate 3 exact U);(first|with_reducible assumption|(solve|simp only[bn])))|(apply Zbo;exact U;exact U;all_goals intro hb)|(apply Zak;exact U;(first|with_reducible assumption|(solve|simp only[bn]));exact U;exact U)|(apply Zah;exact U;(first|with_reducible assumption|(solve|simp only[bn]));exact U;exact U))
 all_goals(apply Zav [];(apply Zac Zab;exact U);(iterate 4 exact U))
 all_goals first|rfl|(unfold Zc4;simp only[*];done)|(unfold Zc4;simp only[*];simp only[Bool.and_true,Bool.true_and,Bool.and_false,Bool.false_and];done)
theorem Znq [Known](x:EidV)(t q:Nat):AP Tryz.prog 48 [.agg (iC x t q)] (.bool (decide (IntKind.i64.wrap ((x.h.length:Int)+(x.d.length:Int))>300))) []:=by
 refine AP.ofA (Zam Tryz.func48 U Tryz.ntmps48 U U ?_)
 repeat'(first|(apply Zai Zab;exact U)|(apply Zag Zab;exact U)|refine Zbk Zab U U U U ?_)
 (apply Zav [];(apply Zac Zab;exact U);(iterate 4 exact U))
 all_goals rfl
end Go.Proofs.YtakblclkflnnpaaGreatDoor
end
section
open Go.RowKit Go.Pl
namespace Go.Pl
variable {P:Program} {t:TypeId}
theorem ZjF {α β γ δ ε:Type}{R0:Rep α}{R1:Rep β}{R2:Rep γ}{R3:Rep δ}{R4:Rep ε}{fs:Array Field}{f0 f1 f2 f3 f4:Field}(hs:P.underlying t=some (.struct fs))(hfs:fs = #[f0,f1,f2,f3,f4])
  (h00:f0.offset=0) (h01:f1.offset=R0.n) (h02:f2.offset=R0.n+R1.n) (h03:f3.offset=R0.n+R1.n+R2.n) (h04:f4.offset=R0.n+R1.n+R2.n+R3.n)
  (hc0:P.cellsOf f0.type=R0.n) (hc1:P.cellsOf f1.type=R1.n) (hc2:P.cellsOf f2.type=R2.n) (hc3:P.cellsOf f3.type=R3.n) (hc4:P.cellsOf f4.type=R4.n) (hc:P.cellsOf t=R0.n+(R1.n+(R2.n+(R3.n+R4.n))))
  (h0:Zcr P f0.type R0) (h1:Zcr P f1.type R1) (h2:Zcr P f2.type R2) (h3:Zcr P f3.type R3) (h4:Zcr P f4.type R4):Zcr P t (R0.prod (R1.prod (R2.prod (R3.prod R4)))):=by
 intro H enc W spare held fuel cs y h
 obtain⟨xs,n,_,_,hl,hxl,hg⟩:=DataW.trod_struct hs h
 subst hfs
 have e0:=hg 0 f0 rfl
 have e1:=hg 1 f1 rfl
 have e2:=hg 2 f2 rfl
 have e3:=hg 3 f3 rfl
 have e4:=hg 4 f4 rfl
 rw[h00,hc0,List.drop_zero]at e0
 rw[h01,hc1]at e1
 rw[h02,hc2]at e2
 rw[h03,hc3]at e3
 rw[h04,hc4]at e4
 have hn:xs.length=5:=hxl
 have hx0:xs[0]?=some (xs[0]'(by omega)):=List.getElem?_eq_getElem (by omega)
 have hx1:xs[1]?=some (xs[1]'(by omega)):=List.getElem?_eq_getElem (by omega)
 have hx2:xs[2]?=some (xs[2]'(by omega)):=List.getElem?_eq_getElem (by omega)
 have hx3:xs[3]?=some (xs[3]'(by omega)):=List.getElem?_eq_getElem (by omega)
 have hx4:xs[4]?=some (xs[4]'(by omega)):=List.getElem?_eq_getElem (by omega)
 obtain⟨x0,k0⟩:=h0 H enc W spare held n _ _ (e0.trans hx0)
 obtain⟨x1,k1⟩:=h1 H enc W spare held n _ _ (e1.trans hx1)
 obtain⟨x2,k2⟩:=h2 H enc W spare held n _ _ (e2.trans hx2)
 obtain⟨x3,k3⟩:=h3 H enc W spare held n _ _ (e3.trans hx3)
 obtain⟨x4,k4⟩:=h4 H enc W spare held n _ _ (e4.trans hx4)
 refine⟨(x0,x1,x2,x3,x4),cs.take R0.n,cs.drop R0.n,(List.take_append_drop _ _).symm,k0,(cs.drop R0.n).take R1.n,(cs.drop R0.n).drop R1.n,(List.take_append_drop _ _).symm,k1,
  ((cs.drop R0.n).drop R1.n).take R2.n,((cs.drop R0.n).drop R1.n).drop R2.n,(List.take_append_drop _ _).symm,?_,(((cs.drop R0.n).drop R1.n).drop R2.n).take R3.n,(((cs.drop R0.n).drop R1.n).drop R2.n).drop R3.n,(List.take_append_drop _ _).symm,?_,?_⟩
 ·rw[List.drop_drop];exact k2
 ·rw[List.drop_drop,List.drop_drop,show R0.n+(R1.n+R2.n)=R0.n+R1.n+R2.n from by omega];exact k3
 ·rw[List.drop_drop,List.drop_drop,List.drop_drop,show R0.n+(R1.n+(R2.n+R3.n))=R0.n+R1.n+R2.n+R3.n from by omega]
  rw[List.take_of_length_le (i:=R4.n) (by rw[List.length_drop];omega)]at k4
  exact k4
abbrev RE:Rep (Bool × Nat × Nat × List UInt8 × List UInt8):=Rep.bool.prod (Rep.u64.prod (Rep.u64.prod (Rep.str.prod Rep.str)))
abbrev RI:Rep ((Bool × Nat × Nat × List UInt8 × List UInt8) × Nat × Nat):=RE.prod (Rep.u64.prod Rep.u64)
end Go.Pl
end
section
open Go.RowKit Go.Pl
namespace Go.Proofs.YtakblclkflnnpaaGreatDoor
theorem ZqR:Zcr Tryz.prog 24 RE:=
 ZjF Tryz.underlying24 rfl rfl rfl rfl rfl rfl (by kernel_rfl) (by kernel_rfl) (by kernel_rfl) (by kernel_rfl) (by kernel_rfl) (by kernel_rfl) (Zlh Tryz.underlying4) (Zcs Tryz.underlying22) (Zcs Tryz.underlying22) (Zh7 Tryz.underlying9) (Zh7 Tryz.underlying9)
theorem Zs7:Zcr Tryz.prog 26 RI:=
 Zjh Tryz.underlying26 rfl (by kernel_rfl) rfl rfl rfl (by kernel_rfl) (by kernel_rfl) (by kernel_rfl) ZqR (Zcs Tryz.underlying22) (Zcs Tryz.underlying22)
end Go.Proofs.YtakblclkflnnpaaGreatDoor
end
section
open Go.RowKit Go.Pl Go.Av
namespace Go.Proofs.YtakblclkflnnpaaGreatDoor
set_option maxHeartbeats 4000000
theorem ZjG:ToE RE (fun x=>.agg [.bool x.1,.int .u64 (x.2.1:Int),.int .u64 (x.2.2.1:Int),.str x.2.2.2.1,.str x.2.2.2.2]):=
 ToE.bool.prod (ToE.u64.prod (ToE.u64.prod (ToE.str.prod ToE.str)))
abbrev XE:=Bool × Nat × Nat × List UInt8 × List UInt8
def XE.v (x:XE):EidV:=⟨x.1,x.2.1,x.2.2.1,x.2.2.2.1,x.2.2.2.2⟩
structure PriV where
 fl:Nat
 sum:Int
 dest:EidV
 rep:EidV
 src:EidV
 t:Nat
 q:Nat
 life:Nat
abbrev prC (p:PriV):List D:=[.int .u64 (p.fl:Int),.int .i64 p.sum,.bool p.dest.i,.int .u64 (p.dest.n:Int),.int .u64 (p.dest.s:Int),.str p.dest.h,.str p.dest.d,.bool p.rep.i,.int .u64 (p.rep.n:Int),.int .u64 (p.rep.s:Int),.str p.rep.h,.str p.rep.d,.bool p.src.i,.int .u64 (p.src.n:Int),.int .u64 (p.src.s:Int),.str p.src.h,.str p.src.d,.int .u64 (p.t:Int),.int .u64 (p.q:Int),.int .u64 (p.life:Int)]
def Zbt (p:PriV):Bool:=(bits .andNot .u64 (p.fl:Int) 409638==0)&&(decide (p.sum ≥ 0)&&(decide (p.sum<=2)&&(ZaH p.dest&&(ZaH p.rep&&(Zc4 p.src p.t p.q&&decide ((p.life:Int)<=1099511627776))))))
theorem ZiM [Known](p:PriV):AP Tryz.prog 20 [.agg (prC p)] (.bool (Zbt p)) []:=by
 have hD:=Zc2 p.dest
 have hR:=Zc2 p.rep
 have hI:=ZiL p.src p.t p.q
 unfold Zbt
 generalize ZaH p.dest=e1 at *
 generalize ZaH p.rep=e2 at *
 generalize Zc4 p.src p.t p.q=e3 at *
 obtain⟨fl,sum,⟨di,dn,ds,dh,dd⟩,⟨ri,rn,rs,rh,rd⟩,⟨xi,xn,xs,xh,xd⟩,t,q,life⟩:=p
 dsimp only at *
 cases t1:(bits .andNot .u64 (fl:Int) 409638==0) with
 | false=>
  refine AP.ofA (Zam Tryz.func20 U Tryz.ntmps20 U U ?_)
  repeat'(first|(apply Zai Zab;exact U)|(apply Zag Zab;exact U)|refine Zap U U U Qt ?_|refine Zah U Qt U U ?_)
  all_goals exact Qe
 | true=>
 cases t2:decide (sum ≥ 0) with
 | false=>
  refine AP.ofA (Zam Tryz.func20 U Tryz.ntmps20 U U ?_)
  repeat'(first|(apply Zai Zab;exact U)|(apply Zag Zab;exact U)|refine Zae U U U Qt ?_|refine Zap U U U Qt ?_|refine Zak U Qt U U ?_|refine Zah U Qt U U ?_)
  all_goals exact Qe
 | true=>
 cases t3:decide (sum<=2) with
 | false=>
  refine AP.ofA (Zam Tryz.func20 U Tryz.ntmps20 U U ?_)
  repeat'(first|(apply Zai Zab;exact U)|(apply Zag Zab;exact U)|refine Zae U U U Qt ?_|refine Zap U U U Qt ?_|refine Zak U Qt U U ?_|refine Zah U Qt U U ?_)
  all_goals exact Qe
 | true=>
 cases e1
 ·refine AP.ofA ?_
  refine Zam Tryz.func20 rfl Tryz.ntmps20 rfl rfl ?_
  repeat'(first|(apply Zaa (hD);kernel_rfl;(iterate 4 exact U))|(apply Zai Zab;exact U)|(apply Zag Zab;exact U)|refine Zae U U U Qt ?_|refine Zap U U U Qt ?_|refine Zak U Qt U U ?_|refine Zah U Qt U U ?_)
  all_goals exact Qe
 cases e2
 ·refine AP.ofA ?_
  refine Zam Tryz.func20 rfl Tryz.ntmps20 rfl rfl ?_
  repeat'(first|(apply Zaa (hD);kernel_rfl;(iterate 4 exact U))|(apply Zaa (hR);kernel_rfl;(iterate 4 exact U))|(apply Zai Zab;exact U)|(apply Zag Zab;exact U)|refine Zae U U U Qt ?_|refine Zap U U U Qt ?_|refine Zak U Qt U U ?_|refine Zah U Qt U U ?_)
  all_goals exact Qe
 cases e3
 ·refine AP.ofA ?_
  refine Zam Tryz.func20 rfl Tryz.ntmps20 rfl rfl ?_
  repeat'(first|(apply Zaa (hD);kernel_rfl;(iterate 4 exact U))|(apply Zaa (hR);kernel_rfl;(iterate 4 exact U))|(apply Zaa (hI);kernel_rfl;(iterate 4 exact U))|(apply Zai Zab;exact U)|(apply Zag Zab;exact U)|refine Zae U U U Qt ?_|refine Zap U U U Qt ?_|refine Zak U Qt U U ?_|refine Zah U Qt U U ?_)
  all_goals exact Qe
 refine AP.ofA (Zam Tryz.func20 U Tryz.ntmps20 U U ?_)
 repeat'(first|(apply Zaa (hD);kernel_rfl;(iterate 4 exact U))|(apply Zaa (hR);kernel_rfl;(iterate 4 exact U))|(apply Zaa (hI);kernel_rfl;(iterate 4 exact U))|(apply Zai Zab;exact U)|(apply Zag Zab;exact U)|refine Zae U U U Qt ?_|refine Zak U Qt U U ?_)
 all_goals exact Qe
def ZqS (x:EidV)(t q:Nat):It:=.mk 4 0 [] [Zbg x,.mk 4 0 [] [.mk 0 t [] [],.mk 0 q [] []]]
theorem Zco {x:EidV}{t q:Nat}:Zc4 x t q=true ↔ ZaH x=true/\t<=1099511627776/\q<=1099511627776:=by
 unfold Zc4
 simp only[Bool.and_eq_true,decide_eq_true_eq]
 rw[and_assoc]
 exact and_congr Iff.rfl (and_congr (by omega) (by omega))
theorem Znr [Known](x:EidV)(t q:Nat):AP Tryz.prog 82 [.agg (iC x t q)] (.tup [itD (if Zc4 x t q then ZqS x t q else .mk 0 0 [] []),.int .i64 (if Zc4 x t q then 0 else 3)]) []:=by
 have hR:=ZiL x t q
 cases hr:Zc4 x t q with
 | false=>
  rw[hr]at hR
  refine AP.ofA (Zam Tryz.func82 U Tryz.ntmps82 U U ?_)
  repeat'(first|(apply Zaa (hR);kernel_rfl;(iterate 4 exact U))|(apply Zai Zab;exact U)|(apply Zag Zab;exact U)|(apply Zau Zab;exact U)|refine Zad U Qt ?_)
  all_goals exact Qe
 | true=>
  rw[hr]at hR
  rw[if_pos rfl,if_pos rfl]
  obtain⟨h1,h2,h3⟩:=Zco.1 hr
  have hE:=Ze4 x
  rw[h1,if_pos rfl,if_pos rfl]at hE
  have hw:=Zdf h1
  have nt:=Zca t
  have nq:=Zca q
  unfold ZqS
  generalize Zbg x=y at *
  have hL1:=ZdU [.mk 0 t [] [],.mk 0 q [] []] (by simp) (by simp[wfI,wfs];omega)
  have hL:=ZdU [y,.mk 4 0 [] [.mk 0 t [] [],.mk 0 q [] []]] (by simp) (by simp[wfI,wfs,hw];omega)
  obtain⟨k,n,b,l⟩:=y
  replace nt:AP Tryz.prog _ [.int .u64 (t:Int)] (.agg [.int .i64 0,.int .u64 (t:Int),.sl .ext [],.sl .ext []]) []:=nt
  replace nq:AP Tryz.prog _ [.int .u64 (q:Int)] (.agg [.int .i64 0,.int .u64 (q:Int),.sl .ext [],.sl .ext []]) []:=nq
  replace hE:AP Tryz.prog _ [.agg (eC x)] (.tup [.agg [.int .i64 k,.int .u64 (n:Int),byE b,.sl .ext (ZaC l)],.int .i64 0]) []:=hE
  replace hL1:AP Tryz.prog _ _ (.agg [.int .i64 4,.int .u64 0,.sl .ext [],.sl .ext [.agg [.int .i64 0,.int .u64 (t:Int),.sl [],.sl []],.agg [.int .i64 0,.int .u64 (q:Int),.sl [],.sl []]]]) []:=hL1
  refine AP.ofA (Zam Tryz.func82 U Tryz.ntmps82 U U ?_)
  repeat'(first|(apply Zaa (hR);kernel_rfl;(iterate 4 exact U))|(apply Zaa (hE);kernel_rfl;(iterate 4 exact U))|(apply Zaa (nt);kernel_rfl;(iterate 4 exact U))|(apply Zaa (nq);kernel_rfl;(iterate 4 exact U))|(apply Zaa (hL1);kernel_rfl;(iterate 4 exact U))|(apply Zaa (hL);kernel_rfl;(iterate 4 exact U))|(apply Zai Zab;exact U)|(apply Zag Zab;exact U)|(apply Zau Zab;exact U)|refine Zaf U Qt ?_|refine ZaL Zab U U U U U U U U U U U U ?_|(apply Zao 13 ZaQ;decide +kernel;kernel_rfl;kernel_rfl;kernel_rfl;exact U;exact U)|(apply Zas;(iterate 4 exact U))|exact AE.nil _ _ _ _|(apply Zaw;exact U)|(apply ZeI;exact U)|(apply Zay;exact U;exact U;decide +kernel;exact U)|(apply Zaz;exact U)|(apply ZhA;exact U)|exact AO.nil _ _ _|(apply Zar;(decide +kernel))|(apply Za6;(iterate 3 exact U))|exact AOs.nil|exact ZaJ rfl rfl|exact Zdh rfl rfl rfl rfl rfl|exact Zfy rfl)
  all_goals exact Qe
def ZbW (p:PriV):List It:=[.mk 0 7 [] [],.mk 0 p.fl [] [],.mk 0 p.sum.toNat [] [],Zbg p.dest,Zbg p.src,Zbg p.rep,.mk 4 0 [] [.mk 0 p.t [] [],.mk 0 p.q [] []],.mk 0 p.life [] []]
def Zcy (p:PriV):It × Int:=match Zbt p with
 | true=>Zd0 (ZbW p) 2
 | false=>(z0,3)
theorem ZcQ {p:PriV}(h:Zbt p=true):0<=p.sum/\p.sum<=2/\ZaH p.dest=true/\ZaH p.rep=true/\Zc4 p.src p.t p.q=true/\p.life<=1099511627776:=by
 unfold Zbt at h
 simp only[Bool.and_eq_true,decide_eq_true_eq]at h
 obtain⟨_,h1,h2,h3,h4,h5,h6⟩:=h
 exact⟨h1,h2,h3,h4,h5,by omega⟩
theorem ZqT {p:PriV}(h:Zbt p=true)(hfl:p.fl<18446744073709551616):wfs (ZbW p):=by
 obtain⟨h1,h2,h3,h4,h5,h6⟩:=ZcQ h
 obtain⟨i1,i2,i3⟩:=Zco.1 h5
 refine⟨?_,?_,?_,Zdf h3,Zdf i1,Zdf h4,?_,?_,trivial⟩
 all_goals first|(simp[wfI,wfs];done)|(simp[wfI,wfs];omega)
theorem Zns [Known][KnownU8](p:PriV)(hfl:p.fl<18446744073709551616)(hlim:∀ s,s=1\/s=2->(ZaZ (Za0 s (ZbW p))).length<=1000000000):AP Tryz.prog 16 [.agg (prC p)] (ZhP (Zcy p)) []:=by
 have hR:=ZiM p
 unfold Zcy
 cases hr:Zbt p with
 | false=>
  rw[hr]at hR
  obtain⟨fl,sum,⟨di,dn,ds,dh,dd⟩,⟨ri,rn,rs,rh,rd⟩,⟨xi,xn,xs,xh,xd⟩,t,q,life⟩:=p
  dsimp only[z0]at *
  refine AP.ofA (Zam Tryz.func16 U Tryz.ntmps16 U U ?_)
  repeat'(first|(apply Zaa (hR);kernel_rfl;(iterate 4 exact U))|(apply Zai Zab;exact U)|(apply Zag Zab;exact U)|(apply Zau Zab;exact U)|refine Zad U Qt ?_)
  all_goals exact Qe
 | true=>
  rw[hr]at hR
  obtain⟨h1,h2,h3,h4,h5,h6⟩:=ZcQ hr
  have hS:=Zm9 (ZbW p) 2 (ZqT hr hfl) (by simp[ZbW]) hlim
  have hD:=Ze4 p.dest
  have hP:=Ze4 p.rep
  have hI:=Znr p.src p.t p.q
  rw[if_pos h3,if_pos h3]at hD
  rw[if_pos h4,if_pos h4]at hP
  rw[if_pos h5,if_pos h5]at hI
  have hN:=Zca 7
  have hF:=Zca p.fl
  have hM:=Zca p.sum.toNat
  have hL:=Zca p.life
  dsimp only
  generalize Zd0 (ZbW p) 2=r at *
  unfold ZbW at hS
  unfold ZqS at hI
  obtain⟨fl,sum,⟨di,dn,ds,dh,dd⟩,⟨ri,rn,rs,rh,rd⟩,⟨xi,xn,xs,xh,xd⟩,t,q,life⟩:=p
  dsimp only at *
  generalize Zbg ⟨di,dn,ds,dh,dd⟩=I1 at *
  generalize Zbg ⟨ri,rn,rs,rh,rd⟩=I2 at *
  generalize Zbg ⟨xi,xn,xs,xh,xd⟩=I3 at *
  obtain⟨ak,an,ab,al⟩:=I1
  obtain⟨bk,bn,bb,bl⟩:=I2
  obtain⟨ck,cn,cb,cl⟩:=I3
  obtain⟨⟨k,n,b,l⟩,e⟩:=r
  have es:IntKind.u64.wrap sum=((sum.toNat:Nat):Int):=by rw[IntWalk.u64_in _ (by omega)];omega
  have hU:=ZcF [It.mk ck cn cb cl,.mk 4 0 [] [.mk 0 t [] [],.mk 0 q [] []]]
  have hv0:(ZaC [It.mk ck cn cb cl,.mk 4 0 [] [.mk 0 t [] [],.mk 0 q [] []]])[(0:Int).toNat]?=some (.agg [.int .i64 ck,.int .u64 (cn:Int),.sl (cb.map E.byte),.sl (ZaC cl)]):=rfl
  have hv1:(ZaC [It.mk ck cn cb cl,.mk 4 0 [] [.mk 0 t [] [],.mk 0 q [] []]])[(1:Int).toNat]?=some (.agg [.int .i64 4,.int .u64 0,.sl [],.sl [nmE t,nmE q]]):=rfl
  generalize hLe:ZaC [It.mk ck cn cb cl,.mk 4 0 [] [.mk 0 t [] [],.mk 0 q [] []]]=LL at *
  replace hI:AP Tryz.prog 82 [.agg (iC ⟨xi,xn,xs,xh,xd⟩ t q)] (.tup [.agg [.int .i64 4,.int .u64 0,.sl .ext [],.sl .ext LL],.int .i64 0]) []:=by rw[<- hLe];exact hI
  replace hS:AP Tryz.prog 83 [.sl .ext [nmE 7,nmE fl,nmE sum.toNat,.agg [.int .i64 ak,.int .u64 (an:Int),.sl (ab.map E.byte),.sl (ZaC al)],.agg [.int .i64 ck,.int .u64 (cn:Int),.sl (cb.map E.byte),.sl (ZaC cl)],.agg [.int .i64 bk,.int .u64 (bn:Int),.sl (bb.map E.byte),.sl (ZaC bl)],.agg [.int .i64 4,.int .u64 0,.sl [],.sl [nmE t,nmE q]],nmE life],.int .i64 2] (ZhP (.mk k n b l,e)) []:=hS
  refine AP.ofA (Zam Tryz.func16 U Tryz.ntmps16 U U ?_)
  repeat'(first|(apply Zaa (hR);kernel_rfl;(iterate 4 exact U))|rw[es]|(apply Zaa (hD);kernel_rfl;(iterate 4 exact U))|(apply Zaa (hP);kernel_rfl;(iterate 4 exact U))|(apply Zaa (hI);kernel_rfl;(iterate 4 exact U))|(apply Zaa (hN);kernel_rfl;(iterate 4 exact U))|(apply Zaa (hF);kernel_rfl;(iterate 4 exact U))|(apply Zaa (hM);kernel_rfl;(iterate 4 exact U))|(apply Zaa (hL);kernel_rfl;(iterate 4 exact U))|(apply Zaa (hS);kernel_rfl;(iterate 4 exact U))|(apply Zai Zab;exact U)|(apply Zag Zab;exact U)|(apply Zau Zab;exact U)|refine Zaf U Qt ?_|refine ZaL Zab U U U U U U U U U U U U ?_|(apply Zao 21 ZaQ;decide +kernel;kernel_rfl;kernel_rfl;kernel_rfl;exact U;exact U)|(apply Zas;(iterate 4 exact U))|exact AE.nil _ _ _ _|(apply Zaw;exact U)|(apply Zay;exact U;exact U;decide +kernel;exact U)|(apply Zaz;exact U)|exact AO.nil _ _ _|(apply Zar;(decide +kernel))|exact AOs.nil|exact ZaJ rfl rfl|(apply Zat Zab;(iterate 6 exact U);(first|exact Qt|rotate_left);(first|with_reducible assumption|decide +kernel|exact U);(first|exact Zaj rfl|with_reducible assumption|decide +kernel|rotate_left)))
  all_goals exact Qe
theorem ZcH {x:EidV}(h:ZaH x=true):(ZaZ (Zbg x)).length<=200:=by
 unfold Zbg
 repeat' split
 ·exact Nat.le_trans (Zd3 1 0) (by decide)
 ·have h0:=Zbq 4 0 [] [.mk 0 2 [] [],Zje x.n x.s]
  have h1:=Zbs 2
  have h2:=Zd3 x.n x.s
  simp only[ZaX,List.length_append,List.length_nil,Nat.add_zero,Nat.zero_add]at h0
  exact Nat.le_trans h0 (by omega)
 ·have h0:=Zbq 4 0 [] [.mk 0 1 [] [],.mk 3 0 (Zck x) []]
  have h1:=Zbs 1
  have h2:=Zbq 3 0 (Zck x) []
  rename_i hz hi
  have h3:(Zck x).length<=100:=by
   have ht:=ZbJ h (by simpa using hz) (by simpa using hi)
   simp only[Zck,List.length_append,List.length_cons,List.length_nil]
   omega
  simp only[ZaX,List.length_append,List.length_nil,Nat.add_zero,Nat.zero_add]at h0 h2
  exact Nat.le_trans h0 (by omega)
theorem Zd4 (a c:List It):ZaX (a++c)=ZaX a++ZaX c:=by
 induction a with
 | nil=>rfl
 | cons y a ih=>rw[List.cons_append,ZaX,ZaX,ih,List.append_assoc]
theorem Zs8 {p:PriV}(h:Zbt p=true)(s:Nat)(hs:s=1\/s=2):(ZaZ (Za0 s (ZbW p))).length<=1000000000:=by
 obtain⟨h1,h2,h3,h4,h5,h6⟩:=ZcQ h
 obtain⟨i1,_,_⟩:=Zco.1 h5
 have h0:=Zbq 4 0 [] (ZbW p++[.mk 2 0 (List.replicate (2*s) 0) []])
 have hb:=Zbq 2 0 (List.replicate (2*s) 0) []
 have n1:=Zbs 7
 have n2:=Zbs p.fl
 have n3:=Zbs p.sum.toNat
 have n4:=ZcH h3
 have n5:=ZcH i1
 have n6:=ZcH h4
 have n7:=Zd3 p.t p.q
 have n8:=Zbs p.life
 have e7:Zje p.t p.q=.mk 4 0 [] [.mk 0 p.t [] [],.mk 0 p.q [] []]:=rfl
 rw[e7]at n7
 rw[Zd4]at h0
 simp only[ZbW,ZaX,List.length_append,List.length_nil,List.length_replicate,Nat.add_zero,Nat.zero_add]at h0 hb
 show(ZaZ (.mk 4 0 [] (ZbW p++[.mk 2 0 (List.replicate (2*s) 0) []]))).length<=1000000000
 exact Nat.le_trans h0 (by omega)
theorem ZlH [Known][KnownU8](p:PriV)(hfl:p.fl<18446744073709551616):AP Tryz.prog 16 [.agg (prC p)] (ZhP (Zcy p)) []:=by
 cases h:Zbt p with
 | true=>exact Zns p hfl (Zs8 h)
 | false=>
  have hR:=ZiM p
  unfold Zcy
  rw[h]at hR ⊢
  obtain⟨fl,sum,⟨di,dn,ds,dh,dd⟩,⟨ri,rn,rs,rh,rd⟩,⟨xi,xn,xs,xh,xd⟩,t,q,life⟩:=p
  dsimp only[z0]at *
  refine AP.ofA (Zam Tryz.func16 U Tryz.ntmps16 U U ?_)
  repeat'(first|(apply Zaa (hR);kernel_rfl;(iterate 4 exact U))|(apply Zai Zab;exact U)|(apply Zag Zab;exact U)|(apply Zau Zab;exact U)|refine Zad U Qt ?_)
  all_goals exact Qe
theorem Zgu {p:PriV}(hfl:p.fl<18446744073709551616):wfI (Zcy p).1:=by
 unfold Zcy
 cases h:Zbt p with
 | false=>exact Zo7
 | true=>exact Znn 2 (ZqT h hfl) (by simp[ZbW])
def pr0:PriV:=⟨0,0,Zdj,Zdj,Zdj,0,0,0⟩
def eZ (y:It):EidV:=match(Zbf y).2 with|true=>(Zbf y).1|false=>Zdj
theorem Zb4 {p:PriV}{x:It}(h:Zcy p=(x,0)):Zbt p=true/\Zd0 (ZbW p) 2=(x,0):=by
 unfold Zcy at h
 cases hr:Zbt p with
 | true=>rw[hr]at h;exact⟨rfl,h⟩
 | false=>rw[hr]at h;simp at h
theorem ZlI {p:PriV}(h:Zbt p=true):(ZaX (ZbW p)).length<=1000000:=by
 obtain⟨h1,h2,h3,h4,h5,h6⟩:=ZcQ h
 obtain⟨i1,_,_⟩:=Zco.1 h5
 have n1:=Zbs 7
 have n2:=Zbs p.fl
 have n3:=Zbs p.sum.toNat
 have n4:=ZcH h3
 have n5:=ZcH i1
 have n6:=ZcH h4
 have n7:=Zd3 p.t p.q
 have n8:=Zbs p.life
 have e7:Zje p.t p.q=.mk 4 0 [] [.mk 0 p.t [] [],.mk 0 p.q [] []]:=rfl
 rw[e7]at n7
 simp only[ZbW,ZaX,List.length_append,List.length_nil,Nat.add_zero]
 omega
structure BunV where
 p:PriV
 bl:List BlkV
def Ze5 (k:Nat):Bool:=k==1||(k==6||(k==7||k==10))
def Zl5:List BlkV->List BlkV->Bool
 | _,[]=>true
 | pre,b::r=>ZaN b&&(pre.all (fun c=>c.num != b.num&&(c.ty != b.ty || !Ze5 b.ty))&&Zl5 (pre++[b]) r)
def ZqU (l:List BlkV):Bool:=match l.getLast? with
 | none=>false
 | some b=>decide (l.length<=8)&&(b.ty==1&&(b.num==1&&Zl5 [] l))
def Zd5 (b:BunV):List It:=(Zcy b.p).1::b.bl.map fun c=>(ZbL c).1
def Zgv (b:BunV):Bool:=(Zcy b.p).2==0&&b.bl.all fun c=>(ZbL c).2==0
def ZqV (b:BunV):List UInt8:=159::(ZaX (Zd5 b)++[255])
def Zbw (b:BunV):Bool:=ZqU b.bl&&(Zgv b&&decide (((ZaX (Zd5 b)).length:Int)<=598))
theorem Zdx {l:List It}{a:Int}{x:It}(h:Zd0 l a=(x,0)):ZaD x=true:=by
 unfold Zd0 at h
 split at h
 ·simp at h
 ·split at h
  ·simp at h
  ·split at h
   ·split at h
    ·rename_i hr
     simp only[Prod.mk.injEq,and_true]at h
     subst h;exact hr
    ·simp at h
   ·split at h
    ·simp at h
    ·split at h
     ·simp at h
     ·rename_i hr
      simp only[Prod.mk.injEq,and_true]at h
      subst h;exact hr
theorem Zhh {x:It}(h:ZaD x=true):ZbN x=true:=by
 rw[Zb2]at h
 simp only[Bool.and_eq_true]at h
 exact h.2.2
def bn0:BunV:=⟨pr0,[]⟩
end Go.Proofs.YtakblclkflnnpaaGreatDoor
end
