/- Hops as the document says them: a bundle as it is sent on, joined. -/
import Derived.Test.YtmljabhmajehnaaGreatDoorO45
import Derived.Test.YtmljabhmajehnaaGreatDoorO46
import Derived.Test.YtmljabhmajehnaaGreatDoorO44
import Derived.Test.YtmljabhmajehnaaGreatDoorO42
import Derived.Test.YtmljabhmajehnaaGreatDoorO27
import Derived.Test.YtmljabhmajehnaaGreatDoorO16
import Derived.Test.YtmljabhmajehnaaGreatDoorO40
import Derived.Test.YtmljabhmajehnaaGreatDoorO01
import Derived.Test.YtmljabhmajehnaaGreatDoorO07
import Derived.Test.YtmljabhmajehnaaGreatDoorO11
import Derived.Test.YtmljabhmajehnaaGreatDoorO25
import Derived.Test.YtmljabhmajehnaaGreatDoorO28
import Derived.Test.YtmljabhmajehnaaGreatDoorO35
set_option linter.unusedVariables false
set_option linter.unusedSimpArgs false
section
open Go.RowKit Go.Pl Go.Av
namespace Go.Proofs.YtmljabhmajehnaaGreatDoor
set_option maxHeartbeats 4000000
theorem MR {b:BunV}(hr:Yb b=true):match b.bl.find? (Wt 10) with
  | none=>UA b=false
  | some c=>UA b=(((WF c.data).1:Int)==((WF c.data).2:Int)):=by
 unfold UA
 cases hf:b.bl.find? (Wt 10) with
 | none=>rfl
 | some c=>
  have hty:c.ty=10:=by
   have h:=List.find?_some hf
   have h:(c.ty:Int)=10:=by simpa[Wt]using h
   omega
  have hrc:=V5 hr c (List.mem_of_find?_eq_some hf)
  obtain⟨h1,h2,h3⟩:=I5 hrc hty
  dsimp only
  rw[Fc hrc hty,h1,h2,Bool.eq_iff_iff]
  simp
  omega
theorem NK {self:EidV}{here:Int}:∀(l acc r:List BlkV),onC self here acc l=some r->∀ x ∈ acc,x ∈ r
 | [],acc,r,h,x,hx=>by rw[onC]at h;cases h;exact hx
 | c::l,acc,r,h,x,hx=>by
  rw[onC]at h
  cases hc:(Wi c self here).2 with
  | false=>rw[hc]at h;cases h
  | true=>
   rw[hc]at h
   exact NK l _ r h x (List.mem_append.2 (.inl hx))
theorem NL {p:PriV}{self:EidV}{here:Int}{l:List BlkV}{x:BlkV}(hx:ZH x=false):Vk p (onC self here [x] l)=(bn0,3):=by
 cases h:onC self here [x] l with
 | none=>rfl
 | some r=>
  have hm:=NK l [x] r h x (List.mem_cons_self ..)
  unfold Vk
  dsimp only
  cases hr:Yb ⟨p,r⟩ with
  | false=>rfl
  | true=>
   have:=V5 hr x hm
   rw[hx]at this;cases this
theorem S7 (b:BunV)(self:EidV)(here:Int)(hE:ZE self=true):Vk b.p (onC self here [⟨6,Qx b.bl,0,0,ZN (ZW self)⟩] b.bl)=Vk b.p (onC self here [HJ b self] b.bl):=by
 have e:HJ b self=if ZH ⟨6,Qx b.bl,0,0,ZN (ZW self)⟩ then⟨6,Qx b.bl,0,0,ZN (ZW self)⟩ else bk0:=by
  unfold HJ ofV
  rw[hE]
  simp only[if_true]
  rw[Vh hE,show((0:Int) != 0)=false from rfl]
  dsimp only
  cases ZH ⟨6,Qx b.bl,0,0,ZN (ZW self)⟩<;>rfl
 rw[e]
 cases h:ZH ⟨6,Qx b.bl,0,0,ZN (ZW self)⟩ with
 | true=>rfl
 | false=>
  show _=Vk b.p (onC self here [bk0] b.bl)
  rw[NL h]
  exact(NL (by decide +kernel)).symm
theorem Dl [Known][KnownU8](b:BunV)(hb:BunOk b)(h1000:b.bl.length<=1000)(hf:Fit b.p.dest/\Fit b.p.rep/\Fit b.p.src)(self:EidV)(hsf:Fit self)(s n:Nat):AP Tryz.prog 42 [.agg (bnC b),.agg (eC self),.int .u64 (s:Int),.int .u64 (n:Int)] (onD (onH b self s n)) []:=by
 have hL:=RL b hb hf.1 hf.2.1 hf.2.2 s n
 rw[RO,I4]at hL
 have hK:=WZ self hsf
 have hkl:decide (YT self<1)=(!ZE self||zE self):=Kn self
 have hov:QW b s n=((VV b s n==0)&&((Vz b s n).1==0)):=by unfold QW;rw[I4]
 unfold onH
 cases t1:(VV b s n==3) with
 | true=>exact S6 b self s n _ _ _ 3 hL hK (.inl ⟨t1,rfl⟩)
 | false=>
 cases t2:(!ZE self||zE self) with
 | true=>exact S6 b self s n _ _ _ 3 hL hK (.inr (.inl ⟨t1,hkl.trans t2,rfl⟩))
 | false=>
 have hkf:=hkl.trans t2
 cases t3:(VV b s n != 0) with
 | true=>exact S6 b self s n _ _ _ _ hL hK (.inr (.inr (.inl ⟨t1,hkf,t3,rfl⟩)))
 | false=>
 have h0:VV b s n=0:=by simpa using t3
 rw[h0]at hL hov
 have hov:QW b s n=((Vz b s n).1==0):=hov
 cases t4:QW b s n with
 | true=>exact S6 b self s n _ _ _ 18 hL hK (.inr (.inr (.inr ⟨rfl,hkf,rfl,by rw[<- hov,t4],rfl⟩)))
 | false=>
 have hm0:((Vz b s n).1==0)=false:=by rw[<- hov,t4]
 obtain⟨hr,_,_⟩:=Iq h0
 have hE:ZE self=true:=by
  cases h:ZE self with
  | true=>rfl
  | false=>rw[h]at t2;cases t2
 have hsp:=MR hr
 have hT:AP Tryz.prog 37 [.agg (bnC b),.int .u64 10] (.int .i64 (fiQ (Wt 10) b.bl 0)) []:=XL b 10 hb.len
 have hS:AP Tryz.prog 37 [.agg (bnC b),.int .u64 6] (.int .i64 (fiQ (Wt 6) b.bl 0)) []:=XL b 6 hb.len
 have q10:=U2 (Wt 10) b.bl 0
 have q6:=U2 (Wt 6) b.bl 0
 have hok:∀ c ∈ b.bl,UB c/\(WF c.data).1<18446744073709551616:=fun c hc=>by
  refine⟨hb.bl c hc,?_⟩
  have h1:=Kq (c:=c) (Nat.le_trans (hb.bl c hc).2 (by omega))
  unfold WF
  cases hh:(Wg c.data).2.2 with
  | false=>
   show(0:Nat)<_
   decide
  | true=>
   have hw:=G1 c.data (Nat.le_trans (hb.bl c hc).2 (by omega))
   show(Wg c.data).1<_
   unfold Wg
   generalize (Yl c.data 0).1=x at *
   unfold Jt
   repeat'(first|split|(dsimp only))
   all_goals first|decide|skip
   all_goals first|exact Bl (by simp_all [wfI,wfs])|simp_all [wfI,wfs]
 have hokr:∀ c ∈ b.bl,ZH c=true/\Qo c<18446744073709551616:=fun c hc=>⟨V5 hr c hc,Kq (Nat.le_trans (hb.bl c hc).2 (by omega))⟩
 have hk:UA b=true->AP Tryz.prog 42 [.agg (bnC b),.agg (eC self),.int .u64 (s:Int),.int .u64 (n:Int)] (onD (bn0,19)) []:=fun h=>by
  cases hf10:b.bl.find? (Wt 10) with
  | none=>rw[hf10]at hsp;rw[hsp]at h;cases h
  | some c=>
   rw[hf10]at hsp q10
   obtain⟨j,h1,h2⟩:=q10
   have hc:=hb.bl c (List.mem_of_getElem? h2)
   exact Fb b self s n _ _ _ _ _ _ c hL hK hkf hm0 hT (by rw[h1];exact decide_eq_true (by omega)) (by rw[h1];omega) (by rw[h1,Int.toNat_natCast,Nat.zero_add];exact h2) (J7 c.data (Nat.le_trans hc.2 (by omega))) (by rw[<- hsp,h])
 cases t5:UA b with
 | true=>exact hk t5
 | false=>
 have hk2:decide (fiQ (Wt 10) b.bl 0 ≥ 0)=false\/∃(c0:BlkV) (x0 y0:Int) (ok0:Bool),decide (fiQ (Wt 10) b.bl 0 ≥ 0)=true/\0<=fiQ (Wt 10) b.bl 0/\b.bl[(fiQ (Wt 10) b.bl 0).toNat]?=some c0/\AP Tryz.prog 88 [byE c0.data] (.tup [.int .u64 x0,.int .u64 y0,.bool ok0]) []/\(x0==y0)=false:=by
  cases hf10:b.bl.find? (Wt 10) with
  | none=>
   rw[hf10]at q10
   have q10:fiQ (Wt 10) b.bl 0 = -1:=q10
   exact .inl (by rw[q10];rfl)
  | some c=>
   rw[hf10]at hsp q10
   obtain⟨j,h1,h2⟩:=q10
   have hc:=hb.bl c (List.mem_of_getElem? h2)
   exact .inr ⟨c,_,_,_,by rw[h1];exact decide_eq_true (by omega),by rw[h1];omega,by rw[h1,Int.toNat_natCast,Nat.zero_add];exact h2,J7 c.data (Nat.le_trans hc.2 (by omega)),by rw[<- hsp,t5]⟩
 show AP _ _ _ (onD (Vk b.p (onC self (IntKind.u64.wrap ((n:Int)-(s:Int))) (X9 b self) b.bl))) []
 unfold X9
 cases hf6:b.bl.find? (Wt 6) with
 | none=>
  rw[hf6]at q6
  have q6:fiQ (Wt 6) b.bl 0 = -1:=q6
  have hx:=WD hE
  refine F1 b self s n _ _ _ _ hL hK hkf hm0 hT hk2 hS (Qx b.bl) (ZN (ZW self)) (ZW self) (by omega) (TJ b hb) (Wh self hE) (Vi (ZW self) (W7 hE) (VL (Vh hE)) (by omega)) (by rw[q6];rfl) hE h1000 hok hb.fl hf.1 hf.2.1 hf.2.2 _ ?_
  rw[TM hE _ _ hokr,S7 b self _ hE]
 | some c=>
  rw[hf6]at q6
  obtain⟨j,h1,h2⟩:=q6
  refine F2 b self s n _ _ _ _ hL hK hkf hm0 hT hk2 hS (by rw[h1];exact decide_eq_false (by omega)) hE h1000 hok hb.fl hf.1 hf.2.1 hf.2.2 _ ?_
  rw[TM hE _ _ hokr]
def I6 (p:PriV):Bool:=decide (IntKind.i64.wrap (IntKind.i64.wrap (IntKind.i64.wrap ((p.dest.h.length:Int)+(p.dest.d.length:Int))+(p.rep.h.length:Int))+(p.rep.d.length:Int))>300)||decide (IntKind.i64.wrap ((p.src.h.length:Int)+(p.src.d.length:Int))>300)
theorem MS [Known](p:PriV):AP Tryz.prog 76 [.agg (prC p)] (.bool (I6 p)) []:=by
 have hI:=Mn p.src p.t p.q
 unfold I6
 obtain⟨fl,sum,⟨di,dn,ds,dh,dd⟩,⟨ri,rn,rs,rh,rd⟩,⟨xi,xn,xs,xh,xd⟩,t,q,life⟩:=p
 try dsimp only at *
 generalize (IntKind.i64.wrap ((xh.length:Int)+(xd.length:Int)))=w2 at *
 cases t1:decide (IntKind.i64.wrap (IntKind.i64.wrap (IntKind.i64.wrap ((dh.length:Int)+(dd.length:Int))+(rh.length:Int))+(rd.length:Int))>300)<;>cases t2:decide (w2>300)
 all_goals
  rw[t2]at hI
  refine AP.ofA (Zl Tryz.func76 U Tryz.ntmps76 U U ?_)
  repeat'(first|(apply Zb (hI);kernel_rfl;(iterate 4 exact U))|(apply Zh Za;exact U)|(apply Zg Za;exact U)|refine Ze U U U Qt ?_|refine Zn U U U Qt ?_|refine Zk U Qt U U ?_|refine Zi U Qt U U ?_|refine Yh Za U U U U ?_)
  all_goals exact Qe
def RS (l:List BlkV):Bool:=l.any fun c=>decide ((c.data.length:Int)>400)
def Xc (b:BunV):Bool:=decide ((b.bl.length:Int)>20)||(I6 b.p||RS b.bl)
theorem Ok {b:BunV}(h:Xc b=false):b.bl.length<=20/\∀ c ∈ b.bl,c.data.length<=400:=by
 unfold Xc RS at h
 simp only[Bool.or_eq_false_iff,decide_eq_false_iff_not,List.any_eq_false,decide_eq_true_eq]at h
 refine⟨by omega,fun c hc=>?_⟩
 have:=h.2.2 c hc
 omega
theorem MT [Known](b:BunV):AP Tryz.prog 27 [.agg (bnC b)] (.bool (Xc b)) []:=by
 have hG:=MS b.p
 have hlen:=Yx b.bl
 unfold Xc
 cases t0:decide ((b.bl.length:Int)>20) with
 | true=>
  have t1:decide (((ZP b.bl).length:Int)>20)=true:=by rw[hlen];exact t0
  obtain⟨⟨fl,sum,⟨di,dn,ds,dh,dd⟩,⟨ri,rn,rs,rh,rd⟩,⟨xi,xn,xs,xh,xd⟩,t,q,life⟩,bl⟩:=b
  try dsimp only at *
  refine AP.ofA (Zl Tryz.func27 U Tryz.ntmps27 U U ?_)
  repeat'(first|(apply Zh Za;exact U)|(apply Zg Za;exact U)|(apply Zo Za;exact U)|refine Zn U U U Qt ?_|refine Zk U Qt U U ?_|refine Zd U Qt ?_|refine Zm Za U U U U ?_)
  all_goals exact Qe
 | false=>
 have h20:=of_decide_eq_false t0
 have t1:decide (((ZP b.bl).length:Int)>20)=false:=by rw[hlen];exact t0
 generalize I6 b.p=gp at *
 cases gp with
 | true=>
  obtain⟨⟨fl,sum,⟨di,dn,ds,dh,dd⟩,⟨ri,rn,rs,rh,rd⟩,⟨xi,xn,xs,xh,xd⟩,t,q,life⟩,bl⟩:=b
  try dsimp only at *
  refine AP.ofA (Zl Tryz.func27 U Tryz.ntmps27 U U ?_)
  repeat'(first|(apply Zb (hG);kernel_rfl;(iterate 4 exact U))|(apply Zh Za;exact U)|(apply Zg Za;exact U)|(apply Zo Za;exact U)|refine Ze U U U Qt ?_|refine Zi U Qt U U ?_|refine Zd U Qt ?_|refine Zm Za U U U U ?_)
  all_goals exact Qe
 | false=>
 rw[Bool.false_or,Bool.false_or]
 obtain⟨⟨fl,sum,⟨di,dn,ds,dh,dd⟩,⟨ri,rn,rs,rh,rd⟩,⟨xi,xn,xs,xh,xd⟩,t,q,life⟩,bl⟩:=b
 try dsimp only at *
 have hU:=Vl bl
 generalize hF:RS bl=F
 refine AP.ofA (Zl Tryz.func27 U Tryz.ntmps27 U U ?_)
 repeat'(first|(apply Zb (hG);kernel_rfl;(iterate 4 exact U))|(apply Zh Za;exact U)|(apply Zg Za;exact U)|(apply Zo Za;exact U)|refine Ze U U U Qt ?_|refine Zi U Qt U U ?_|refine Zf U Qt ?_|refine Zm Za U U U U ?_)
 show AW _ _ _ _
 refine ZJ (fun f tm bx fr=>∃(i:Nat),f+i=bl.length/\RS (bl.drop i)=F/\tm=[(1,.ptr 0 0),(3,.int .i64 (i:Int))]/\bx=[[.int .u64 (fl:Int),.int .i64 sum,.bool di,.int .u64 (dn:Int),.int .u64 (ds:Int),.str dh,.str dd,.bool ri,.int .u64 (rn:Int),.int .u64 (rs:Int),.str rh,.str rd,.bool xi,.int .u64 (xn:Int),.int .u64 (xs:Int),.str xh,.str xd,.int .u64 (t:Int),.int .u64 (q:Int),.int .u64 (life:Int),.sl .ext (ZP bl)]]/\fr=[]) (bl.length+1) (Lands.mk' (m:=bl.length) (Nat.lt_succ_self _) ⟨0,by omega,hF,rfl,rfl,rfl⟩ ?_ rfl rfl rfl rfl rfl rfl) ?_
 ·exact .cons rfl (.cons rfl .nil)
 rintro f tm bx fr ⟨i,hf,hq,rfl,rfl,rfl⟩
 rcases Nat.lt_or_ge i bl.length with hlt|hge
 ·have hdl:decide ((i:Int)<((ZP bl).length:Int))=true:=decide_eq_true (by omega)
  obtain⟨c,hy⟩:∃ y,bl[i]?=some y:=⟨_,List.getElem?_eq_getElem hlt⟩
  have hv:=Yy hy
  have hdr:bl.drop i=c::bl.drop (i+1):=by
   rw[List.drop_eq_getElem_cons hlt];congr 1
   exact(List.getElem?_eq_some_iff.1 hy).2
  rw[hdr]at hq
  replace hq:(decide ((c.data.length:Int)>400)||RS (bl.drop (i+1)))=F:=hq
  have hcl:((c.data.map E.byte).length:Int)=(c.data.length:Int):=by rw[List.length_map]
  have ei:IntKind.i64.wrap ((i:Int)+1)=((i+1:Nat):Int):=by rw[IntWalk.i64_in _ (by omega)];omega
  rw[<- hcl]at hq
  cases hb:decide (((c.data.map E.byte).length:Int)>400) with
  | true=>
   rw[hb,Bool.true_or]at hq
   subst hq
   repeat'(first|(apply Zh Za;exact U)|(apply Zg Za;exact U)|(apply Zo Za;exact U)|refine Zd U Qt ?_|refine Z0 ?_|refine Zm Za U U U U ?_|(apply Zu Za;(iterate 6 exact U);(first|exact Qt|rotate_left);(first|with_reducible assumption|decide +kernel|exact U);(first|exact Zj rfl|with_reducible assumption|decide +kernel|rotate_left)))
   all_goals exact Qe
  | false=>
   rw[hb,Bool.false_or]at hq
   repeat'(first|rw[ei]|(apply Zh Za;exact U)|(apply Zg Za;exact U)|(apply Zo Za;exact U)|refine Zd U Qt ?_|refine Zf U Qt ?_|refine Zm Za U U U U ?_|(apply Zu Za;(iterate 6 exact U);(first|exact Qt|rotate_left);(first|with_reducible assumption|decide +kernel|exact U);(first|exact Zj rfl|with_reducible assumption|decide +kernel|rotate_left)))
   refine Lands.mk' (m:=f-1) (by omega) ⟨i+1,by omega,hq,rfl,rfl,rfl⟩ ?_ rfl rfl rfl rfl rfl rfl
   exact .cons rfl (.cons rfl .nil)
 ·have hdl:decide ((i:Int)<((ZP bl).length:Int))=false:=decide_eq_false (by omega)
  rw[List.drop_eq_nil_of_le hge]at hq
  replace hq:false=F:=hq
  subst hq
  repeat'(first|(apply Zh Za;exact U)|(apply Zg Za;exact U)|(apply Zo Za;exact U)|refine Zf U Qt ?_|refine Zm Za U U U U ?_)
  all_goals exact Qe
abbrev hiC:List D:=[.int .u64 0,.int .i64 0,.bool false,.int .u64 0,.int .u64 0,.str [],.str [],.bool false,.int .u64 0,.int .u64 0,.str [],.str [],.bool false,.int .u64 0,.int .u64 0,.str [],.str [],.int .u64 0,.int .u64 0,.int .u64 0,.sl .ext [.agg [.int .u64 1,.int .u64 1,.int .u64 0,.int .i64 0,.sl [.int .u8 104,.int .u8 105]]]]
theorem fh7 [Known]:AP Tryz.prog 83 [.sl .ext [.int .u8 104,.int .u8 105]] (.agg hiC) []:=by
 refine AP.ofA (Zl Tryz.func83 U Tryz.ntmps83 U U ?_)
 repeat'(first|(apply Zh Za;exact U)|(apply Zg Za;exact U)|refine ZO Za U U U U U U U U U U U U ?_)
 all_goals exact Qe
def gB:BunV:=⟨⟨0,0,Wm,Wm,Wm,5,0,10⟩,[⟨1,1,0,0,[104,105]⟩]⟩
def gS:EidV:=⟨false,0,0,[97],[]⟩
def gC:BunV:=⟨⟨0,0,Wm,Wm,Wm,5,0,10⟩,[⟨6,2,0,0,[130,1,100,47,47,97,47]⟩,⟨1,1,0,0,[104,105]⟩]⟩
theorem ga1:QW gB 0 14=false:=by kernel_rfl
theorem ga2:QW gB 0 15=true:=by kernel_rfl
theorem ga3:Vz gB 0 14=(1,0):=by kernel_rfl
theorem ga4:Vz gB 0 15=(0,0):=by kernel_rfl
theorem ga5:Vz gB 0 3=(12,0):=by kernel_rfl
theorem ga6:Vz gB 4 3=(0,1):=by kernel_rfl
theorem ga7:onH gB gS 0 9=(gC,0):=by kernel_rfl
theorem ga8:onH gB gS 0 15=(bn0,18):=by kernel_rfl
theorem ga9:Qx gC.bl=3:=by kernel_rfl
theorem Ir:BunOk gB:=⟨by decide,by decide,by decide⟩
theorem Fe:BunOk gC:=⟨by decide,by decide,by decide⟩
theorem TN [Known][KnownU8]:AP Tryz.prog 41 [] (.bool true) []:=by
 have h1:=fh7
 have h2:=Oc gB Ir 0 14
 rw[ga1,ga3]at h2
 have h3:=Oc gB Ir 0 15
 rw[ga2,ga4]at h3
 have h4:=Ob gB Ir 0 3
 rw[ga5]at h4
 have h5:=TK gB Ir (by decide) gS 0 9
 rw[ga7]at h5
 have h6:=TK gB Ir (by decide) gS 0 15
 rw[ga8]at h6
 have h7:=Ob gB Ir 4 3
 rw[ga6]at h7
 have h8:=Od gC Fe
 rw[ga9]at h8
 refine AP.ofA (Zl Tryz.func41 U Tryz.ntmps41 U U ?_)
 repeat'(first|(apply Zb (h1);kernel_rfl;(iterate 4 exact U))|(apply Zb (h2);kernel_rfl;(iterate 4 exact U))|(apply Zb (h3);kernel_rfl;(iterate 4 exact U))|(apply Zb (h4);kernel_rfl;(iterate 4 exact U))|(apply Zb (h5);kernel_rfl;(iterate 4 exact U))|(apply Zb (h6);kernel_rfl;(iterate 4 exact U))|(apply Zb (h7);kernel_rfl;(iterate 4 exact U))|(apply Zb (h8);kernel_rfl;(iterate 4 exact U))|(apply Zh Za;exact U)|(apply Zg Za;exact U)|refine Ze U U U Qt ?_|refine Zk U Qt U U ?_|refine Zm Za U U U U ?_|refine DA Za U U U U U U U U U U U U ?_)
 all_goals exact Qe
def Qu:List BlkV->List BlkV->Bool
 | [],[]=>true
 | a::l,b::m=>JE a b&&Qu l m
 | _,_=>false
theorem Is:∀ {l m:List BlkV},Qu l m=true->l.length=m.length
 | [],[],_=>rfl
 | a::l,b::m,h=>by
  rw[Qu,Bool.and_eq_true]at h
  rw[List.length_cons,List.length_cons,Is h.2]
 | [],_::_,h=>by cases h
 | _::_,[],h=>by cases h
theorem RT {l m:List BlkV}(h:l.length ≠ m.length):Qu l m=false:=by
 cases hs:Qu l m with
 | false=>rfl
 | true=>exact absurd (Is hs) h
theorem TO (l:List BlkV):Qu l l=true:=by
 induction l with
 | nil=>rfl
 | cons a l ih=>rw[Qu,G6,ih];rfl
theorem TP {l m:List BlkV}{i:Nat}{a b:BlkV}(ha:l[i]?=some a)(hb:m[i]?=some b):Qu (l.drop i) (m.drop i)=(JE a b&&Qu (l.drop (i+1)) (m.drop (i+1))):=by
 obtain⟨h1,h2⟩:=List.getElem?_eq_some_iff.1 ha
 obtain⟨h3,h4⟩:=List.getElem?_eq_some_iff.1 hb
 rw[List.drop_eq_getElem_cons h1,List.drop_eq_getElem_cons h3,h2,h4,Qu]
abbrev HM (a b:PriV):Bool:=((a.fl:Int)==(b.fl:Int))&&((a.sum==b.sum)&&((a.dest.i==b.dest.i)&&(((a.dest.n:Int)==(b.dest.n:Int))&&(((a.dest.s:Int)==(b.dest.s:Int))&&((a.dest.h==b.dest.h)&&((a.dest.d==b.dest.d)&&((a.rep.i==b.rep.i)&&(((a.rep.n:Int)==(b.rep.n:Int))&&(((a.rep.s:Int)==(b.rep.s:Int))&&((a.rep.h==b.rep.h)&&((a.rep.d==b.rep.d)&&((a.src.i==b.src.i)&&(((a.src.n:Int)==(b.src.n:Int))&&(((a.src.s:Int)==(b.src.s:Int))&&((a.src.h==b.src.h)&&((a.src.d==b.src.d)&&(((a.t:Int)==(b.t:Int))&&(((a.q:Int)==(b.q:Int))&&(((a.life:Int)==(b.life:Int))&&true)))))))))))))))))))
theorem MU (p:PriV):HM p p=true:=by simp[HM]
def Ol (b c:BunV):Bool:=HM b.p c.p&&Qu b.bl c.bl
theorem HO (b:BunV):Ol b b=true:=by unfold Ol;rw[MU,TO];rfl
theorem MV [Known](b c:BunV)(hb:b.bl.length<=1000000)(hc:c.bl.length<=1000000):AP Tryz.prog 33 [.agg (bnC b),.agg (bnC c)] (.bool (Ol b c)) []:=by
 have e1:=Yx b.bl
 have e2:=Yx c.bl
 have hU:=Vl b.bl
 have hUm:=Vl c.bl
 generalize hR:Ol b c=R
 unfold Ol at hR
 obtain⟨⟨fl,sum,⟨di,dn,ds,dh,dd⟩,⟨ri,rn,rs,rh,rd⟩,⟨xi,xn,xs,xh,xd⟩,t,q,life⟩,bl⟩:=b
 obtain⟨⟨fl2,sum2,⟨di2,dn2,ds2,dh2,dd2⟩,⟨ri2,rn2,rs2,rh2,rd2⟩,⟨xi2,xn2,xs2,xh2,xd2⟩,t2,q2,life2⟩,bl2⟩:=c
 dsimp only at *
 cases hP:HM ⟨fl,sum,⟨di,dn,ds,dh,dd⟩,⟨ri,rn,rs,rh,rd⟩,⟨xi,xn,xs,xh,xd⟩,t,q,life⟩ ⟨fl2,sum2,⟨di2,dn2,ds2,dh2,dd2⟩,⟨ri2,rn2,rs2,rh2,rd2⟩,⟨xi2,xn2,xs2,xh2,xd2⟩,t2,q2,life2⟩ with
 | false=>
  rw[hP,Bool.false_and]at hR
  subst hR
  have hP2:(!HM ⟨fl,sum,⟨di,dn,ds,dh,dd⟩,⟨ri,rn,rs,rh,rd⟩,⟨xi,xn,xs,xh,xd⟩,t,q,life⟩ ⟨fl2,sum2,⟨di2,dn2,ds2,dh2,dd2⟩,⟨ri2,rn2,rs2,rh2,rd2⟩,⟨xi2,xn2,xs2,xh2,xd2⟩,t2,q2,life2⟩)=true:=by rw[hP];rfl
  dsimp only[HM]at hP2
  refine AP.ofA (Zl Tryz.func33 U Tryz.ntmps33 U U ?_)
  repeat'(first|(apply Zh Za;exact U)|(apply Zg Za;exact U)|(apply Zo Za;exact U)|(apply Zn;(iterate 3 exact U);(first|with_reducible assumption|decide +kernel|(solve|simp only[bn])))|(apply Zk;exact U;(first|with_reducible assumption|decide +kernel|(solve|simp only[bn]));exact U;exact U)|(apply Zd;exact U;(first|with_reducible assumption|decide +kernel|(solve|simp only[bn])))|refine W1 Za U U U U Qk Qk U U U ?_)
  all_goals exact Qe
 | true=>
 rw[hP,Bool.true_and]at hR
 have hP2:(!HM ⟨fl,sum,⟨di,dn,ds,dh,dd⟩,⟨ri,rn,rs,rh,rd⟩,⟨xi,xn,xs,xh,xd⟩,t,q,life⟩ ⟨fl2,sum2,⟨di2,dn2,ds2,dh2,dd2⟩,⟨ri2,rn2,rs2,rh2,rd2⟩,⟨xi2,xn2,xs2,xh2,xd2⟩,t2,q2,life2⟩)=false:=by rw[hP];rfl
 dsimp only[HM]at hP2
 clear hP
 by_cases hlm:bl.length=bl2.length
 case neg=>
  rw[RT hlm]at hR
  subst hR
  have t1:(((ZP bl).length:Int) != ((ZP bl2).length:Int))=true:=by rw[bne_iff_ne];omega
  refine AP.ofA (Zl Tryz.func33 U Tryz.ntmps33 U U ?_)
  repeat'(first|(apply Zh Za;exact U)|(apply Zg Za;exact U)|(apply Zo Za;exact U)|(apply Ze;(iterate 3 exact U);(first|with_reducible assumption|decide +kernel|(solve|simp only[bn])))|(apply Zi;exact U;(first|with_reducible assumption|decide +kernel|(solve|simp only[bn]));exact U;exact U)|(apply Zd;exact U;(first|with_reducible assumption|decide +kernel|(solve|simp only[bn])))|refine Zm Za U U U U ?_|refine W1 Za U U U U Qk Qk U U U ?_)
  all_goals exact Qe
 have t1:(((ZP bl).length:Int) != ((ZP bl2).length:Int))=false:=by rw[bne_eq_false_iff_eq];omega
 refine AP.ofA (Zl Tryz.func33 U Tryz.ntmps33 U U ?_)
 repeat'(first|(apply Zh Za;exact U)|(apply Zg Za;exact U)|(apply Zo Za;exact U)|(apply Ze;(iterate 3 exact U);(first|with_reducible assumption|decide +kernel|(solve|simp only[bn])))|(apply Zi;exact U;(first|with_reducible assumption|decide +kernel|(solve|simp only[bn]));exact U;exact U)|(apply Zf;exact U;(first|with_reducible assumption|decide +kernel|(solve|simp only[bn])))|refine Zm Za U U U U ?_|refine W1 Za U U U U Qk Qk U U U ?_)
 refine ZJ (fun f tm bx fr=>∃ i:Nat,f+i=bl.length/\Qu (bl.drop i) (bl2.drop i)=R/\tm=[(2,.ptr 0 0),(3,.ptr 1 0),(5,.int .i64 (i:Int))]/\bx=[bnS ⟨fl,sum,⟨di,dn,ds,dh,dd⟩,⟨ri,rn,rs,rh,rd⟩,⟨xi,xn,xs,xh,xd⟩,t,q,life⟩ (.sl .ext (ZP bl)),bnS ⟨fl2,sum2,⟨di2,dn2,ds2,dh2,dd2⟩,⟨ri2,rn2,rs2,rh2,rd2⟩,⟨xi2,xn2,xs2,xh2,xd2⟩,t2,q2,life2⟩ (.sl .ext (ZP bl2))]/\fr=[]) (bl.length+1) (Lands.mk' (m:=bl.length) (Nat.lt_succ_self _) ⟨0,rfl,hR,rfl,rfl,rfl⟩ ?_ rfl rfl rfl rfl rfl rfl) ?_
 ·exact .cons rfl (.cons rfl (.cons rfl .nil))
 rintro f tm bx fr ⟨i,hf,hq,rfl,rfl,rfl⟩
 rcases Nat.lt_or_ge i bl.length with hlt|hge
 ·have hdl:decide ((i:Int)<((ZP bl).length:Int))=true:=decide_eq_true (by omega)
  obtain⟨y,hy⟩:∃ y,bl[i]?=some y:=⟨_,List.getElem?_eq_getElem hlt⟩
  obtain⟨z,hz⟩:∃ y,bl2[i]?=some y:=⟨_,List.getElem?_eq_getElem (by omega)⟩
  have hv:=Yy hy
  have hv2:=Yy hz
  have hc:=MI y z
  rw[TP hy hz]at hq
  have ei:IntKind.i64.wrap ((i:Int)+1)=((i+1:Nat):Int):=by rw[IntWalk.i64_in _ (by omega)];omega
  cases hs:JE y z with
  | false=>
   rw[hs]at hc hq
   have hq:false=R:=hq
   subst hq
   repeat'(first|(apply Zb (hc);kernel_rfl;(iterate 4 exact U))|(apply Zh Za;exact U)|(apply Zg Za;exact U)|(apply Zo Za;exact U)|(apply Zd;exact U;(first|with_reducible assumption|decide +kernel|(solve|simp only[bn])))|refine Z0 ?_|refine Zm Za U U U U ?_|(apply Zq 10 ZF;decide +kernel;kernel_rfl;kernel_rfl;kernel_rfl;exact U;exact U)|(apply Zt;(iterate 4 exact U))|exact AE.nil _ _ _ _|(apply Zw;exact U)|(apply Zz;exact U;exact U;decide +kernel;exact U)|(apply ZA;exact U)|exact AO.nil _ _ _|(apply Zs;(decide +kernel))|exact AOs.nil|exact ZI rfl rfl|(apply Zu Za;(iterate 6 exact U);(first|exact Qt|rotate_left);(first|with_reducible assumption|decide +kernel|exact U);(first|exact Zj rfl|with_reducible assumption|decide +kernel|rotate_left)))
   all_goals exact Qe
  | true=>
   rw[hs,Bool.true_and]at hq
   rw[hs]at hc
   repeat'(first|rw[ei]|(apply Zb (hc);kernel_rfl;(iterate 4 exact U))|(apply Zh Za;exact U)|(apply Zg Za;exact U)|(apply Zo Za;exact U)|(apply Zd;exact U;(first|with_reducible assumption|decide +kernel|(solve|simp only[bn])))|(apply Zf;exact U;(first|with_reducible assumption|decide +kernel|(solve|simp only[bn])))|refine Zm Za U U U U ?_|(apply Zq 10 ZF;decide +kernel;kernel_rfl;kernel_rfl;kernel_rfl;exact U;exact U)|(apply Zt;(iterate 4 exact U))|exact AE.nil _ _ _ _|(apply Zw;exact U)|(apply Zz;exact U;exact U;decide +kernel;exact U)|(apply ZA;exact U)|exact AO.nil _ _ _|(apply Zs;(decide +kernel))|exact AOs.nil|exact ZI rfl rfl|(apply Zu Za;(iterate 6 exact U);(first|exact Qt|rotate_left);(first|with_reducible assumption|decide +kernel|exact U);(first|exact Zj rfl|with_reducible assumption|decide +kernel|rotate_left)))
   refine Lands.mk' (m:=f-1) (by omega) ⟨i+1,by omega,hq,rfl,rfl,rfl⟩ ?_ rfl rfl rfl rfl rfl rfl
   exact .cons rfl (.cons rfl (.cons rfl .nil))
 ·have hdl:decide ((i:Int)<((ZP bl).length:Int))=false:=decide_eq_false (by omega)
  rw[List.drop_eq_nil_of_le hge,List.drop_eq_nil_of_le (by omega)]at hq
  have hq:true=R:=hq
  subst hq
  repeat'(first|(apply Zh Za;exact U)|(apply Zg Za;exact U)|(apply Zo Za;exact U)|(apply Zf;exact U;(first|with_reducible assumption|decide +kernel|(solve|simp only[bn])))|refine Zm Za U U U U ?_)
  all_goals exact Qe
theorem Ff [Known](b:BunV)(self:EidV)(s n:Nat)(g1 g2:Bool)
  (hA:AP Tryz.prog 41 [] (.bool true) [])
  (hG:AP Tryz.prog 27 [.agg (bnC b)] (.bool g1) [])
  (t0:decide (IntKind.i64.wrap ((self.h.length:Int)+(self.d.length:Int))>300)=g2) (h:g1=true\/(g1=false/\g2=true)) :
  AP Tryz.prog 7 [.agg (bnC b),.agg (eC self),.int .u64 (s:Int),.int .u64 (n:Int)] (.bool true) []:=by
 obtain⟨⟨fl,sum,⟨di,dn,ds,dh,dd⟩,⟨ri,rn,rs,rh,rd⟩,⟨xi,xn,xs,xh,xd⟩,t,q,life⟩,bl⟩:=b
 obtain⟨si,sn,ss,sh,sd⟩:=self
 try dsimp only at *
 rcases h with rfl|⟨rfl,rfl⟩
 all_goals
  refine AP.ofA (Zl Tryz.func7 U Tryz.ntmps7 U U ?_)
  repeat'(first|(apply Zb (hA);kernel_rfl;(iterate 4 exact U))|(apply Zb (hG);kernel_rfl;(iterate 4 exact U))|(apply Zh Za;exact U)|(apply Zg Za;exact U)|(apply Zo Za;exact U)|(apply Ze;(iterate 3 exact U);(first|with_reducible assumption|decide +kernel|(solve|simp only[bn])))|(apply Zn;(iterate 3 exact U);(first|with_reducible assumption|decide +kernel|(solve|simp only[bn])))|(apply Zk;exact U;(first|with_reducible assumption|decide +kernel|(solve|simp only[bn]));exact U;exact U)|(apply Zi;exact U;(first|with_reducible assumption|decide +kernel|(solve|simp only[bn]));exact U;exact U)|(apply Zd;exact U;(first|with_reducible assumption|decide +kernel|(solve|simp only[bn])))|refine Yh Za U U U U ?_)
  all_goals exact Qe
theorem F3 [Known](b:BunV)(self:EidV)(s n:Nat)(A:BunV)(e:Int)
  (hA:AP Tryz.prog 41 [] (.bool true) [])
  (hG:AP Tryz.prog 27 [.agg (bnC b)] (.bool false) [])
  (t0:decide (IntKind.i64.wrap ((self.h.length:Int)+(self.d.length:Int))>300)=false)
  (hO:AP Tryz.prog 14 [.agg (bnC b),.agg (eC self),.int .u64 (s:Int),.int .u64 (n:Int)] (.tup [.agg (bnC A),.int .i64 e]) [])
  (hS:AP Tryz.prog 34 [.agg (bnC b)] (.agg (bnC b)) [])
  (hJ:AP Tryz.prog 28 [.agg (eC self)] (.agg (eC self)) [])
  (hD:AP Tryz.prog 42 [.agg (bnC b),.agg (eC self),.int .u64 (s:Int),.int .u64 (n:Int)] (.tup [.agg (bnC A),.int .i64 e]) [])
  (hM:AP Tryz.prog 34 [.agg (bnC A)] (.agg (bnC A)) [])
  (hN:AP Tryz.prog 33 [.agg (bnC A),.agg (bnC A)] (.bool true) []) (y1:(e==e)=true) :
  AP Tryz.prog 7 [.agg (bnC b),.agg (eC self),.int .u64 (s:Int),.int .u64 (n:Int)] (.bool true) []:=by
 obtain⟨⟨fl,sum,⟨di,dn,ds,dh,dd⟩,⟨ri,rn,rs,rh,rd⟩,⟨xi,xn,xs,xh,xd⟩,t,q,life⟩,bl⟩:=b
 obtain⟨⟨afl,asum,⟨adi,adn,ads,adh,add⟩,⟨ari,arn,ars,arh,ard⟩,⟨axi,axn,axs,axh,axd⟩,at',aq,alife⟩,al⟩:=A
 obtain⟨si,sn,ss,sh,sd⟩:=self
 try dsimp only at *
 refine AP.ofA (Zl Tryz.func7 U Tryz.ntmps7 U U ?_)
 repeat'(first|(apply Zb (hA);kernel_rfl;(iterate 4 exact U))|(apply Zb (hG);kernel_rfl;(iterate 4 exact U))|(apply Zb (hO);kernel_rfl;(iterate 4 exact U))|(apply Zb (hS);kernel_rfl;(iterate 4 exact U))|(apply Zb (hJ);kernel_rfl;(iterate 4 exact U))|(apply Zb (hD);kernel_rfl;(iterate 4 exact U))|(apply Zb (hM);kernel_rfl;(iterate 4 exact U))|(apply Zb (hN);kernel_rfl;(iterate 4 exact U))|(apply Zh Za;exact U)|(apply Zg Za;exact U)|(apply Zo Za;exact U)|(apply Ze;(iterate 3 exact U);(first|with_reducible assumption|decide +kernel|(solve|simp only[bn])))|(apply Zk;exact U;(first|with_reducible assumption|decide +kernel|(solve|simp only[bn]));exact U;exact U)|(apply Zi;exact U;(first|with_reducible assumption|decide +kernel|(solve|simp only[bn]));exact U;exact U)|(apply Zf;exact U;(first|with_reducible assumption|decide +kernel|(solve|simp only[bn])))|refine Yh Za U U U U ?_|(apply Zq 10 ZF;decide +kernel;kernel_rfl;kernel_rfl;kernel_rfl;exact U;exact U)|(apply Zq 12 ZF;decide +kernel;kernel_rfl;kernel_rfl;kernel_rfl;exact U;exact U)|(apply Zt;(iterate 4 exact U))|exact AE.nil _ _ _ _|(apply Zw;exact U)|(apply Yp;exact U)|(apply WI;exact U)|(apply Zz;exact U;exact U;decide +kernel;exact U)|(apply ZA;exact U)|(apply YQ;exact U)|(apply VA;exact U)|exact AO.nil _ _ _|(apply Zs;(decide +kernel))|(apply Yf;(iterate 3 exact U))|exact AOs.nil|exact ZI rfl rfl|exact WB rfl rfl|exact WP rfl)
 all_goals(apply Zp [];(apply Zc Za;exact U);(iterate 4 exact U))
 all_goals first|rfl|rw[y1]
theorem NM {self:EidV}{here:Int}:∀(l acc r:List BlkV),onC self here acc l=some r->r.length=acc.length+l.length
 | [],acc,r,h=>by rw[onC]at h;cases h;rfl
 | c::l,acc,r,h=>by
  rw[onC]at h
  cases hc:(Wi c self here).2 with
  | false=>rw[hc]at h;cases h
  | true=>
   rw[hc]at h
   have:=NM l _ r h
   rw[List.length_append,List.length_cons,List.length_nil]at this
   rw[this,List.length_cons];omega
theorem Dm (b:BunV)(self:EidV)(s n:Int)(h:b.bl.length<=20):(onH b self s n).1.bl.length<=1000000:=by
 have h0:bn0.bl.length<=1000000:=Nat.zero_le _
 unfold onH
 split
 ·exact h0
 split
 ·exact h0
 split
 ·exact h0
 split
 ·exact h0
 cases hr:onC self (IntKind.u64.wrap (n-s)) (X9 b self) b.bl with
 | none=>exact h0
 | some r=>
  have hl:=NM _ _ _ hr
  have hp:(X9 b self).length<=1:=by unfold X9;split<;>simp
  unfold Vk
  dsimp only
  split
  ·show r.length<=_
   omega
  ·exact h0
theorem RU [Known][KnownU8](b:BunV)(self:EidV)(s n:Nat)(hfb:b.p.fl<18446744073709551616/\∀ c ∈ b.bl,c.fl<18446744073709551616)(hf:Fit b.p.dest/\Fit b.p.rep/\Fit b.p.src)(hsf:Fit self):AP Tryz.prog 7 [.agg (bnC b),.agg (eC self),.int .u64 (s:Int),.int .u64 (n:Int)] (.bool true) []:=by
 have hA:=TN
 have hG:=MT b
 cases g1:Xc b with
 | true=>
  rw[g1]at hG
  exact Ff b self s n true _ hA hG rfl (.inl rfl)
 | false=>
 rw[g1]at hG
 cases t0:decide (IntKind.i64.wrap ((self.h.length:Int)+(self.d.length:Int))>300) with
 | true=>exact Ff b self s n false true hA hG t0 (.inr ⟨rfl,rfl⟩)
 | false=>
 have hb:BunOk b:=⟨hfb.1,by have:=(Ok g1).1;omega,fun c hc=>⟨hfb.2 c hc,Nat.le_trans ((Ok g1).2 c hc) (by omega)⟩⟩
 have h20:=(Ok g1).1
 have hl:=Dm b self s n h20
 exact F3 b self s n (onH b self s n).1 (onH b self s n).2 hA hG t0 (TK b hb (by omega) self s n) (Rz b hb.len) (IU self) (Dl b hb (by omega) hf self hsf s n) (Rz _ hl) (by have h:=MV _ _ hl hl;rw[HO]at h;exact h) (by simp)
end Go.Proofs.YtmljabhmajehnaaGreatDoor
end
section
open Go.RowKit Go.Pl
namespace Go.Pl
def I7 {α:Type}(P:Program)(fs:Array Field)(i o:Nat)(R:Rep α):Prop:=
 ∀(H:Type) (enc:TypeId × Value->H) (W:World) (spare:Nat->Bool) (held:Bool) (n:Nat) (cs:List Value) (xs:List (DataW H × List MemPlace)),cs.length=o+R.n->xs.length=fs.size ->
  (∀(j:Nat) (f:Field),fs[j]?=some f->DataW.trod enc P W 0 spare held n f.type ((cs.drop f.offset).take (P.cellsOf f.type))=xs[j]?)->∃ x,R.ok W (· < W.heap.size) (cs.drop o) x
variable {P:Program} {t:TypeId} {fs:Array Field}
theorem Iu {α:Type}{R:Rep α}{i o:Nat}{f:Field}(hf:fs[i]?=some f)(ho:f.offset=o)(hc:P.cellsOf f.type=R.n)(h:Y9 P f.type R){H:Type}{enc:TypeId × Value->H}{W:World}{spare:Nat->Bool}{held:Bool}{n:Nat}{cs:List Value}{xs:List (DataW H × List MemPlace)}(hl:xs.length=fs.size)
  (hg:∀(j:Nat) (f:Field),fs[j]?=some f->DataW.trod enc P W 0 spare held n f.type ((cs.drop f.offset).take (P.cellsOf f.type))=xs[j]?):∃ x,R.ok W (· < W.heap.size) ((cs.drop o).take R.n) x:=by
 have e:=hg i f hf
 rw[ho,hc]at e
 have hi:i<xs.length:=by
  rw[hl]
  exact(Array.getElem?_eq_some_iff.1 hf).1
 exact h H enc W spare held n _ _ (e.trans (List.getElem?_eq_getElem hi))
theorem JN {α:Type}{R:Rep α}{i o:Nat}{f:Field}(hf:fs[i]?=some f)(ho:f.offset=o)(hc:P.cellsOf f.type=R.n)(h:Y9 P f.type R):I7 P fs i o R:=by
 intro H enc W spare held n cs xs hcl hl hg
 obtain⟨x,hx⟩:=Iu hf ho hc h hl hg
 rw[List.take_of_length_le (by rw[List.length_drop];omega)]at hx
 exact⟨x,hx⟩
theorem YW {α β:Type}{R:Rep α}{R':Rep β}{i o:Nat}{f:Field}(hf:fs[i]?=some f)(ho:f.offset=o)(hc:P.cellsOf f.type=R.n)(h:Y9 P f.type R)(h':I7 P fs (i+1) (o+R.n) R'):I7 P fs i o (R.prod R'):=by
 intro H enc W spare held n cs xs hcl hl hg
 obtain⟨x,hx⟩:=Iu hf ho hc h hl hg
 have hn:(R.prod R').n=R.n+R'.n:=rfl
 obtain⟨x',hx'⟩:=h' H enc W spare held n cs xs (by rw[hn]at hcl;omega) hl hg
 refine⟨(x,x'),(cs.drop o).take R.n,(cs.drop o).drop R.n,(List.take_append_drop _ _).symm,hx,?_⟩
 rw[List.drop_drop]
 exact hx'
theorem Qp {α:Type}{R:Rep α}(hs:P.underlying t=some (.struct fs))(hc:P.cellsOf t=R.n)(h:I7 P fs 0 0 R):Y9 P t R:=by
 intro H enc W spare held fuel cs y hy
 obtain⟨xs,n,_,_,hl,hxl,hg⟩:=DataW.trod_struct hs hy
 exact h H enc W spare held n cs xs (by omega) hxl hg
end Go.Pl
end
section
open Go.RowKit Go.Pl Go.Av
namespace Go.Proofs.YtmljabhmajehnaaGreatDoor
set_option maxHeartbeats 4000000
abbrev RPr:Rep (Nat × Int × XE × XE × (XE × Nat × Nat) × Nat):=Rep.u64.prod (Rep.i64.prod (RE.prod (RE.prod (Go.Pl.RI.prod Rep.u64))))
theorem Dn:Y9 Tryz.prog 28 RPr:=
 Qp Tryz.underlying28 (by kernel_rfl) (YW rfl rfl (by kernel_rfl) (WW Tryz.underlying22) (YW rfl rfl (by kernel_rfl) (Oq Tryz.underlying3)
  (YW rfl rfl (by kernel_rfl) Nx (YW rfl rfl (by kernel_rfl) Nx (YW rfl rfl (by kernel_rfl) DS (JN rfl rfl (by kernel_rfl) (WW Tryz.underlying22)))))))
abbrev XPr:=Nat × Int × XE × XE × (XE × Nat × Nat) × Nat
def XPr.v (x:XPr):PriV:=⟨x.1,x.2.1,x.2.2.1.v,x.2.2.2.1.v,x.2.2.2.2.1.1.v,x.2.2.2.2.1.2.1,x.2.2.2.2.1.2.2,x.2.2.2.2.2⟩
abbrev RB:Rep (Nat × Nat × Nat × Int × List UInt8):=Rep.u64.prod (Rep.u64.prod (Rep.u64.prod (Rep.i64.prod (Rep.slice Rep.byte (by decide)))))
theorem Fg:Y9 Tryz.prog 40 RB:=
 Qp Tryz.underlying40 (by kernel_rfl) (YW rfl rfl (by kernel_rfl) (WW Tryz.underlying22) (YW rfl rfl (by kernel_rfl) (WW Tryz.underlying22)
  (YW rfl rfl (by kernel_rfl) (WW Tryz.underlying22) (YW rfl rfl (by kernel_rfl) (Oq Tryz.underlying3)
   (JN rfl rfl (by kernel_rfl) (XO (R:=Rep.byte) (by decide) Tryz.underlying32 (by kernel_rfl) (HS Tryz.underlying5)))))))
abbrev XB:=Nat × Nat × Nat × Int × List UInt8
def XB.v (x:XB):BlkV:=⟨x.1,x.2.1,x.2.2.1,x.2.2.2.1,x.2.2.2.2⟩
abbrev RBn:Rep ((Nat × Int × XE × XE × (XE × Nat × Nat) × Nat) × List XB):=RPr.prod (Rep.slice RB (by decide))
theorem Dp:Y9 Tryz.prog 31 RBn:=
 Qp Tryz.underlying31 (by kernel_rfl) (YW rfl rfl (by kernel_rfl) Dn (JN rfl rfl (by kernel_rfl) (XO (R:=RB) (by decide) Tryz.underlying29 (by kernel_rfl) Fg)))
abbrev XBn:=(Nat × Int × XE × XE × (XE × Nat × Nat) × Nat) × List XB
def XBn.v (x:XBn):BunV:=⟨⟨x.1.1,x.1.2.1,x.1.2.2.1.v,x.1.2.2.2.1.v,x.1.2.2.2.2.1.1.v,x.1.2.2.2.2.1.2.1,x.1.2.2.2.2.1.2.2,x.1.2.2.2.2.2⟩,x.2.map XB.v⟩
theorem Dq:ToE RB (fun x=>.agg [.int .u64 (x.1:Int),.int .u64 (x.2.1:Int),.int .u64 (x.2.2.1:Int),.int .i64 x.2.2.2.1,.sl (x.2.2.2.2.map E.byte)]):=ToE.u64.prod (ToE.u64.prod (ToE.u64.prod (ToE.i64.prod (ToE.byte.slice (by decide)))))
theorem F4 [Known]{W:World}{cs:List Value}{x:XBn}(h:RBn.ok W (· < W.heap.size) cs x):V W (g0 W) [] (.agg (bnC x.v)) (.agg cs.toArray):=by
 obtain⟨⟨fl,sum,⟨di,dn,ds,dh,dd⟩,⟨ri,rn,rs,rh,rd⟩,⟨⟨xi,xn,xs,xh,xd⟩,t,q⟩,life⟩,bl⟩:=x
 have te:=(ToE.u64.prod (ToE.i64.prod (Kl.prod (Kl.prod ((Kl.prod (ToE.u64.prod ToE.u64)).prod ToE.u64))))).prod (Dq.slice (by decide))
 have h2:=ToE.agg te (l:=[.int .u64 (fl:Int),.int .i64 sum,.bool di,.int .u64 (dn:Int),.int .u64 (ds:Int),.str dh,.str dd,.bool ri,.int .u64 (rn:Int),.int .u64 (rs:Int),.str rh,.str rd,.bool xi,.int .u64 (xn:Int),.int .u64 (xs:Int),.str xh,.str xd,.int .u64 (t:Int),.int .u64 (q:Int),.int .u64 (life:Int),.sl (bl.map fun x=>.agg [.int .u64 (x.1:Int),.int .u64 (x.2.1:Int),.int .u64 (x.2.2.1:Int),.int .i64 x.2.2.2.1,.sl (x.2.2.2.2.map E.byte)])]) rfl h
 have e:ZP (bl.map XB.v)=bl.map fun x=>.agg [.int .u64 (x.1:Int),.int .u64 (x.2.1:Int),.int .u64 (x.2.2.1:Int),.int .i64 x.2.2.2.1,.sl (x.2.2.2.2.map E.byte)]:=List.map_map ..
 rw[<- e]at h2
 exact h2
theorem HP {α:Type}{R:Rep α}{w:World}{S:Nat->Prop}:∀ {l:List α} {cs:List Value},Run R w S cs l->∀ x ∈ l,∃ c,R.ok w S c x
 | [],_,_,x,hx=>by simp at hx
 | y::l,cs,⟨c1,c2,_,h1,h2⟩,x,hx=>by
  rcases List.mem_cons.1 hx with rfl|hx
  ·exact⟨c1,h1⟩
  ·exact HP h2 x hx
theorem Dr {W:World}{S:Nat->Prop}{cs:List Value}{x:XB}(h:RB.ok W S cs x):x.v.fl<18446744073709551616:=by
 obtain⟨ty,num,fl,sum,data⟩:=x
 obtain⟨_,_,_,_,_,_,_,_,_,_,_,⟨_,h1⟩,_⟩:=h
 exact h1
theorem Fh {W:World}{cs:List Value}{x:XBn}(h:RBn.ok W (· < W.heap.size) cs x):x.v.p.fl<18446744073709551616/\∀ c ∈ x.v.bl,c.fl<18446744073709551616:=by
 obtain⟨⟨fl,r⟩,bl⟩:=x
 obtain⟨_,_,_,⟨_,_,_,⟨_,h1⟩,_⟩,⟨v,_,A,cap,_,_,_,c3,hr,_⟩⟩:=h
 refine⟨h1,fun c hc=>?_⟩
 obtain⟨y,hy,rfl⟩:=List.mem_map.1 hc
 obtain⟨c4,h4⟩:=HP hr y hy
 exact Dr h4
theorem Xd {W:World}{S:Nat->Prop}{cs:List Value}{x:XE}(h:RE.ok W S cs x):Fit x.v:=by
 obtain⟨i,n,s,hh,d⟩:=x
 obtain⟨c0,c1,rfl,h0,h1⟩:=h
 obtain⟨c2,c3,rfl,h2,h3⟩:=h1
 obtain⟨c4,c5,rfl,h4,h5⟩:=h3
 obtain⟨c6,c7,rfl,h6,h7⟩:=h5
 exact⟨h6.2,h7.2⟩
theorem S8 {W:World}{S:Nat->Prop}{cs:List Value}{x:XPr}(h:RPr.ok W S cs x):Fit x.v.dest/\Fit x.v.rep/\Fit x.v.src:=by
 obtain⟨fl,sum,d,r,⟨s,t,q⟩,life⟩:=x
 obtain⟨c0,c1,rfl,h0,h1⟩:=h
 obtain⟨c2,c3,rfl,h2,h3⟩:=h1
 obtain⟨c4,c5,rfl,h4,h5⟩:=h3
 obtain⟨c6,c7,rfl,h6,h7⟩:=h5
 obtain⟨c8,c9,rfl,h8,h9⟩:=h7
 obtain⟨ca,cb,rfl,ha,hb⟩:=h8
 exact⟨Xd h4,Xd h6,Xd ha⟩
theorem S9 {W:World}{S:Nat->Prop}{cs:List Value}{x:XBn}(h:RBn.ok W S cs x):Fit x.v.p.dest/\Fit x.v.p.rep/\Fit x.v.p.src:=by
 obtain⟨p,bl⟩:=x
 obtain⟨c0,c1,rfl,h0,h1⟩:=h
 exact S8 h0
end Go.Proofs.YtmljabhmajehnaaGreatDoor
end
