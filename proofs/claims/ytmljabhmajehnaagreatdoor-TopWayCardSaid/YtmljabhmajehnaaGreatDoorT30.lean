/- Package hop: the number that is free; whether a bundle's hops are used up; a block as it is sent on. -/
import Derived.Test.YtmljabhmajehnaaGreatDoorT29
import Derived.Test.YtmljabhmajehnaaGreatDoorT28
set_option linter.unusedVariables false
set_option linter.unusedSimpArgs false
section
open Go.RowKit Go.Pl Go.Av
namespace Go.Proofs.YtmljabhmajehnaaGreatDoor
set_option maxHeartbeats 4000000
def Nl (l:List BlkV):Nat->Nat->Nat
 | 0,n=>n
 | f+1,n=>match l.any (U7 n) with
  | true=>Nl l f (n+1)
  | false=>n
def JJ (l:List BlkV):Nat:=Nl l l.length 2
theorem Nm {l:List BlkV}{n:Nat}(h:l.any (U7 n)=true):l.countP (fun c=>decide (n+1<=c.num))<l.countP (fun c=>decide (n<=c.num)):=by
 induction l with
 | nil=>simp at h
 | cons c l ih=>
  have hle:l.countP (fun c=>decide (n+1<=c.num))<=l.countP (fun c=>decide (n<=c.num)):=List.countP_mono_left fun c _ h=>by simp at h ⊢;omega
  rw[List.countP_cons,List.countP_cons]
  rw[List.any_cons,Bool.or_eq_true]at h
  by_cases e:c.num=n
  ·have h1:¬ (n+1<=c.num):=by omega
   have h2:n<=c.num:=by omega
   simp only[h1,h2,decide_true,decide_false,if_true]
   simp
   omega
  ·have hl:l.any (U7 n)=true:=by
    rcases h with h|h
    ·exfalso;simp[U7]at h;omega
    ·exact h
   have:=ih hl
   by_cases h2:n+1<=c.num
   ·have h3:n<=c.num:=by omega
    simp only[h2,h3,decide_true,if_true]
    omega
   ·have h3:¬ n<=c.num:=by omega
    simp only[h2,h3,decide_false]
    simpa using this
theorem I6 [Known](b:BunV)(hb:BunOk b):AP Tryz.prog 54 [.agg (bnC b)] (.int .u64 (JJ b.bl:Int)) []:=by
 have hl:=hb.len
 clear hb
 obtain⟨⟨fl,sum,⟨di,dn,ds,dh,dd⟩,⟨ri,rn,rs,rh,rd⟩,⟨xi,xn,xs,xh,xd⟩,t,q,life⟩,bl⟩:=b
 dsimp only at *
 generalize hR:JJ bl=R
 refine AP.ofA (Zk Tryz.func54 Z Tryz.ntmps54 Z Z ?_)
 repeat'(first|(apply Ze Za;exact Z))
 show AW _ _ _ _
 refine ZW (fun f tm bx fr=>∃(n:Nat),bl.countP (fun c=>decide (n<=c.num))<=f/\f+n<=bl.length+2/\Nl bl f n=R/\tm=[(1,.ptr 0 0),(3,.ptr 1 0),(4,.fn 101 [.ptr 1 0])]/\bx=[[.int .u64 (fl:Int),.int .i64 sum,.bool di,.int .u64 (dn:Int),.int .u64 (ds:Int),.str dh,.str dd,.bool ri,.int .u64 (rn:Int),.int .u64 (rs:Int),.str rh,.str rd,.bool xi,.int .u64 (xn:Int),.int .u64 (xs:Int),.str xh,.str xd,.int .u64 (t:Int),.int .u64 (q:Int),.int .u64 (life:Int),.sl .ext (ZU bl)],[.int .u64 (n:Int)]]/\fr=[]) (bl.length+1) (Lands.mk' (m:=bl.length) (Nat.lt_succ_self _) ⟨2,List.countP_le_length,by omega,hR,rfl,rfl,rfl⟩ ?_ rfl rfl rfl rfl rfl rfl) ?_
 ·exact .cons rfl (.cons rfl (.cons rfl .nil))
 rintro f tm bx fr ⟨n,hcnt,hfn,hq,rfl,rfl,rfl⟩
 have hC:=Nk bl n hl
 rw[Lv]at hC
 have en:IntKind.u64.wrap ((n:Int)+1)=((n+1:Nat):Int):=by rw[IntWalk.u64_in _ (by omega)];omega
 cases ha:bl.any (U7 n) with
 | true=>
  rw[ha]at hC
  have hup:=Nm ha
  obtain⟨f',rfl⟩:∃ f',f=f'+1:=⟨f-1,by omega⟩
  rw[Nl,ha]at hq
  dsimp only at hq
  repeat'(first|(apply Zz [1] (hC);kernel_rfl;(iterate 7 exact Z))|rw[en]|(apply Zh Za;exact Z)|(apply Ze Za;exact Z)|(apply Zq Za;exact Z)|refine Zd Z Qt ?_|refine YJ ?_)
  refine Lands.mk' (m:=f') (by omega) ⟨n+1,by omega,by omega,hq,rfl,rfl,rfl⟩ ?_ rfl rfl rfl rfl rfl rfl
  exact .cons rfl (.cons rfl (.cons rfl .nil))
 | false=>
  rw[ha]at hC
  have hq:n=R:=by
   cases f with
   | zero=>exact hq
   | succ f=>rw[Nl,ha]at hq;exact hq
  subst hq
  repeat'(first|(apply Zz [1] (hC);kernel_rfl;(iterate 7 exact Z))|(apply Zh Za;exact Z)|(apply Ze Za;exact Z)|(apply Zq Za;exact Z)|refine Zf Z Qt ?_)
  all_goals exact Qe
def Uu (c:BlkV):Nat:=match Wq c 10 != 0 with
 | true=>0
 | false=>(Vg c.data).1
def U8 (c:BlkV):Nat:=match Wq c 10 != 0 with
 | true=>0
 | false=>(Vg c.data).2.1
theorem UR [Known][KnownU8](c:BlkV)(hd:c.data.length<=140737488351232):AP Tryz.prog 13 [.agg (bkC c)] (.tup [.int .u64 (Uu c:Int),.int .u64 (U8 c:Int),.int .i64 (Wq c 10)]) []:=by
 unfold Uu U8
 exact Hz c hd
def WN (b:BunV):Bool:=match b.bl.find? (WO 10) with
 | some c=>(Wq c 10==0)&&decide ((U8 c:Int) ≥ (Uu c:Int))
 | none=>false
theorem HO [Known][KnownU8](b:BunV)(hb:BunOk b):AP Tryz.prog 52 [.agg (bnC b)] (.bool (WN b)) []:=by
 have hF:=Q3 b 10 hb.len (fun c hc=>Nat.le_trans (hb.bl c hc).2 (by omega))
 have hbl:=hb.bl
 unfold WN
 cases hf:b.bl.find? (WO 10) with
 | none=>
  rw[hf]at hF
  have hH:=UR bk0 (by decide)
  dsimp only[UP]at hF ⊢
  clear hb hbl hf
  generalize Uu bk0=L0 at *
  generalize U8 bk0=N0 at *
  generalize Wq bk0 10=e at *
  obtain⟨⟨fl,sum,⟨di,dn,ds,dh,dd⟩,⟨ri,rn,rs,rh,rd⟩,⟨xi,xn,xs,xh,xd⟩,t,q,life⟩,bl⟩:=b
  refine AP.ofA (Zk Tryz.func52 Z Tryz.ntmps52 Z Z ?_)
  repeat'(first|(apply Zb (hF);kernel_rfl;(iterate 4 exact Z))|(apply Zb (hH);kernel_rfl;(iterate 4 exact Z))|(apply Zh Za;exact Z)|(apply Ze Za;exact Z)|refine Zv Z Z Z Qt ?_|refine Zi Z Qt Z Z ?_)
  all_goals exact Qe
 | some c=>
  rw[hf]at hF
  have hH:=UR c (Nat.le_trans (hbl c (List.mem_of_find?_eq_some hf)).2 (by omega))
  dsimp only[UP]at hF ⊢
  clear hb hbl hf
  generalize Uu c=L0 at *
  generalize U8 c=N0 at *
  generalize Wq c 10=e at *
  obtain⟨cty,cnum,cfl,csum,cdata⟩:=c
  obtain⟨⟨fl,sum,⟨di,dn,ds,dh,dd⟩,⟨ri,rn,rs,rh,rd⟩,⟨xi,xn,xs,xh,xd⟩,t,q,life⟩,bl⟩:=b
  cases t1:(e==0)
  all_goals
   refine AP.ofA (Zk Tryz.func52 Z Tryz.ntmps52 Z Z ?_)
   repeat'(first|(apply Zb (hF);kernel_rfl;(iterate 4 exact Z))|(apply Zb (hH);kernel_rfl;(iterate 4 exact Z))|(apply Zh Za;exact Z)|(apply Ze Za;exact Z)|refine Zg Z Z Z Qt ?_|refine Zv Z Z Z Qt ?_|refine Zl Z Qt Z Z ?_|refine Zi Z Qt Z Z ?_)
   all_goals exact Qe
def WQ (a b:Int):Nat:=(IntKind.u64.wrap (a+b)).toNat
theorem Ie (a b:Int):IntKind.u64.wrap (a+b)=((WQ a b:Nat):Int):=by
 unfold WQ
 have h:0<=IntKind.u64.wrap (a+b):=by simp only[IntKind.wrap,IntKind.signed,IntKind.bits];simp;omega
 omega
theorem Ig (a b:Int):WQ a b<18446744073709551616:=by
 unfold WQ
 have h:IntKind.u64.wrap (a+b)<18446744073709551616:=by simp only[IntKind.wrap,IntKind.signed,IntKind.bits];simp;omega
 omega
def Xz (c:BlkV)(self:EidV):BlkV × Int:=ofV 6 c.num c.sum (if ZJ self then Z8 self else .mk 0 0 [] []) (if ZJ self then 0 else 3)
def Q4 (r:BlkV × Int)(fl:Nat):BlkV × Bool:=(⟨r.1.ty,r.1.num,fl,r.1.sum,r.1.data⟩,r.2==0)
def YO (c:BlkV)(self:EidV)(here:Int):BlkV × Bool:=match((c.ty:Int)==6) with
 | true=>Q4 (Xz c self) c.fl
 | false=>match((c.ty:Int)==7) with
  | true=>Q4 (ofV 7 c.num c.sum (.mk 0 (WQ (UQ c:Int) here) [] []) 0) c.fl
  | false=>match((c.ty:Int)==10) with
   | true=>Q4 (ofV 10 c.num c.sum (Ut (Uu c) (WQ (U8 c:Int) 1)) 0) c.fl
   | false=>(c,true)
abbrev chD (r:BlkV × Bool):D:=.tup [.agg (bkC r.1),.bool r.2]
theorem XA [Known][KnownU8](c:BlkV)(self:EidV)(here:Int)(hd:c.data.length<=140737488351232)(hL:Uu c<18446744073709551616):AP Tryz.prog 55 [.agg (bkC c),.agg (eC self),.int .u64 here] (chD (YO c self here)) []:=by
 have hP:AP Tryz.prog 53 [.int .u64 (c.num:Int),.int .i64 c.sum,.agg (eC self)] (K2 (Xz c self)) []:=KC c.num c.sum self
 have hA:AP Tryz.prog 103 [.agg (bkC c)] (.tup [.int .u64 (UQ c:Int),.int .i64 (Wq c 7)]) []:=by
  unfold UQ
  exact O6 c hd
 have hH:=UR c hd
 have hOA:=T3 c.num c.sum (WQ (UQ c:Int) here) (Ig _ _)
 have hOH:=Hy c.num c.sum (Uu c) (WQ (U8 c:Int) 1) hL (Ig _ _)
 have hC:=WW c.data (by omega)
 have e1:=Ie (UQ c:Int) here
 have e2:=Ie (U8 c:Int) 1
 unfold YO
 generalize Xz c self=r1 at *
 generalize WQ (UQ c:Int) here=a1 at *
 generalize WQ (U8 c:Int) 1=a2 at *
 generalize ofV 7 c.num c.sum (.mk 0 a1 [] []) 0=r2 at *
 generalize ofV 10 c.num c.sum (Ut (Uu c) a2) 0=r3 at *
 clear hL hd
 generalize Uu c=L0 at *
 generalize U8 c=N0 at *
 generalize UQ c=A0 at *
 generalize Wq c 7=k7 at *
 generalize Wq c 10=k10 at *
 obtain⟨⟨p1,p2,p3,p4,p5⟩,p6⟩:=r1
 obtain⟨⟨q1,q2,q3,q4,q5⟩,q6⟩:=r2
 obtain⟨⟨s1,s2,s3,s4,s5⟩,s6⟩:=r3
 obtain⟨si,sn,ss,sh,sd⟩:=self
 obtain⟨cty,cnum,cfl,csum,cdata⟩:=c
 dsimp only at *
 cases t1:((cty:Int)==6) with
 | true=>
  refine AP.ofA (Zk Tryz.func55 Z Tryz.ntmps55 Z Z ?_)
  repeat'(first|(apply Zb (hP);kernel_rfl;(iterate 4 exact Z))|(apply Zh Za;exact Z)|(apply Ze Za;exact Z)|refine Zd Z Qt ?_)
  all_goals exact Qe
 | false=>
 cases t2:((cty:Int)==7) with
 | true=>
  refine AP.ofA (Zk Tryz.func55 Z Tryz.ntmps55 Z Z ?_)
  repeat'(first|rw[e1]|(apply Zb (hA);kernel_rfl;(iterate 4 exact Z))|(apply Zb (hOA);kernel_rfl;(iterate 4 exact Z))|(apply Zh Za;exact Z)|(apply Ze Za;exact Z)|refine Zd Z Qt ?_|refine Zf Z Qt ?_)
  all_goals exact Qe
 | false=>
 cases t3:((cty:Int)==10) with
 | true=>
  refine AP.ofA (Zk Tryz.func55 Z Tryz.ntmps55 Z Z ?_)
  repeat'(first|rw[e2]|(apply Zb (hH);kernel_rfl;(iterate 4 exact Z))|(apply Zb (hOH);kernel_rfl;(iterate 4 exact Z))|(apply Zh Za;exact Z)|(apply Ze Za;exact Z)|refine Zd Z Qt ?_|refine Zf Z Qt ?_)
  all_goals exact Qe
 | false=>
  refine AP.ofA (Zk Tryz.func55 Z Tryz.ntmps55 Z Z ?_)
  repeat'(first|(apply Zb (hC);kernel_rfl;(iterate 4 exact Z))|(apply Zh Za;exact Z)|(apply Ze Za;exact Z)|refine Zf Z Qt ?_)
  all_goals exact Qe
abbrev bnT (p:PriV)(d:D):List D:=[.int .u64 (p.fl:Int),.int .i64 p.sum,.bool p.dest.i,.int .u64 (p.dest.n:Int),.int .u64 (p.dest.s:Int),.str p.dest.h,.str p.dest.d,.bool p.rep.i,.int .u64 (p.rep.n:Int),.int .u64 (p.rep.s:Int),.str p.rep.h,.str p.rep.d,.bool p.src.i,.int .u64 (p.src.n:Int),.int .u64 (p.src.s:Int),.str p.src.h,.str p.src.d,.int .u64 (p.t:Int),.int .u64 (p.q:Int),.int .u64 (p.life:Int),d]
abbrev zBn:List D:=[.int .u64 0,.int .i64 0,.bool false,.int .u64 0,.int .u64 0,.str [],.str [],.bool false,.int .u64 0,.int .u64 0,.str [],.str [],.bool false,.int .u64 0,.int .u64 0,.str [],.str [],.int .u64 0,.int .u64 0,.int .u64 0,.sl .nil []]
theorem Rf {z:It}(hw:wfI z)(hb:∀ y ∈ z.l,y.b.length<=3000):(WP z).1.fl<18446744073709551616/\(WP z).1.data.length<=3000:=by
 have hsub:=UL z 3
 have hws:wfs z.l:=by obtain⟨k,n,b,l⟩:=z;exact hw.2.2.2
 unfold WP
 generalize VM z 3=o at *
 have h0:bk0.fl<18446744073709551616/\bk0.data.length<=3000:=by decide
 unfold O7
 split
 ·exact h0
 ·split
  ·rename_i heq
   rw[heq]at hsub
   split
   ·exact h0
   ·split
    ·exact h0
    ·split
     ·exact h0
     ·exact⟨GO (Yr hws _ (hsub _ (List.mem_cons_of_mem _ (List.mem_cons_of_mem _ (List.mem_cons_self ..))))),hb _ (hsub _ (List.mem_cons_of_mem _ (List.mem_cons_of_mem _ (List.mem_cons_of_mem _ (List.mem_cons_of_mem _ (List.mem_cons_self ..))))))⟩
  ·exact h0
theorem K5:∀ {l:List It} {y:It},y ∈ l->(ZH y).length<=(ZI l).length
 | x::l,y,h=>by
  rw[ZI,List.length_append]
  rcases List.mem_cons.1 h with rfl|h
  ·omega
  ·have:=K5 h;omega
theorem JP (y:It):y.b.length<=(ZH y).length/\(ZI y.l).length<=(ZH y).length:=by
 obtain⟨k,n,b,l⟩:=y
 rw[ZH,List.length_append,List.length_append]
 show b.length<=_/\(ZI l).length<=_
 omega
theorem Nn (x:It):1<=YX x:=by obtain⟨k,n,b,l⟩:=x;rw[YX];omega
theorem No:∀(l:List It),l.length<=Wa l
 | []=>by simp
 | x::l=>by
  have h1:=Nn x
  have h2:=No l
  rw[Wa,List.length_cons];omega
theorem GR:∀ {l:List It} {y:It},y ∈ l->YX y<=Wa l
 | x::l,y,h=>by
  rw[Wa]
  rcases List.mem_cons.1 h with rfl|h
  ·omega
  ·have:=GR h;omega
theorem HP {y:It}(h:(ZH y).length<=100000)(hy:∀ z ∈ y.l,(ZH z).length<=3000)(hl:y.l.length<=1000000):(∀ z ∈ y.l,z.b.length<=3000)/\∀ s m,s=1\/s=2->(ZH (Z0 s (y.l.take m))).length<=1000000000:=by
 refine⟨fun z hz=>Nat.le_trans (JP z).1 (hy z hz),fun s m hs=>?_⟩
 have h0:=Yj 4 0 [] (y.l.take m++[.mk 2 0 (List.replicate (2*s) 0) []])
 have h1:=Yj 2 0 (List.replicate (2*s) 0) []
 have h2:=WH y.l m
 have h3:=(JP y).2
 rw[U3]at h0
 simp only[ZI,List.length_append,List.length_nil,List.length_replicate,Nat.add_zero,Nat.zero_add]at h0 h1
 show(ZH (.mk 4 0 [] (y.l.take m++[.mk 2 0 (List.replicate (2*s) 0) []]))).length<=_
 omega
abbrev bnR (r:BunV × Int):D:=.tup [.agg (bnC r.1),.int .i64 r.2]
def Ih (acc:List BlkV)(r:List It):Except Int (List BlkV):=match Wg r with
 | .error e=>.error e
 | .ok l=>.ok (acc++l)
theorem HQ (acc:List BlkV)(y:It)(r:List It):Ih acc (y::r)=match(WP y).2==0 with
  | false=>.error (WP y).2
  | true=>Ih (acc++[(WP y).1]) r:=by
 unfold Ih
 rw[Wg]
 cases(WP y).2==0 with
 | false=>rfl
 | true=>
  dsimp only
  cases Wg r with
  | error e=>rfl
  | ok l=>simp
theorem KD [Known][KnownU8](x:List UInt8)(hx:x.length<=3000):AP Tryz.prog 16 [byE x] (bnR (VD x)) []:=by
 have hR:=J7 x 0 (by omega)
 have hlm:(x.map E.byte).length=x.length:=List.length_map ..
 unfold VD
 cases t0:decide ((x.length:Int)>1200) with
 | true=>
  have t1:decide (((x.map E.byte).length:Int)>1200)=true:=by rw[hlm];exact t0
  refine AP.ofA (Zk Tryz.func16 Z Tryz.ntmps16 Z Z ?_)
  repeat'(first|(apply Zh Za;exact Z)|(apply Ze Za;exact Z)|(apply Zq Za;exact Z)|refine Zd Z Qt ?_|refine Zm Za Z Z Z Z ?_)
  all_goals exact Qe
 | false=>
 have t1:decide (((x.map E.byte).length:Int)>1200)=false:=by rw[hlm];exact t0
 dsimp only
 rcases Km x (by omega) with⟨e,he,h,_⟩ | ⟨y,n,h,hw,hr,hpl,hn⟩
 ·rw[h]at hR ⊢
  have te:((e:Int) != 0)=true:=by simpa using he
  dsimp only
  rw[te]
  refine AP.ofA (Zk Tryz.func16 Z Tryz.ntmps16 Z Z ?_)
  repeat'(first|(apply Zb (hR);kernel_rfl;(iterate 4 exact Z))|(apply Zh Za;exact Z)|(apply Ze Za;exact Z)|(apply Zq Za;exact Z)|refine Zd Z Qt ?_|refine Zf Z Qt ?_|refine Zm Za Z Z Z Z ?_)
  all_goals exact Qe
 rw[h]at hR ⊢
 have te:(((0:Nat):Int) != 0)=false:=rfl
 dsimp only
 rw[te]
 dsimp only
 cases t2:(n==x.length) with
 | false=>
  have t3:((n:Int) != ((x.map E.byte).length:Int))=true:=by rw[hlm];simp at t2 ⊢;omega
  obtain⟨k,n1,b,l⟩:=y
  refine AP.ofA (Zk Tryz.func16 Z Tryz.ntmps16 Z Z ?_)
  repeat'(first|(apply Zb (hR);kernel_rfl;(iterate 4 exact Z))|(apply Zh Za;exact Z)|(apply Ze Za;exact Z)|(apply Zq Za;exact Z)|refine Zp Z Z Z Qt ?_|refine Zl Z Qt Z Z ?_|refine Zd Z Qt ?_|refine Zf Z Qt ?_|refine Zm Za Z Z Z Z ?_)
  all_goals exact Qe
 | true=>
 have t3:((n:Int) != ((x.map E.byte).length:Int))=false:=by rw[hlm];simp at t2 ⊢;omega
 have hyl:(ZH y).length<=3000:=by omega
 have hsub:=JP y
 have hws:wfs y.l:=by obtain⟨k,n1,b,l⟩:=y;exact hw.2.2.2
 have hsz:Wa y.l<=256:=by
  rw[Kl]at hr
  simp only[Bool.and_eq_true,decide_eq_true_eq]at hr
  obtain⟨k,n1,b,l⟩:=y
  have:=hr.2.1
  rw[YX]at this
  show Wa l<=256
  omega
 clear h hr t2 hpl hn
 obtain⟨k,n1,b,l⟩:=y
 dsimp only[It.l]at hsub hws hsz
 have hlen:=Zw l
 unfold Ib
 dsimp only
 cases t4:(k==4) with
 | false=>
  have t5:(k != 4)=true:=by simpa using t4
  refine AP.ofA (Zk Tryz.func16 Z Tryz.ntmps16 Z Z ?_)
  repeat'(first|(apply Zb (hR);kernel_rfl;(iterate 4 exact Z))|(apply Zh Za;exact Z)|(apply Ze Za;exact Z)|(apply Zq Za;exact Z)|refine Zg Z Z Z Qt ?_|refine Zp Z Z Z Qt ?_|refine Zl Z Qt Z Z ?_|refine Zi Z Qt Z Z ?_|refine Zd Z Qt ?_|refine Zf Z Qt ?_|refine Zm Za Z Z Z Z ?_)
  all_goals exact Qe
 | true=>
 have t5:(k != 4)=false:=by simpa using t4
 cases t6:decide (2<=l.length) with
 | false=>
  have t7:decide (((Zt l).length:Int)<2)=true:=by rw[hlen];simp at t6 ⊢;omega
  refine AP.ofA (Zk Tryz.func16 Z Tryz.ntmps16 Z Z ?_)
  repeat'(first|(apply Zb (hR);kernel_rfl;(iterate 4 exact Z))|(apply Zh Za;exact Z)|(apply Ze Za;exact Z)|(apply Zq Za;exact Z)|refine Zg Z Z Z Qt ?_|refine Zp Z Z Z Qt ?_|refine Zl Z Qt Z Z ?_|refine Zi Z Qt Z Z ?_|refine Zd Z Qt ?_|refine Zf Z Qt ?_|refine Zm Za Z Z Z Z ?_)
  all_goals exact Qe
 | true=>
 have t7:decide (((Zt l).length:Int)<2)=false:=by rw[hlen];simp at t6 ⊢;omega
 cases t8:decide (l.length<=9) with
 | false=>
  have t9:decide (((Zt l).length:Int)>9)=true:=by rw[hlen];simp at t8 ⊢;omega
  refine AP.ofA (Zk Tryz.func16 Z Tryz.ntmps16 Z Z ?_)
  repeat'(first|(apply Zb (hR);kernel_rfl;(iterate 4 exact Z))|(apply Zh Za;exact Z)|(apply Ze Za;exact Z)|(apply Zq Za;exact Z)|refine Zg Z Z Z Qt ?_|refine Zi Z Qt Z Z ?_|refine Zd Z Qt ?_|refine Zf Z Qt ?_|refine Zm Za Z Z Z Z ?_)
  all_goals exact Qe
 | true=>
 have t9:decide (((Zt l).length:Int)>9)=false:=by rw[hlen];simp at t8 ⊢;omega
 have hl9:=of_decide_eq_true t8
 have hl2:=of_decide_eq_true t6
 clear t6 t8
 rw[Bool.true_and,Bool.true_and]
 cases l with
 | nil=>simp at hl2
 | cons y0 r=>
 dsimp only
 have hmem:∀ z ∈ y0::r,wfI z/\(ZH z).length<=3000:=fun z hz=>⟨Yr hws z hz,Nat.le_trans (K5 hz) (Nat.le_trans hsub.2 hyl)⟩
 have hpart:∀ z ∈ y0::r,z.l.length<=1000000/\(∀ u ∈ z.l,u.b.length<=3000)/\∀ s m,s=1\/s=2->(ZH (Z0 s (z.l.take m))).length<=1000000000:=fun z hz=>by
  obtain⟨h1,h2⟩:=hmem z hz
  have h3:=(JP z).2
  have h5:=GR hz
  have h6:=No z.l
  have h4:z.l.length<=1000000:=by
   obtain⟨kz,nz,bz,lz⟩:=z
   rw[YX]at h5
   dsimp only[It.l]at h6 ⊢
   omega
  exact⟨h4,HP (by omega) (fun u hu=>Nat.le_trans (K5 hu) (by omega)) h4⟩
 have hw0:=(hmem y0 (List.mem_cons_self ..)).1
 obtain⟨p1,_,p3⟩:=hpart y0 (List.mem_cons_self ..)
 have hP:=T9 y0 hw0 p1 p3
 have hpf:=MR hw0
 have hU:=YW (y0::r)
 obtain⟨k0,n0,b0,l0⟩:=y0
 have hv0:(Zt (It.mk k0 n0 b0 l0::r))[(0:Int).toNat]?=some (.agg [.int .i64 k0,.int .u64 (n0:Int),.sl (b0.map E.byte),.sl (Zt l0)]):=rfl
 generalize hLe:Zt (It.mk k0 n0 b0 l0::r)=LL at *
 replace hR:AP Tryz.prog 58 [byE x,.int .i64 0] (.tup [.agg [.int .i64 k,.int .u64 (n1:Int),.sl .ext (b.map E.byte),.sl .ext LL],.int .i64 (n:Int),.int .i64 0]) []:=by rw[<- hLe];exact hR
 generalize UM (.mk k0 n0 b0 l0)=rp at *
 obtain⟨p,e⟩:=rp
 dsimp only at hpf ⊢
 cases t10:(e != 0) with
 | true=>
  refine AP.ofA (Zk Tryz.func16 Z Tryz.ntmps16 Z Z ?_)
  repeat'(first|(apply Zb (hR);kernel_rfl;(iterate 4 exact Z))|(apply Zb (hP);kernel_rfl;(iterate 4 exact Z))|(apply Zh Za;exact Z)|(apply Ze Za;exact Z)|(apply Zq Za;exact Z)|refine Zg Z Z Z Qt ?_|refine Zi Z Qt Z Z ?_|refine Zd Z Qt ?_|refine Zf Z Qt ?_|refine Zm Za Z Z Z Z ?_|(apply Zu Za;(iterate 6 exact Z);(first|exact Qt|rotate_left);(first|with_reducible assumption|decide +kernel|exact Z);(first|exact Zj rfl|with_reducible assumption|decide +kernel|rotate_left)))
  all_goals exact Qe
 | false=>
 dsimp only
 have hle1:(1:Int).toNat<=LL.length:=by rw[hlen];show 1<=_;omega
 have hI:LL.drop (1:Int).toNat=Zt r:=by rw[<- hLe];rfl
 have hr0:1<=r.length:=by rw[List.length_cons]at hl2;omega
 have hr9:r.length<=9:=by rw[List.length_cons]at hl9;omega
 have hlr:=Zw r
 have hUr:=YW r
 have hF:Ih [] r=Wg r:=by unfold Ih;cases Wg r<;>rfl
 rw[<- hF]
 generalize hF2:Ih [] r=F
 have key:∀ d,bnR (match F with | .error e=>(bn0,e) | .ok bl=>match ZP ⟨p,bl⟩ with|false=>(bn0,3)|true=>(⟨p,bl⟩,0))=d->AP Tryz.prog 16 [byE x] d []:=fun d hd=>by
  refine AP.ofA (Zk Tryz.func16 Z Tryz.ntmps16 Z Z ?_)
  repeat'(first|(apply Zb (hR);kernel_rfl;(iterate 4 exact Z))|(apply Zb (hP);kernel_rfl;(iterate 4 exact Z))|refine TC Za Z Z Z Z Z Z hU (by decide) hle1 hI ?_|(apply Zh Za;exact Z)|(apply Ze Za;exact Z)|(apply Zq Za;exact Z)|refine Zg Z Z Z Qt ?_|refine Zi Z Qt Z Z ?_|refine Zf Z Qt ?_|refine Zm Za Z Z Z Z ?_|(apply Zu Za;(iterate 6 exact Z);(first|exact Qt|rotate_left);(first|with_reducible assumption|decide +kernel|exact Z);(first|exact Zj rfl|with_reducible assumption|decide +kernel|rotate_left)))
  show AW _ _ _ _
  refine ZW (fun f tm bx fr=>∃(i c:Nat) (acc:List BlkV) (f0:Fr),f+i=r.length/\c=(ZU acc).length/\acc.length=i/\(∀ c ∈ acc,c.fl<18446744073709551616/\c.data.length<=3000)/\Ih acc (r.drop i)=F/\tm=[(2,.ptr 0 0),(7,.ptr 2 0),(65,.sl .ext (Zt r)),(66,.int .i64 ((Zt r).length:Int)),(67,.int .i64 (i:Int))] /\
   ((i=0/\acc=[]/\bx=[zBn,[.int .i64 k,.int .u64 (n1:Int),.sl .ext (b.map E.byte),.sl .ext LL],bnT p (.sl .nil [])]/\fr=[]) \/
   (bx=[zBn,[.int .i64 k,.int .u64 (n1:Int),.sl .ext (b.map E.byte),.sl .ext LL],bnT p (.sl (.own 1) (ZU acc))]/\fr=[f0,⟨c,5,40⟩]))) (r.length+1) (Lands.mk' (m:=r.length) (Nat.lt_succ_self _) ⟨0,0,[],default,rfl,rfl,rfl,by simp,hF2,rfl,.inl ⟨rfl,rfl,rfl,rfl⟩⟩ ?_ rfl rfl rfl rfl rfl rfl) ?_
  ·exact .cons rfl (.cons rfl (.cons rfl (.cons rfl (.cons rfl .nil))))
  rintro f tm bx fr ⟨i,c,acc,f0,hf,hc,hai,hab,hq,rfl,hst⟩
  rcases Nat.lt_or_ge i r.length with hlt|hge
  ·have hdl:decide ((i:Int)<((Zt r).length:Int))=true:=decide_eq_true (by omega)
   obtain⟨z,hy⟩:∃ y,r[i]?=some y:=⟨_,List.getElem?_eq_getElem hlt⟩
   have hzm:z ∈ It.mk k0 n0 b0 l0::r:=List.mem_cons_of_mem _ (List.mem_of_getElem? hy)
   have hwz:=(hmem z hzm).1
   obtain⟨q1,q2,q3⟩:=hpart z hzm
   have hB:=T4 z hwz q1 q3 q2
   have hbf:=Rf hwz q2
   have hdr:r.drop i=z::r.drop (i+1):=by
    rw[List.drop_eq_getElem_cons hlt];congr 1
    exact(List.getElem?_eq_some_iff.1 hy).2
   rw[hdr,HQ]at hq
   have ei:IntKind.i64.wrap ((i:Int)+1)=((i+1:Nat):Int):=by rw[IntWalk.i64_in _ (by omega)];omega
   obtain⟨kz,nz,bz,lz⟩:=z
   have hv:(Zt r)[((i:Nat):Int).toNat]?=some (.agg [.int .i64 kz,.int .u64 (nz:Int),.sl (bz.map E.byte),.sl (Zt lz)]):=by
    rw[Int.toNat_natCast,Yd,List.getElem?_map,hy];rfl
   generalize WP (.mk kz nz bz lz)=rb at *
   obtain⟨cb,e2⟩:=rb
   dsimp only at hbf hq
   cases t11:(e2==0) with
   | false=>
    have t12:(e2 != 0)=true:=by simpa using t11
    rw[t11]at hq
    dsimp only at hq
    subst hq
    dsimp only at hd
    subst hd
    rcases hst with⟨rfl,rfl,rfl,rfl⟩ | ⟨rfl,rfl⟩
    ·repeat'(first|(apply Zb (hB);kernel_rfl;(iterate 4 exact Z))|(apply Zh Za;exact Z)|(apply Ze Za;exact Z)|(apply Zq Za;exact Z)|refine Zd Z Qt ?_|(apply Zu Za;(iterate 6 exact Z);(first|exact Qt|rotate_left);(first|with_reducible assumption|decide +kernel|exact Z);(first|exact Zj rfl|with_reducible assumption|decide +kernel|rotate_left)))
     all_goals exact Qe
    ·repeat'(first|(apply Zb (hB);kernel_rfl;(iterate 4 exact Z))|(apply Zh Za;exact Z)|(apply Ze Za;exact Z)|(apply Zq Za;exact Z)|refine Zd Z Qt ?_|(apply Zu Za;(iterate 6 exact Z);(first|exact Qt|rotate_left);(first|with_reducible assumption|decide +kernel|exact Z);(first|exact Zj rfl|with_reducible assumption|decide +kernel|rotate_left)))
     all_goals exact Qe
   | true=>
    have t12:(e2 != 0)=false:=by simpa using t11
    rw[t11]at hq
    dsimp only at hq
    have hab2:∀ c ∈ acc++[cb],c.fl<18446744073709551616/\c.data.length<=3000:=fun c hc=>by
     rcases List.mem_append.1 hc with hc|hc
     ·exact hab c hc
     ·simp at hc;subst hc;exact hbf
    have hU5:=Qx acc
    have hUc:=Qx [cb]
    subst hc
    have hbl:=Wn acc
    rcases hst with⟨rfl,rfl,rfl,rfl⟩ | ⟨rfl,rfl⟩
    ·repeat'(first|(apply Zb (hB);kernel_rfl;(iterate 4 exact Z))|rw[ei]|refine ZZ Za Z Z Z Z Z Z (Zj rfl) (List.cons_ne_nil _ _) Z Qd Qd Z Z Z ?_|(apply Zh Za;exact Z)|(apply Ze Za;exact Z)|refine Zd Z Qt ?_|refine Zf Z Qt ?_|refine ZT Za Z Z Z Z Z Z Z Z Z Z Z Z ?_|(apply Zu Za;(iterate 6 exact Z);(first|exact Qt|rotate_left);(first|with_reducible assumption|decide +kernel|exact Z);(first|exact Zj rfl|with_reducible assumption|decide +kernel|rotate_left)))
     refine Lands.mk' (m:=f-1) (by omega) ⟨1,1,[cb],_,by omega,rfl,rfl,hab2,hq,rfl,.inr ⟨rfl,rfl⟩⟩ ?_ rfl rfl rfl rfl rfl rfl
     exact .cons rfl (.cons rfl (.cons rfl (.cons rfl (.cons rfl .nil))))
    ·have hs:ZU acc++[bkE cb]=ZU (acc++[cb]):=(List.map_append (f:=bkE) (l₁:=acc) (l₂:=[cb])).symm
     repeat'(first|(apply Zb (hB);kernel_rfl;(iterate 4 exact Z))|rw[ei]|(apply Zh Za;exact Z)|(apply Ze Za;exact Z)|refine Zd Z Qt ?_|refine Zf Z Qt ?_|refine ZT Za Z Z Z Z Z Z Z Z Z Z Z Z ?_|(apply Z1 Za;(iterate 6 exact Z);(first|with_reducible assumption|decide +kernel|exact Z|rotate_left);exact Z;exact Z;(first|exact Zj rfl|with_reducible assumption|decide +kernel|rotate_left);(first|exact Zj rfl|with_reducible assumption|decide +kernel|rotate_left);(first|exact Qt|rotate_left);(first|exact Qt|rotate_left);(first|exact Qt|rotate_left);exact Z;exact Z)|(apply Zu Za;(iterate 6 exact Z);(first|exact Qt|rotate_left);(first|with_reducible assumption|decide +kernel|exact Z);(first|exact Zj rfl|with_reducible assumption|decide +kernel|rotate_left)))
     ·refine Lands.mk' (m:=f-1) (by omega) ⟨i+1,(ZU acc).length+1,acc++[cb],f0,by omega,by rw[<- hs,List.length_append];rfl,by rw[List.length_append,hai];rfl,hab2,hq,rfl,.inr ⟨by rw[<- hs],rfl⟩⟩ ?_ rfl rfl rfl rfl rfl rfl
      exact .cons rfl (.cons rfl (.cons rfl (.cons rfl (.cons rfl .nil))))
     all_goals(first|rfl|(simp only[List.length_append,List.length_cons,List.length_nil,List.length_map,Zw];done)|(simp only[List.length_append,List.length_cons,List.length_nil,List.length_map,Zw]at *;(try unfold maxLen);(try simp only[Nat.add_mul]);omega))
  ·have hdl:decide ((i:Int)<((Zt r).length:Int))=false:=decide_eq_false (by omega)
   have hqn:F=.ok acc:=by
    rw[<- hq,List.drop_eq_nil_of_le hge]
    unfold Ih
    rw[Wg]
    dsimp only
    rw[List.append_nil]
   subst hqn
   dsimp only at hd
   have hRt:=VF ⟨p,acc⟩ ⟨hpf,by show acc.length<=_;omega,hab⟩
   rcases hst with⟨rfl,_,_,_⟩ | ⟨rfl,rfl⟩
   ·omega
   cases t13:ZP ⟨p,acc⟩ with
   | false=>
    rw[t13]at hRt hd
    dsimp only at hd
    subst hd
    repeat'(first|(apply Zb (hRt);kernel_rfl;(iterate 4 exact Z))|(apply Zh Za;exact Z)|(apply Ze Za;exact Z)|(apply Zq Za;exact Z)|refine Zd Z Qt ?_|refine Zf Z Qt ?_)
    all_goals exact Qe
   | true=>
    rw[t13]at hRt hd
    dsimp only at hd
    subst hd
    repeat'(first|(apply Zb (hRt);kernel_rfl;(iterate 4 exact Z))|(apply Zh Za;exact Z)|(apply Ze Za;exact Z)|(apply Zq Za;exact Z)|refine Zf Z Qt ?_)
    all_goals exact Qe
 exact key _ rfl
abbrev zE (x:EidV):Bool:=(x.i==false)&&(((x.n:Int)==0)&&(((x.s:Int)==0)&&((x.h==[])&&((x.d==[])&&true))))
def onC (self:EidV)(here:Int):List BlkV->List BlkV->Option (List BlkV)
 | acc,[]=>some acc
 | acc,c::r=>match(YO c self here).2 with
  | false=>none
  | true=>onC self here (acc++[(YO c self here).1]) r
def XC (b:BunV)(self:EidV):BlkV:=(ofV 6 (JJ b.bl) 0 (if ZJ self then Z8 self else .mk 0 0 [] []) (if ZJ self then 0 else 3)).1
def Q5 (b:BunV)(self:EidV):List BlkV:=match b.bl.find? (WO 6) with
 | some _=>[]
 | none=>[XC b self]
def Ur (p:PriV):Option (List BlkV)->BunV × Int
 | none=>(bn0,3)
 | some l=>match ZP ⟨p,l⟩ with
  | true=>(⟨p,l⟩,0)
  | false=>(bn0,3)
def onH (b:BunV)(self:EidV)(since now:Int):BunV × Int:=match(VH b since now==3)||(!ZJ self||zE self) with
 | true=>(bn0,3)
 | false=>match VH b since now != 0 with
  | true=>(bn0,VH b since now)
  | false=>match V8 b since now with
   | true=>(bn0,18)
   | false=>match WN b with
    | true=>(bn0,19)
    | false=>Ur b.p (onC self (IntKind.u64.wrap (now-since)) (Q5 b self) b.bl)
theorem GS {c:BlkV}(hd:c.data.length<=100000):Uu c<18446744073709551616:=by
 unfold Uu
 split
 ·decide
 ·have hw:=GJ c.data (by omega)
  unfold Vg
  generalize (Yh c.data 0).1=x at *
  unfold T0
  repeat'(first|split|(dsimp only))
  all_goals first|decide|skip
  all_goals first|exact GO (by simp_all [wfI,wfs])|simp_all [wfI,wfs]
def XD (c:BlkV):Prop:=c.fl<18446744073709551616/\c.data.length<=3000
theorem Q6 {kind ZN:Nat}{sum:Int}{x:It}{e:Int}(hx:(ZH x).length<=3000):(ofV kind ZN sum x e).1.data.length<=3000:=by
 rcases IZ (kind:=kind) (ZN:=ZN) (sum:=sum) (x:=x) (e:=e) with h|h
 ·obtain⟨_,_,_,hp⟩:=U2 (p:=(ofV kind ZN sum x e).1) (Prod.ext rfl h)
  rw[hp];exact hx
 ·rw[h];decide
theorem Rg {kind ZN:Nat}{sum:Int}{x:It}{e:Int}:(ofV kind ZN sum x e).1.fl=0:=by
 rcases IZ (kind:=kind) (ZN:=ZN) (sum:=sum) (x:=x) (e:=e) with h|h
 ·obtain⟨_,_,_,hp⟩:=U2 (p:=(ofV kind ZN sum x e).1) (Prod.ext rfl h)
  rw[hp]
 ·rw[h];rfl
theorem XF (x:EidV):(ZH (if ZJ x then Z8 x else .mk 0 0 [] [])).length<=3000:=by
 cases h:ZJ x with
 | false=>
  show(ZH (.mk 0 0 [] [])).length<=3000
  decide +kernel
 | true=>
  show(ZH (Z8 x)).length<=3000
  have:=VB h
  omega
theorem Jp {c:BlkV}(self:EidV)(here:Int)(h:XD c):XD (YO c self here).1:=by
 unfold YO
 split
 ·exact⟨h.1,Q6 (XF self)⟩
 ·split
  ·exact⟨h.1,Q6 (by have:=YB (WQ (UQ c:Int) here);omega)⟩
  ·split
   ·exact⟨h.1,Q6 (by have:=Ul (Uu c) (WQ (U8 c:Int) 1);omega)⟩
   ·exact h
theorem Np (b:BunV)(self:EidV):XD (XC b self):=⟨by unfold XC;rw[Rg];decide,Q6 (XF self)⟩
abbrev onD (r:BunV × Int):D:=.tup [.agg (bnC r.1),.int .i64 r.2]
end Go.Proofs.YtmljabhmajehnaaGreatDoor
end
