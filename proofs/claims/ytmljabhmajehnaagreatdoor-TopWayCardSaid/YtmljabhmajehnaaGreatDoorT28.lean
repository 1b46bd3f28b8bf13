/- Package primary: a first block, read. -/
import Derived.Test.YtmljabhmajehnaaGreatDoorT27
import Derived.Test.YtmljabhmajehnaaGreatDoorT26
import Derived.Test.YtmljabhmajehnaaGreatDoorT19
import Derived.Test.YtmljabhmajehnaaGreatDoorT15
set_option linter.unusedVariables false
set_option linter.unusedSimpArgs false
section
open Go.RowKit Go.Pl Go.Av
namespace Go.Proofs.YtmljabhmajehnaaGreatDoor
set_option maxHeartbeats 4000000
def WM (z:It):EidV × Nat × Nat × Bool:=match z with
 | .mk k n b [y,.mk k2 n2 b2 [p,r]]=>(match k==4&&k2==4 with
  | false=>(YU,0,0,false)
  | true=>match Qv y p r (.mk k n b [y,.mk k2 n2 b2 [p,r]]) with
   | true=>(Uq y,p.n,r.n,true)
   | false=>(YU,0,0,false))
 | _=>(YU,0,0,false)
theorem T8 [Known][KnownU8](z:It)(hw:wfI z):AP Tryz.prog 67 [itD z] (.tup [.agg (iC (WM z).1 (WM z).2.1 (WM z).2.2.1),.int .i64 (match(WM z).2.2.2 with|true=>0|false=>3)]) []:=by
 cases h:Xo z with
 | true=>
  have e:WM z=(YU,0,0,false):=by
   unfold Xo at h
   unfold WM
   split at h
   ·rw[Bool.not_eq_true']at h
    first|(rw[h];done)|(dsimp only;rw[h])
   ·rename_i hno
    first|rfl|(split<;>first|exact absurd rfl (hno _ _ _ _ _ _ _ _ _)|rfl)
  rw[e]
  exact I0 z h
 | false=>
  obtain⟨n,b,y,n2,b2,p,r,rfl⟩:∃ n b y n2 b2 p r,z=.mk 4 n b [y,.mk 4 n2 b2 [p,r]]:=by
   unfold Xo at h
   split at h
   ·simp only[Bool.not_eq_false',Bool.and_eq_true,beq_iff_eq]at h
    obtain⟨rfl,rfl⟩:=h
    exact⟨_,_,_,_,_,_,_,rfl⟩
   ·cases h
  have hR:=O9 n b y n2 b2 p r hw
  have e:WM (.mk 4 n b [y,.mk 4 n2 b2 [p,r]])=(match Qv y p r (.mk 4 n b [y,.mk 4 n2 b2 [p,r]]) with
   | true=>(Uq y,p.n,r.n,true)
   | false=>(YU,0,0,false)):=rfl
  rw[e]
  unfold Mu at hR
  cases hb:Qv y p r (.mk 4 n b [y,.mk 4 n2 b2 [p,r]]) with
  | false=>rw[hb]at hR;exact hR
  | true=>rw[hb]at hR;exact hR
theorem VB {x:EidV}(h:ZJ x=true):(ZH (Z8 x)).length<=200:=by
 unfold Z8
 repeat' split
 ·exact Nat.le_trans (Ul 1 0) (by decide)
 ·have h0:=Yj 4 0 [] [.mk 0 2 [] [],Ut x.n x.s]
  have h1:=YB 2
  have h2:=Ul x.n x.s
  simp only[ZI,List.length_append,List.length_nil,Nat.add_zero,Nat.zero_add]at h0
  exact Nat.le_trans h0 (by omega)
 ·have h0:=Yj 4 0 [] [.mk 0 1 [] [],.mk 3 0 (Wb x) []]
  have h1:=YB 1
  have h2:=Yj 3 0 (Wb x) []
  rename_i hz hi
  have h3:(Wb x).length<=100:=by
   have ht:=WZ h (by simpa using hz) (by simpa using hi)
   simp only[Wb,List.length_append,List.length_cons,List.length_nil]
   omega
  simp only[ZI,List.length_append,List.length_nil,Nat.add_zero,Nat.zero_add]at h0 h2
  exact Nat.le_trans h0 (by omega)
theorem U3 (a c:List It):ZI (a++c)=ZI a++ZI c:=by
 induction a with
 | nil=>rfl
 | cons y a ih=>rw[List.cons_append,ZI,ZI,ih,List.append_assoc]
theorem Re {p:PriV}(h:WK p=true)(s:Nat)(hs:s=1\/s=2):(ZH (Z0 s (WL p))).length<=1000000000:=by
 obtain⟨h1,h2,h3,h4,h5,h6⟩:=VA h
 obtain⟨i1,_,_⟩:=Ws.1 h5
 have h0:=Yj 4 0 [] (WL p++[.mk 2 0 (List.replicate (2*s) 0) []])
 have hb:=Yj 2 0 (List.replicate (2*s) 0) []
 have n1:=YB 7
 have n2:=YB p.fl
 have n3:=YB p.sum.toNat
 have n4:=VB h3
 have n5:=VB i1
 have n6:=VB h4
 have n7:=Ul p.t p.q
 have n8:=YB p.life
 have e7:Ut p.t p.q=.mk 4 0 [] [.mk 0 p.t [] [],.mk 0 p.q [] []]:=rfl
 rw[e7]at n7
 rw[U3]at h0
 simp only[WL,ZI,List.length_append,List.length_nil,List.length_replicate,Nat.add_zero,Nat.zero_add]at h0 hb
 show(ZH (.mk 4 0 [] (WL p++[.mk 2 0 (List.replicate (2*s) 0) []]))).length<=1000000000
 exact Nat.le_trans h0 (by omega)
theorem Xp [Known][KnownU8](p:PriV)(hfl:p.fl<18446744073709551616):AP Tryz.prog 107 [.agg (prC p)] (QY (Ym p)) []:=by
 cases h:WK p with
 | true=>exact HC p hfl (Re h)
 | false=>
  have hR:=Kx p
  unfold Ym
  rw[h]at hR ⊢
  obtain⟨fl,sum,⟨di,dn,ds,dh,dd⟩,⟨ri,rn,rs,rh,rd⟩,⟨xi,xn,xs,xh,xd⟩,t,q,life⟩:=p
  dsimp only[z0]at *
  refine AP.ofA (Zk Tryz.func107 Z Tryz.ntmps107 Z Z ?_)
  repeat'(first|(apply Zb (hR);kernel_rfl;(iterate 4 exact Z))|(apply Zh Za;exact Z)|(apply Ze Za;exact Z)|(apply Zq Za;exact Z)|refine Zd Z Qt ?_)
  all_goals exact Qe
theorem U4 {p:PriV}(hfl:p.fl<18446744073709551616):wfI (Ym p).1:=by
 unfold Ym
 cases h:WK p with
 | false=>exact GL
 | true=>exact GM 2 (MQ h hfl) (by simp[WL])
def pr0:PriV:=⟨0,0,YU,YU,YU,0,0,0⟩
abbrev prD (r:PriV × Int):D:=.tup [.agg (prC r.1),.int .i64 r.2]
def eZ (y:It):EidV:=match(Ys y).2 with|true=>(Ys y).1|false=>YU
def JC (m1 m2 m3 m4 m5 m6 m7:It):PriV:=⟨m1.n,IntKind.i64.wrap (m2.n:Int),eZ m3,eZ m5,(WM (.mk 4 0 [] [m4,m6])).1,(WM (.mk 4 0 [] [m4,m6])).2.1,(WM (.mk 4 0 [] [m4,m6])).2.2.1,m7.n⟩
def GP (x:It)(o:List It × Int):PriV × Int:=match o.2 != 0 with
 | true=>(pr0,o.2)
 | false=>match o.1 with
  | [_,m1,m2,m3,m4,m5,m6,m7]=>(match(Ys m3).2&&((Ys m5).2&&(WM (.mk 4 0 [] [m4,m6])).2.2.2) with
   | false=>(pr0,3)
   | true=>match(Ym (JC m1 m2 m3 m4 m5 m6 m7)).2 != 0 with
    | true=>(pr0,3)
    | false=>match It.beq (Ym (JC m1 m2 m3 m4 m5 m6 m7)).1 x with
     | false=>(pr0,3)
     | true=>(JC m1 m2 m3 m4 m5 m6 m7,0))
  | _=>(pr0,3)
def UM (x:It):PriV × Int:=GP x (VM x 2)
theorem T9 [Known][KnownU8](x:It)(hw:wfI x)(hxl:x.l.length<=1000000)(hlim:∀ s m,s=1\/s=2->(ZH (Z0 s (x.l.take m))).length<=1000000000):AP Tryz.prog 59 [itD x] (prD (UM x)) []:=by
 have hO:=GE x 2 hw hxl hlim
 have hsub:=UL x 2
 have hws:wfs x.l:=by obtain⟨k,n,b,l⟩:=x;exact hw.2.2.2
 unfold UM
 generalize VM x 2=o at *
 obtain⟨ol,oe⟩:=o
 have hlen:=Zw ol
 have hUo:=YW ol
 dsimp only at hsub
 have hSame:=fun(B:PriV) (h1:B.fl<18446744073709551616)=>VK (Ym B).1 (U4 h1) x hw
 obtain⟨k,n,b,l⟩:=x
 dsimp only[It.l]at *
 unfold GP
 dsimp only
 replace hO:AP Tryz.prog 111 [.agg [.int .i64 k,.int .u64 (n:Int),byE b,.sl .ext (Zt l)],.int .i64 2] (.tup [.sl .ext (Zt ol),.int .i64 oe]) []:=hO
 cases t1:(oe != 0) with
 | true=>exact RJ k n b _ _ oe hO t1
 | false=>
 have hno:ol.length ≠ 8->AP Tryz.prog 59 [itD (.mk k n b l)] (prD (pr0,3)) []:=fun h=>RK k n b _ _ oe hO t1 (by rw[hlen];simp;omega)
 match ol,hO,hsub,hlen,hUo,hno with
 | [],_,_,_,_,h=>exact h (by simp)
 | [_],_,_,_,_,h=>exact h (by simp)
 | [_,_],_,_,_,_,h=>exact h (by simp)
 | [_,_,_],_,_,_,_,h=>exact h (by simp)
 | [_,_,_,_],_,_,_,_,h=>exact h (by simp)
 | [_,_,_,_,_],_,_,_,_,h=>exact h (by simp)
 | [_,_,_,_,_,_],_,_,_,_,h=>exact h (by simp)
 | [_,_,_,_,_,_,_],_,_,_,_,h=>exact h (by simp)
 | _::_::_::_::_::_::_::_::_::_,_,_,_,_,h=>exact h (by simp)
 | [.mk k0 n0 b0 l0,.mk k1 n1 b1 l1,.mk k2 n2 b2 l2,.mk k3 n3 b3 l3,.mk k4 n4 b4 l4,.mk k5 n5 b5 l5,.mk k6 n6 b6 l6,.mk k7 n7 b7 l7],hO,hsub,hlen,hUo,_=>
 have hwm:∀ y ∈ [It.mk k0 n0 b0 l0,.mk k1 n1 b1 l1,.mk k2 n2 b2 l2,.mk k3 n3 b3 l3,.mk k4 n4 b4 l4,.mk k5 n5 b5 l5,.mk k6 n6 b6 l6,.mk k7 n7 b7 l7],wfI y:=fun y hy=>Yr hws y (hsub y hy)
 clear hsub
 have t2:(((Zt [It.mk k0 n0 b0 l0,.mk k1 n1 b1 l1,.mk k2 n2 b2 l2,.mk k3 n3 b3 l3,.mk k4 n4 b4 l4,.mk k5 n5 b5 l5,.mk k6 n6 b6 l6,.mk k7 n7 b7 l7]).length:Int) != 8)=false:=by rw[hlen];rfl
 dsimp only
 have w1:n1<18446744073709551616:=(hwm (.mk k1 n1 b1 l1) (by simp)).1
 have w3:=hwm (.mk k3 n3 b3 l3) (by simp)
 have w4:=hwm (.mk k4 n4 b4 l4) (by simp)
 have w5:=hwm (.mk k5 n5 b5 l5) (by simp)
 have w6:=hwm (.mk k6 n6 b6 l6) (by simp)
 have w46:wfI (.mk 4 0 [] [.mk k4 n4 b4 l4,.mk k6 n6 b6 l6]):=⟨by decide,by simp,by simp,w4,w6,trivial⟩
 have hD:AP Tryz.prog 112 [itD (.mk k3 n3 b3 l3)] (.tup [.agg (eC (eZ (.mk k3 n3 b3 l3))),.int .i64 (match(Ys (.mk k3 n3 b3 l3)).2 with|true=>0|false=>3)]) []:=QZ _ w3
 have hR:AP Tryz.prog 112 [itD (.mk k5 n5 b5 l5)] (.tup [.agg (eC (eZ (.mk k5 n5 b5 l5))),.int .i64 (match(Ys (.mk k5 n5 b5 l5)).2 with|true=>0|false=>3)]) []:=QZ _ w5
 have hI:=T8 _ w46
 have hL:=WC [.mk k4 n4 b4 l4,.mk k6 n6 b6 l6] (by simp) ⟨w4,w6,trivial⟩
 have hW:=Xp (JC (.mk k1 n1 b1 l1) (.mk k2 n2 b2 l2) (.mk k3 n3 b3 l3) (.mk k4 n4 b4 l4) (.mk k5 n5 b5 l5) (.mk k6 n6 b6 l6) (.mk k7 n7 b7 l7)) w1
 have hS:=hSame (JC (.mk k1 n1 b1 l1) (.mk k2 n2 b2 l2) (.mk k3 n3 b3 l3) (.mk k4 n4 b4 l4) (.mk k5 n5 b5 l5) (.mk k6 n6 b6 l6) (.mk k7 n7 b7 l7)) w1
 clear hSame hwm w3 w4 w5 w6 w46 w1 hws hlim hw
 unfold JC at *
 dsimp only[It.n]at *
 generalize eZ (.mk k3 n3 b3 l3)=dz at *
 generalize eZ (.mk k5 n5 b5 l5)=rz at *
 generalize (Ys (.mk k3 n3 b3 l3)).2=d2 at *
 generalize (Ys (.mk k5 n5 b5 l5)).2=r2 at *
 generalize WM (.mk 4 0 [] [.mk k4 n4 b4 l4,.mk k6 n6 b6 l6])=u at *
 obtain⟨u,ut,uq,u2⟩:=u
 try dsimp only at *
 generalize Ym ⟨n1,IntKind.i64.wrap (n2:Int),dz,rz,u,ut,uq,n7⟩=wr at *
 obtain⟨⟨wk,wn,wb,wl⟩,we⟩:=wr
 try dsimp only at *
 cases d2 with
 | false=>exact(Jn k n b _ _ oe k0 n0 b0 l0 k1 n1 b1 l1 k2 n2 b2 l2 k3 n3 b3 l3 k4 n4 b4 l4 k5 n5 b5 l5 k6 n6 b6 l6 k7 n7 b7 l7 dz.i dz.n dz.s dz.h dz.d rz.i rz.n rz.s rz.h rz.d u.i u.n u.s u.h u.d ut uq _ _ _ we wk wn wb _ _ hO t1 t2 hUo rfl rfl rfl rfl rfl rfl rfl hD hR hL hI hW hS).1 rfl
 | true=>
 cases r2 with
 | false=>exact(Jn k n b _ _ oe k0 n0 b0 l0 k1 n1 b1 l1 k2 n2 b2 l2 k3 n3 b3 l3 k4 n4 b4 l4 k5 n5 b5 l5 k6 n6 b6 l6 k7 n7 b7 l7 dz.i dz.n dz.s dz.h dz.d rz.i rz.n rz.s rz.h rz.d u.i u.n u.s u.h u.d ut uq _ _ _ we wk wn wb _ _ hO t1 t2 hUo rfl rfl rfl rfl rfl rfl rfl hD hR hL hI hW hS).2.1 rfl rfl
 | true=>
 cases u2 with
 | false=>exact(Jn k n b _ _ oe k0 n0 b0 l0 k1 n1 b1 l1 k2 n2 b2 l2 k3 n3 b3 l3 k4 n4 b4 l4 k5 n5 b5 l5 k6 n6 b6 l6 k7 n7 b7 l7 dz.i dz.n dz.s dz.h dz.d rz.i rz.n rz.s rz.h rz.d u.i u.n u.s u.h u.d ut uq _ _ _ we wk wn wb _ _ hO t1 t2 hUo rfl rfl rfl rfl rfl rfl rfl hD hR hL hI hW hS).2.2 rfl rfl rfl
 | true=>
 try dsimp only[Bool.and_self]
 cases t4:(we != 0) with
 | true=>exact(Jo k n b _ _ oe k0 n0 b0 l0 k1 n1 b1 l1 k2 n2 b2 l2 k3 n3 b3 l3 k4 n4 b4 l4 k5 n5 b5 l5 k6 n6 b6 l6 k7 n7 b7 l7 dz.i dz.n dz.s dz.h dz.d rz.i rz.n rz.s rz.h rz.d u.i u.n u.s u.h u.d ut uq _ _ _ we wk wn wb _ _ hO t1 t2 hUo rfl rfl rfl rfl rfl rfl rfl hD hR hL hI hW hS rfl rfl rfl).1 t4
 | false=>
 try dsimp only
 cases t5:It.beq (.mk wk wn wb wl) (.mk k n b l) with
 | false=>
  rw[t5]at hS
  exact(Jo k n b _ _ oe k0 n0 b0 l0 k1 n1 b1 l1 k2 n2 b2 l2 k3 n3 b3 l3 k4 n4 b4 l4 k5 n5 b5 l5 k6 n6 b6 l6 k7 n7 b7 l7 dz.i dz.n dz.s dz.h dz.d rz.i rz.n rz.s rz.h rz.d u.i u.n u.s u.h u.d ut uq _ _ _ we wk wn wb _ _ hO t1 t2 hUo rfl rfl rfl rfl rfl rfl rfl hD hR hL hI hW hS rfl rfl rfl).2.1 t4 hS
 | true=>
  rw[t5]at hS
  exact(Jo k n b _ _ oe k0 n0 b0 l0 k1 n1 b1 l1 k2 n2 b2 l2 k3 n3 b3 l3 k4 n4 b4 l4 k5 n5 b5 l5 k6 n6 b6 l6 k7 n7 b7 l7 dz.i dz.n dz.s dz.h dz.d rz.i rz.n rz.s rz.h rz.d u.i u.n u.s u.h u.d ut uq _ _ _ we wk wn wb _ _ hO t1 t2 hUo rfl rfl rfl rfl rfl rfl rfl hD hR hL hI hW hS rfl rfl rfl).2.2 t4 hS
theorem Ia {x:EidV}{t q:Nat}(h:Wr x t q=true):WM (Q1 x t q)=(x,t,q,true):=by
 obtain⟨h1,_,_⟩:=Ws.1 h
 have hr:=VN h1 (Va h1)
 have hz:Uq (Z8 x)=x:=by show(match(Ys (Z8 x)).2 with|true=>(Ys (Z8 x)).1|false=>YU)=x;rw[hr]
 unfold Q1 WM
 dsimp only
 have e:Qv (Z8 x) (.mk 0 t [] []) (.mk 0 q [] []) (.mk 4 0 [] [Z8 x,.mk 4 0 [] [.mk 0 t [] [],.mk 0 q [] []]])=true:=by
  unfold Qv
  rw[hz,hr]
  dsimp only[It.n]
  rw[h]
  exact Q0 _
 rw[e,hz]
 rfl
theorem XM {p:PriV}(hs:p.sum=IntKind.i64.wrap ((p.sum.toNat:Nat):Int)){x:It}(h:Ym p=(x,0)):UM x=(p,0):=by
 have hr:WK p=true:=by
  unfold Ym at h
  cases hr:WK p with
  | true=>rfl
  | false=>rw[hr]at h;simp at h
 have h2:=h
 unfold Ym at h2
 rw[hr]at h2
 have ho:=Kv h2
 obtain⟨_,_,d1,d2,d3,_⟩:=VA hr
 have r1:=VN d1 (Va d1)
 have r2:=VN d2 (Va d2)
 have r3:=Ia d3
 have e1:eZ (Z8 p.dest)=p.dest:=by unfold eZ;rw[r1]
 have e2:eZ (Z8 p.rep)=p.rep:=by unfold eZ;rw[r2]
 unfold Q1 at r3
 unfold UM
 rw[ho]
 unfold GP WL
 dsimp only
 have e:JC (.mk 0 p.fl [] []) (.mk 0 p.sum.toNat [] []) (Z8 p.dest) (Z8 p.src) (Z8 p.rep) (.mk 4 0 [] [.mk 0 p.t [] [],.mk 0 p.q [] []]) (.mk 0 p.life [] [])=p:=by
  unfold JC
  rw[e1,e2,r3]
  dsimp only[It.n]
  rw[<- hs]
 rw[e,r1,r2,r3,h]
 simp[Q0]
theorem YL {p:PriV}{x:It}(h:Ym p=(x,0)):WK p=true/\W8 (WL p) 2=(x,0):=by
 unfold Ym at h
 cases hr:WK p with
 | true=>rw[hr]at h;exact⟨rfl,h⟩
 | false=>rw[hr]at h;simp at h
theorem MR {z:It}(hw:wfI z):(UM z).1.fl<18446744073709551616:=by
 have hsub:=UL z 2
 have hws:wfs z.l:=by obtain⟨k,n,b,l⟩:=z;exact hw.2.2.2
 unfold UM
 generalize VM z 2=o at *
 have h0:pr0.fl<18446744073709551616:=by decide
 unfold GP
 split
 ·exact h0
 ·split
  ·rename_i heq
   rw[heq]at hsub
   split
   ·exact h0
   ·split
    ·exact h0
    ·split
     ·exact h0
     ·exact GO (Yr hws _ (hsub _ (List.mem_cons_of_mem _ (List.mem_cons_self ..))))
  ·exact h0
structure BunV where
 p:PriV
 bl:List BlkV
def JD (k:Nat):Bool:=k==1||(k==6||(k==7||k==10))
def Xq:List BlkV->List BlkV->Bool
 | _,[]=>true
 | pre,b::r=>Yb b&&(pre.all (fun c=>c.num != b.num&&(c.ty != b.ty || !JD b.ty))&&Xq (pre++[b]) r)
def XN (l:List BlkV):Bool:=match l.getLast? with
 | none=>false
 | some b=>decide (l.length<=8)&&(b.ty==1&&(b.num==1&&Xq [] l))
theorem Xr:∀ {l pre:List BlkV},Xq pre l=true->∀ b ∈ l,Yb b=true
 | [],_,_,b,hb=>by simp at hb
 | x::l,pre,h,b,hb=>by
  rw[Xq]at h
  simp only[Bool.and_eq_true]at h
  rcases List.mem_cons.1 hb with rfl|hb
  ·exact h.1
  ·exact Xr h.2.2 b hb
theorem Yi {l:List BlkV}(h:XN l=true):l.length<=8/\∀ b ∈ l,Yb b=true:=by
 unfold XN at h
 split at h
 ·cases h
 ·simp only[Bool.and_eq_true,decide_eq_true_eq]at h
  exact⟨h.1,Xr h.2.2.2⟩
def YV (b:BunV):List It:=(Ym b.p).1::b.bl.map fun c=>(Yc c).1
def UN (b:BunV):Bool:=(Ym b.p).2==0&&b.bl.all fun c=>(Yc c).2==0
def Y6 (b:BunV):List UInt8:=159::(ZI (YV b)++[255])
def ZP (b:BunV):Bool:=XN b.bl&&(UN b&&decide (((ZI (YV b)).length:Int)<=598))
theorem Kz:∀(l:List It) (k m:Nat),(∀ x ∈ l,We x 5=true/\Qg x=true/\YX x<=k)->l.length*k<=m->∃ m',Yf l 2 m=some m'
 | [],k,m,_,_=>⟨m,by rw[Yf]⟩
 | x::l,k,m,h,hm=>by
  obtain⟨h1,h2,h3⟩:=h x (List.mem_cons_self ..)
  rw[List.length_cons,Nat.add_mul,Nat.one_mul]at hm
  obtain⟨m',h4⟩:=Kz l k (m-YX x) (fun y hy=>h y (List.mem_cons_of_mem _ hy)) (by omega)
  refine⟨m',?_⟩
  rw[Yf,Xa,if_pos ⟨h1,by omega,h2⟩]
  exact h4
theorem VC {l:List It}{a:Int}{x:It}(h:W8 l a=(x,0)):ZG x=true:=by
 unfold W8 at h
 split at h
 ·simp at h
 ·split at h
  ·simp at h
  ·split at h
   ·split at h
    ·rename_i hr
     simp only[Prod.mk.injEq,and_true]at h
     subst h;exact hr
    ·simp at h
   ·split at h
    ·simp at h
    ·split at h
     ·simp at h
     ·rename_i hr
      simp only[Prod.mk.injEq,and_true]at h
      subst h;exact hr
theorem Xs {x:It}(h:ZG x=true):Qg x=true:=by
 rw[Kl]at h
 simp only[Bool.and_eq_true]at h
 exact h.2.2
theorem HE {c:BlkV}{x:It}(h:Yc c=(x,0)):We x 5=true/\Qg x=true/\YX x<=24:=by
 obtain⟨_,hs⟩:=Vz h
 refine⟨?_,Xs (VC hs),?_⟩
 ·rcases Vy hs with rfl|⟨s,_,rfl⟩
  ·simp[WJ,We,WE]
  ·simp[Qr,WJ,We,WE]
 ·rcases Vy hs with rfl|⟨s,_,rfl⟩
  ·simp[WJ,YX,Wa]
  ·simp[Qr,WJ,YX,Wa]
theorem K4 (x:EidV):We (Z8 x) 4=true/\YX (Z8 x)<=5:=by
 unfold Z8
 repeat' split
 all_goals simp[We,WE,YX,Wa]
theorem Na {p:PriV}{x:It}(h:Ym p=(x,0)):We x 5=true/\Qg x=true/\YX x<=24:=by
 obtain⟨_,hs⟩:=YL h
 obtain⟨a1,a2⟩:=K4 p.dest
 obtain⟨b1,b2⟩:=K4 p.src
 obtain⟨c1,c2⟩:=K4 p.rep
 refine⟨?_,Xs (VC hs),?_⟩
 ·rcases Vy hs with rfl|⟨s,_,rfl⟩
  ·simp[WL,We,WE,a1,b1,c1]
  ·simp[Qr,WL,We,WE,a1,b1,c1]
 ·rcases Vy hs with rfl|⟨s,_,rfl⟩
  ·simp[WL,YX,Wa];omega
  ·simp[Qr,WL,YX,Wa];omega
theorem I4 {b:BunV}(hb:ZP b=true)(hw:wfs (YV b)):Yh (Y6 b) 0=(.mk 4 0 [] (YV b),(Y6 b).length,0):=by
 unfold ZP UN at hb
 simp only[Bool.and_eq_true,List.all_eq_true,beq_iff_eq]at hb
 obtain⟨hf,⟨hp,hc⟩,_⟩:=hb
 have hl:=(Yi hf).1
 obtain⟨m',h⟩:=Kz (YV b) 24 255 (fun x hx=>by
  unfold YV at hx
  rcases List.mem_cons.1 hx with rfl|hx
  ·exact Na (Prod.ext rfl hp)
  ·obtain⟨c,hcm,rfl⟩:=List.mem_map.1 hx
   exact HE (Prod.ext rfl (hc c hcm))) (by unfold YV;simp;omega)
 have:=Hq hw h
 unfold Y6
 rw[this]
 simp
def Wg:List It->Except Int (List BlkV)
 | []=>.ok []
 | y::r=>match(WP y).2==0 with
  | false=>.error (WP y).2
  | true=>match Wg r with
   | .error e=>.error e
   | .ok l=>.ok ((WP y).1::l)
def bn0:BunV:=⟨pr0,[]⟩
def Ib (it:It):BunV × Int:=match it with
 | .mk k _ _ l=>match k==4&&(decide (2<=l.length)&&decide (l.length<=9)) with
  | false=>(bn0,3)
  | true=>match l with
   | []=>(bn0,3)
   | x::r=>match(UM x).2 != 0 with
    | true=>(bn0,(UM x).2)
    | false=>match Wg r with
     | .error e=>(bn0,e)
     | .ok bl=>match ZP ⟨(UM x).1,bl⟩ with
      | false=>(bn0,3)
      | true=>(⟨(UM x).1,bl⟩,0)
def VD (x:List UInt8):BunV × Int:=match decide ((x.length:Int)>1200) with
 | true=>(bn0,2)
 | false=>match((Yh x 0).2.2:Int) != 0 with
  | true=>(bn0,((Yh x 0).2.2:Int))
  | false=>match(Yh x 0).2.1==x.length with
   | false=>(bn0,3)
   | true=>Ib (Yh x 0).1
theorem Qw:∀ {l:List It} {e:Int},Wg l=.error e->e ≠ 0
 | [],e,h=>by cases h
 | y::r,e,h=>by
  rw[Wg]at h
  cases t:((WP y).2==0) with
  | false=>
   rw[t]at h
   simp only[Except.error.injEq]at h
   subst h
   simpa using t
  | true=>
   rw[t]at h
   dsimp only at h
   cases hr:Wg r with
   | error e'=>
    rw[hr]at h
    simp only[Except.error.injEq]at h
    subst h
    exact Qw hr
   | ok l=>rw[hr]at h;cases h
theorem Xt {x:List UInt8}{b:BunV}(h:VD x=(b,0)):ZP b=true:=by
 unfold VD at h
 split at h
 ·simp at h
 ·split at h
  ·rename_i t
   simp only[Prod.mk.injEq]at h
   rw[h.2]at t
   cases t
  ·split at h
   ·simp at h
   ·unfold Ib at h
    split at h
    split at h
    ·simp at h
    ·split at h
     ·simp at h
     ·split at h
      ·rename_i t
       simp only[Prod.mk.injEq]at h
       rw[h.2]at t
       cases t
      ·split at h
       ·rename_i e he
        simp only[Prod.mk.injEq]at h
        exact absurd h.2 (Qw he)
       ·split at h
        ·simp at h
        ·rename_i hr
         simp only[Prod.mk.injEq,and_true]at h
         subst h
         exact hr
theorem Ic {s:Int}(h0:0<=s)(h2:s<=2):s=IntKind.i64.wrap ((s.toNat:Nat):Int):=by
 rw[IntWalk.i64_in _ (by omega)];omega
theorem Xu:∀ {l:List BlkV},(∀ c ∈ l,Yb c=true/\(Yc c).2=0)->Wg (l.map fun c=>(Yc c).1)=.ok l
 | [],_=>rfl
 | c::l,h=>by
  obtain⟨h1,h2⟩:=h c (List.mem_cons_self ..)
  obtain⟨_,_,s1,s2,_⟩:=UK h1
  have hr:=XL (Ic s1 s2) (x:=(Yc c).1) (Prod.ext rfl h2)
  rw[List.map_cons,Wg,hr,Xu fun y hy=>h y (List.mem_cons_of_mem _ hy)]
  rfl
theorem Qi {b:BunV}(hb:ZP b=true)(hw:wfs (YV b)):VD (Y6 b)=(b,0):=by
 have hi:=I4 hb hw
 have hb2:=hb
 unfold ZP UN at hb2
 simp only[Bool.and_eq_true,List.all_eq_true,beq_iff_eq,decide_eq_true_eq]at hb2
 obtain⟨hf,⟨hp,hc⟩,hl⟩:=hb2
 obtain⟨hl8,hbr⟩:=Yi hf
 obtain⟨hpr,_⟩:=YL (p:=b.p) (x:=(Ym b.p).1) (Prod.ext rfl hp)
 obtain⟨s1,s2,_⟩:=VA hpr
 have hrp:=XM (Ic s1 s2) (x:=(Ym b.p).1) (Prod.ext rfl hp)
 have hrb:=Xu fun c hcm=>⟨hbr c hcm,hc c hcm⟩
 have hne:1<=b.bl.length:=by
  unfold XN at hf
  cases hbl:b.bl with
  | nil=>rw[hbl]at hf;cases hf
  | cons c l=>simp
 have hlen:(Y6 b).length=(ZI (YV b)).length+2:=by unfold Y6;simp
 have d0:decide (((Y6 b).length:Int)>1200)=false:=decide_eq_false (by omega)
 unfold VD
 rw[d0,hi]
 dsimp only
 have e1:(((0:Nat):Int) != 0)=false:=rfl
 rw[e1]
 dsimp only
 rw[beq_self_eq_true]
 dsimp only
 unfold Ib YV
 have d1:decide (2<=((Ym b.p).1::b.bl.map fun c=>(Yc c).1).length)=true:=decide_eq_true (by simp;omega)
 have d2:decide (((Ym b.p).1::b.bl.map fun c=>(Yc c).1).length<=9)=true:=decide_eq_true (by simp;omega)
 dsimp only
 rw[d1,d2,hrp,hrb]
 dsimp only
 rw[hb]
 rfl
theorem KA {b:BunV}(hp:b.p.fl<18446744073709551616)(hb:∀ c ∈ b.bl,c.fl<18446744073709551616/\c.data.length<=3000):wfs (YV b):=by
 have key:∀ l:List BlkV,(∀ c ∈ l,c.fl<18446744073709551616/\c.data.length<=3000)->wfs (l.map fun c=>(Yc c).1):=fun l=>by
  induction l with
  | nil=>intro _;trivial
  | cons c l ih=>
   intro h
   obtain⟨h1,h2⟩:=h c (List.mem_cons_self ..)
   exact⟨Xn h1 h2,ih fun y hy=>h y (List.mem_cons_of_mem _ hy)⟩
 exact⟨U4 hp,key b.bl hb⟩
theorem Xv {c:BlkV}(h:Yb c=true):c.data.length<=200:=by
 obtain⟨_,_,_,_,hd⟩:=UK h
 unfold Xm at hd
 rw[Bool.and_eq_true,decide_eq_true_eq]at hd
 omega
def JO (x:List UInt8):Bool:=(VD x).2==0&&Y6 (VD x).1==x
theorem HF {b:BunV}(hb:ZP b=true)(hw:wfs (YV b)):JO (Y6 b)=true:=by
 unfold JO
 rw[Qi hb hw]
 simp
theorem Xw {b:BunV}(hb:ZP b=true):(Y6 b).length<=600:=by
 unfold ZP at hb
 simp only[Bool.and_eq_true,decide_eq_true_eq]at hb
 have hlen:(Y6 b).length=(ZI (YV b)).length+2:=by unfold Y6;simp
 omega
abbrev bkE (b:BlkV):E:=.agg [.int .u64 (b.ty:Int),.int .u64 (b.num:Int),.int .u64 (b.fl:Int),.int .i64 b.sum,.sl (b.data.map E.byte)]
abbrev ZU (l:List BlkV):List E:=l.map bkE
theorem Qx (l:List BlkV):Uni 5 (ZU l):=Uni.map (f:=bkE) (fun _=>rfl) l
theorem Wn (l:List BlkV):(ZU l).length=l.length:=List.length_map ..
theorem W3 {l:List BlkV}{i:Nat}{b:BlkV}(h:l[i]?=some b):(ZU l)[((i:Nat):Int).toNat]?=some (.agg [.int .u64 (b.ty:Int),.int .u64 (b.num:Int),.int .u64 (b.fl:Int),.int .i64 b.sum,.sl (b.data.map E.byte)]):=by
 rw[Int.toNat_natCast,List.getElem?_map,h];rfl
theorem Nb (k:Nat):JD k=(((k:Int)==1)||(((k:Int)==6)||(((k:Int)==7)||((k:Int)==10)))):=by
 unfold JD
 rw[Bool.eq_iff_iff]
 simp only[Bool.or_eq_true,beq_iff_eq]
 omega
theorem Nc [Known](k:Nat):AP Tryz.prog 106 [.int .u64 (k:Int)] (.bool (JD k)) []:=by
 rw[Nb]
 refine AP.ofA (Zk Tryz.func106 Z Tryz.ntmps106 Z Z ?_)
 repeat'(first|(apply Zh Za;exact Z)|(apply Ze Za;exact Z)|refine Z6 ?_|refine Zg Z Z Z Qt ?_|refine Zp Z Z Z Qt ?_|(apply YP;exact Z;exact Z;all_goals intro hb)|refine Zl Z Qt Z Z ?_|refine Zi Z Qt Z Z ?_)
 all_goals(apply Zo [];(apply Zc Za;exact Z);(iterate 4 exact Z))
 all_goals first|rfl|(simp only[*];done)|(simp only[*];rfl)|(simp[*];done)
def V6 (b c:BlkV):Bool:=c.num != b.num&&(c.ty != b.ty || !JD b.ty)
theorem Lt (b c:BlkV):V6 b c=(((c.num:Int) != (b.num:Int))&&(((c.ty:Int) != (b.ty:Int)) || !JD b.ty)):=by
 have e:∀ a b:Nat,(a != b)=(((a:Nat):Int) != (b:Int)):=fun a b=>by rw[Bool.eq_iff_iff,bne_iff_ne,bne_iff_ne];omega
 unfold V6
 rw[e,e]
theorem HG (pre:List BlkV)(b:BlkV)(r:List BlkV):Xq pre (b::r)=(Yb b&&pre.all (V6 b)&&Xq (pre++[b]) r):=by
 rw[Xq,Bool.and_assoc];rfl
theorem Lu (l:List BlkV):XN l=match l[l.length-1]? with
  | none=>false
  | some b=>decide (l.length<=8)&&((b.ty:Int)==1&&((b.num:Int)==1&&Xq [] l)):=by
 unfold XN
 rw[List.getLast?_eq_getElem?]
 cases h:l[l.length-1]? with
 | none=>rfl
 | some b=>
  have e:∀ a:Nat,(a==1)=(((a:Nat):Int)==1):=fun a=>by rw[Bool.eq_iff_iff,beq_iff_eq,beq_iff_eq];omega
  dsimp only
  rw[e,e]
theorem Nd [Known][KnownU8](l:List BlkV)(hl:l.length<=1000000)(hd:∀ c ∈ l,c.data.length<=140737488351232):AP Tryz.prog 56 [.sl .ext (ZU l)] (.bool (XN l)) []:=by
 have hlen:=Wn l
 have hU:=Qx l
 have en:IntKind.i64.wrap (((ZU l).length:Int)-1)=(l.length:Int)-1:=by rw[IntWalk.i64_in _ (by omega)];omega
 rw[Lu]
 cases hlast:l[l.length-1]? with
 | none=>
  have h0:l.length=0:=by have:=List.getElem?_eq_none_iff.1 hlast;omega
  have t1:decide ((l.length:Int)-1<0)=true:=decide_eq_true (by omega)
  refine AP.ofA (Zk Tryz.func56 Z Tryz.ntmps56 Z Z ?_)
  repeat'(first|refine V1 ?_|rw[en]|(apply Zh Za;exact Z)|(apply Ze Za;exact Z)|(apply Zq Za;exact Z)|refine Z6 ?_|refine Zp Z Z Z Qt ?_|refine Zl Z Qt Z Z ?_|refine Zd Z Qt ?_|refine Zm Za Z Z Z Z ?_)
  all_goals exact Qe
 | some b=>
 have hlt:=(List.getElem?_eq_some_iff.1 hlast).1
 have hv0:=W3 hlast
 rw[show((l.length-1:Nat):Int)=(l.length:Int)-1 from by omega]at hv0
 have t1:decide ((l.length:Int)-1<0)=false:=decide_eq_false (by omega)
 dsimp only
 rcases Nat.lt_or_ge 8 l.length with h8|h8
 ·have t2:decide ((l.length:Int)-1 ≥ 8)=true:=decide_eq_true (by omega)
  rw[decide_eq_false (by omega:¬ l.length<=8)]
  refine AP.ofA (Zk Tryz.func56 Z Tryz.ntmps56 Z Z ?_)
  repeat'(first|refine V1 ?_|rw[en]|(apply Zh Za;exact Z)|(apply Ze Za;exact Z)|(apply Zq Za;exact Z)|refine Z6 ?_|refine Zg Z Z Z Qt ?_|refine Zp Z Z Z Qt ?_|refine Zl Z Qt Z Z ?_|refine Zi Z Qt Z Z ?_|refine Zd Z Qt ?_|refine Zm Za Z Z Z Z ?_)
  all_goals exact Qe
 have t2:decide ((l.length:Int)-1 ≥ 8)=false:=decide_eq_false (by omega)
 rw[decide_eq_true h8]
 have i0:(0:Int)<=(l.length:Int)-1:=by omega
 cases t3:((b.ty:Int)==1) with
 | false=>
  have t5:((b.ty:Int) != 1)=true:=by rw[bne,t3];rfl
  refine AP.ofA (Zk Tryz.func56 Z Tryz.ntmps56 Z Z ?_)
  repeat'(first|refine V1 ?_|rw[en]|(apply Zh Za;exact Z)|(apply Ze Za;exact Z)|(apply Zq Za;exact Z)|refine Z6 ?_|refine Zg Z Z Z Qt ?_|refine Zp Z Z Z Qt ?_|refine Zl Z Qt Z Z ?_|refine Zi Z Qt Z Z ?_|refine Zd Z Qt ?_|refine Zm Za Z Z Z Z ?_|(apply Zu Za;(iterate 6 exact Z);(first|exact Qt|rotate_left);(first|with_reducible assumption|decide +kernel|exact Z);(first|exact Zj rfl|with_reducible assumption|decide +kernel|rotate_left)))
  all_goals exact Qe
 | true=>
 have t5:((b.ty:Int) != 1)=false:=by rw[bne,t3];rfl
 cases t4:((b.num:Int)==1) with
 | false=>
  have t6:((b.num:Int) != 1)=true:=by rw[bne,t4];rfl
  refine AP.ofA (Zk Tryz.func56 Z Tryz.ntmps56 Z Z ?_)
  repeat'(first|refine V1 ?_|rw[en]|(apply Zh Za;exact Z)|(apply Ze Za;exact Z)|(apply Zq Za;exact Z)|refine Z6 ?_|refine Zg Z Z Z Qt ?_|refine Zi Z Qt Z Z ?_|refine Zd Z Qt ?_|refine Zm Za Z Z Z Z ?_|(apply Zu Za;(iterate 6 exact Z);(first|exact Qt|rotate_left);(first|with_reducible assumption|decide +kernel|exact Z);(first|exact Zj rfl|with_reducible assumption|decide +kernel|rotate_left)))
  all_goals exact Qe
 | true=>
 have t6:((b.num:Int) != 1)=false:=by rw[bne,t4];rfl
 rw[Bool.true_and,Bool.true_and,Bool.true_and]
 generalize hF:Xq [] l=F
 refine AP.ofA (Zk Tryz.func56 Z Tryz.ntmps56 Z Z ?_)
 repeat'(first|refine V1 ?_|rw[en]|(apply Zh Za;exact Z)|(apply Ze Za;exact Z)|(apply Zq Za;exact Z)|refine Zg Z Z Z Qt ?_|refine Zi Z Qt Z Z ?_|refine Zf Z Qt ?_|refine Zm Za Z Z Z Z ?_|(apply Zu Za;(iterate 6 exact Z);(first|exact Qt|rotate_left);(first|with_reducible assumption|decide +kernel|exact Z);(first|exact Zj rfl|with_reducible assumption|decide +kernel|rotate_left)))
 refine ZW (fun f tm bx fr=>∃(i:Nat),f+i=l.length/\Xq (l.take i) (l.drop i)=F/\tm=[(0,.sl .ext (ZU l)),(4,.bool true),(34,.sl .ext (ZU l)),(35,.int .i64 ((ZU l).length:Int)),(36,.int .i64 (i:Int))]/\bx=[]/\fr=[]) (l.length+1) (Lands.mk' (m:=l.length) (Nat.lt_succ_self _) ⟨0,by omega,hF,rfl,rfl,rfl⟩ ?_ rfl rfl rfl rfl rfl rfl) ?_
 ·exact .cons rfl (.cons rfl (.cons rfl (.cons rfl (.cons rfl .nil))))
 rintro f tm bx fr ⟨i,hf,hq,rfl,rfl,rfl⟩
 rcases Nat.lt_or_ge i l.length with hlt|hge
 ·have hdl:decide ((i:Int)<((ZU l).length:Int))=true:=decide_eq_true (by omega)
  obtain⟨b,hy⟩:∃ y,l[i]?=some y:=⟨_,List.getElem?_eq_getElem hlt⟩
  have hv:=W3 hy
  have hR:=V5 b (hd b (List.mem_of_getElem? hy))
  have hA:=Nc b.ty
  have hdr:l.drop i=b::l.drop (i+1):=by
   rw[List.drop_eq_getElem_cons hlt];congr 1
   exact(List.getElem?_eq_some_iff.1 hy).2
  rw[hdr,HG]at hq
  have ht1:l.take (i+1)=l.take i++[b]:=by rw[List.take_add_one,hy];rfl
  rw[<- ht1]at hq
  have ei:IntKind.i64.wrap ((i:Int)+1)=((i+1:Nat):Int):=by rw[IntWalk.i64_in _ (by omega)];omega
  generalize hr:Yb b=r at hR hq
  have hle:((i:Nat):Int).toNat<=(ZU l).length:=by rw[Int.toNat_natCast];omega
  have hI:(ZU l).take ((i:Nat):Int).toNat=ZU (l.take i):=by rw[Int.toNat_natCast];exact List.map_take.symm
  have hli:(l.take i).length=i:=by rw[List.length_take];omega
  have hlb:=Wn (l.take i)
  have hU2:=Qx (l.take i)
  generalize hlt2:l.take i=p at *
  repeat'(first|(apply Zb (hR);kernel_rfl;(iterate 4 exact Z))|refine QJ Za Z Z Z Z Z Z hU (Int.natCast_nonneg _) hle hI ?_|(apply Zh Za;exact Z)|(apply Ze Za;exact Z)|refine Zd Z Qt ?_|refine Zm Za Z Z Z Z ?_|(apply Zu Za;(iterate 6 exact Z);(first|exact Qt|rotate_left);(first|with_reducible assumption|decide +kernel|exact Z);(first|exact Zj rfl|with_reducible assumption|decide +kernel|rotate_left)))
  refine ZW (fun f tm bx fr=>∃(j:Nat),f+j=p.length/\tm=[(0,.sl .ext (ZU l)),(4,.bool (r&&(p.take j).all (V6 b))),(6,.ptr 0 0),(34,.sl .ext (ZU l)),(35,.int .i64 ((ZU l).length:Int)),(36,.int .i64 (i:Int)),(45,.sl .ext (ZU p)),(46,.int .i64 ((ZU p).length:Int)),(47,.int .i64 (j:Int))]/\bx=[bkC b]/\fr=[]) (p.length+1) (Lands.mk' (m:=p.length) (Nat.lt_succ_self _) ⟨0,by omega,by rw[List.take_zero,List.all_nil,Bool.and_true],rfl,rfl⟩ ?_ rfl rfl rfl rfl rfl rfl) ?_
  ·exact .cons rfl (.cons rfl (.cons rfl (.cons rfl (.cons rfl (.cons rfl (.cons rfl (.cons rfl (.cons rfl .nil))))))))
  rintro f2 tm bx fr ⟨j,hj,rfl,rfl,rfl⟩
  rcases Nat.lt_or_ge j p.length with hjl|hjg
  ·have hdl2:decide ((j:Int)<((ZU p).length:Int))=true:=decide_eq_true (by omega)
   obtain⟨c,hc⟩:∃ y,p[j]?=some y:=⟨_,List.getElem?_eq_getElem hjl⟩
   have hv2:=W3 hc
   have ej:IntKind.i64.wrap ((j:Int)+1)=((j+1:Nat):Int):=by rw[IntWalk.i64_in _ (by omega)];omega
   have ht2:(p.take (j+1)).all (V6 b)=((p.take j).all (V6 b)&&V6 b c):=by rw[List.take_add_one,hc,List.all_append];simp
   have hok:(r&&(p.take (j+1)).all (V6 b))=((r&&(p.take j).all (V6 b))&&(((c.num:Int) != (b.num:Int))&&(((c.ty:Int) != (b.ty:Int)) || !JD b.ty))):=by rw[ht2,Lt,Bool.and_assoc]
   generalize (r&&(p.take j).all (V6 b))=ok at *
   have key:∀ v:Bool,v=(r&&(p.take (j+1)).all (V6 b))->∃(j':Nat),f2-1+j'=p.length/\[(0,D.sl .ext (ZU l)),(4,.bool v),(6,.ptr 0 0),(34,.sl .ext (ZU l)),(35,.int .i64 ((ZU l).length:Int)),(36,.int .i64 (i:Int)),(45,.sl .ext (ZU p)),(46,.int .i64 ((ZU p).length:Int)),(47,.int .i64 ((j+1:Nat):Int))]=[(0,.sl .ext (ZU l)),(4,.bool (r&&(p.take j').all (V6 b))),(6,.ptr 0 0),(34,.sl .ext (ZU l)),(35,.int .i64 ((ZU l).length:Int)),(36,.int .i64 (i:Int)),(45,.sl .ext (ZU p)),(46,.int .i64 ((ZU p).length:Int)),(47,.int .i64 (j':Int))]/\[bkC b]=[bkC b]/\([]:List Fr)=[]:=fun v hv=>⟨j+1,by omega,by rw[hv],rfl,rfl⟩
   cases ok<;>cases n1:((c.num:Int) != (b.num:Int))<;>cases n2:((c.ty:Int) != (b.ty:Int))<;>cases n3:JD b.ty<;>rw[n1,n2,n3]at hok<;>rw[n3]at hA
   all_goals repeat'(first|rw[ej]|(apply Zb (hA);kernel_rfl;(iterate 4 exact Z))|(apply Zh Za;exact Z)|(apply Ze Za;exact Z)|refine Z6 ?_|refine Zg Z Z Z Qt ?_|refine Zv Z Z Z Qt ?_|refine Zp Z Z Z Qt ?_|refine XW Z Z Z ?_|refine Zl Z Qt Z Z ?_|refine Zi Z Qt Z Z ?_|refine Zd Z Qt ?_|refine YJ ?_|(apply Zu Za;(iterate 6 exact Z);(first|exact Qt|rotate_left);(first|with_reducible assumption|decide +kernel|exact Z);(first|exact Zj rfl|with_reducible assumption|decide +kernel|rotate_left)))
   all_goals refine Lands.mk' (m:=f2-1) (by omega) (key _ (by rw[hok])) ?_ rfl rfl rfl rfl rfl rfl
   all_goals exact .cons rfl (.cons rfl (.cons rfl (.cons rfl (.cons rfl (.cons rfl (.cons rfl (.cons rfl (.cons rfl .nil))))))))
  ·have hdl2:decide ((j:Int)<((ZU p).length:Int))=false:=decide_eq_false (by omega)
   rw[List.take_of_length_le hjg]
   generalize (r&&p.all (V6 b))=ok at *
   cases ok with
   | true=>
    repeat'(first|rw[ei]|(apply Ze Za;exact Z)|refine Z6 ?_|refine Zf Z Qt ?_|refine YJ ?_)
    refine Lands.mk' (m:=f-1) (by omega) ⟨i+1,by omega,by simpa using hq,rfl,rfl,rfl⟩ ?_ rfl rfl rfl rfl rfl rfl
    exact .cons rfl (.cons rfl (.cons rfl (.cons rfl (.cons rfl .nil))))
   | false=>
    rw[Bool.false_and]at hq
    subst hq
    repeat'(first|(apply Ze Za;exact Z)|refine Z6 ?_|refine Zd Z Qt ?_|refine Zf Z Qt ?_)
    all_goals exact Qe
 ·have hdl:decide ((i:Int)<((ZU l).length:Int))=false:=decide_eq_false (by omega)
  rw[List.drop_eq_nil_of_le hge,Xq]at hq
  subst hq
  repeat'(first|(apply Ze Za;exact Z)|refine Z6 ?_|refine Zf Z Qt ?_)
  all_goals exact Qe
end Go.Proofs.YtmljabhmajehnaaGreatDoor
end
