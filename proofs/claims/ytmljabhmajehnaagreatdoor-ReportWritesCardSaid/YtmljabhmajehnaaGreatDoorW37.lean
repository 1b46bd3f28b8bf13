/- The document's reading of items: lists. -/
import Derived.Test.YtmljabhmajehnaaGreatDoorW36
import Derived.Test.YtmljabhmajehnaaGreatDoorW27
set_option linter.unusedVariables false
set_option linter.unusedSimpArgs false
section
open Go.RowKit Go.Pl Go.Av
namespace Go.Proofs.YtmljabhmajehnaaGreatDoor
set_option maxHeartbeats 4000000
def I5 (it:Nat->List UInt8->Res (It × List UInt8 × Nat)):Nat->List It->Nat->List UInt8->List It
 | 0,acc,_,_=>acc
 | f+1,acc,m,s=>match it m s with
  | .error _=>acc
  | .ok (x,r,m')=>I5 it f (acc++[x]) m' r
def I6 (it:Nat->List UInt8->Res (It × List UInt8 × Nat)):Nat->List It->Nat->List UInt8->List It
 | 0,acc,_,_=>acc
 | f+1,acc,m,s=>match V9 s with
  | true=>acc
  | false=>match it m s with
   | .error _=>acc
   | .ok (x,r,m')=>I6 it f (acc++[x]) m' r
def TA (it:Nat->List UInt8->Res (It × List UInt8 × Nat))(h:Hd)(m:Nat)(r:List UInt8):List It:=match h.2.2 with
 | true=>I6 it (r.length+1) [] m r
 | false=>if h.2.1<=r.length then I5 it h.2.1 [] m r else []
def itZ:It:=.mk 0 0 [] []
def U5:Nat->Nat->List UInt8->It × Nat
 | 0,_,_=>(itZ,0)
 | d+1,m,s=>match rdS s with
  | .error _=>(itZ,0)
  | .ok (h,r)=>if okK h.1=false then(itZ,0) else if m=0 then(itZ,0) else if h.1=0 then(itZ,0) else if h.1=4 then(.mk 4 0 [] (TA (ZI d) h (m-1) r),0) else(.mk h.1 0 (GT h r) [],m-1)
abbrev Sk (b:List UInt8)(o:Res (It × List UInt8 × Nat))(E:It × Nat):D:=match o with
 | .error e=>.tup [itD E.1,.int .i64 0,.int .i64 (E.2:Int),.int .i64 (e:Int)]
 | .ok (x,r,m)=>.tup [itD x,.int .i64 ((b.length-r.length:Nat):Int),.int .i64 (m:Int),.int .i64 0]
abbrev Rm (b:List UInt8)(o:Res (List It × List UInt8 × Nat))(E:List It):D:=match o with
 | .error e=>.tup [itD (.mk 4 0 [] E),.int .i64 0,.int .i64 0,.int .i64 (e:Int)]
 | .ok (l,r,m)=>.tup [itD (.mk 4 0 [] l),.int .i64 ((b.length-r.length:Nat):Int),.int .i64 (m:Int),.int .i64 0]
abbrev Lb (n:Nat)(o:Bool)(tk:Tok)(acc:List E):List (List D):=[[.int .i64 4,.int .u64 (n:Int),.bool o],[.int .i64 0,.int .u64 0,.sl .nil [],.sl .nil []],[.int .i64 4,.int .u64 0,.sl .nil [],.sl tk acc]]
theorem Mc [Known](d deep:Nat)(hdd:deep+d=6)(b:List UInt8)(hb:b.length<=1099511627776)
  (IH:∀ p m:Nat,p<=b.length->m<=256->AP Tryz.prog 151 [byE b,.int .i64 (p:Int),.int .i64 ((deep+1:Nat):Int),.int .i64 (m:Int)] (Sk b (ZI d m (b.drop p)) (U5 d m (b.drop p))) [])
  (n:Nat) (o:Bool) (p m:Nat) (hp:p<=b.length) (hm:m<=256) (hn:n<18446744073709551616):AP Tryz.prog 176 [byE b,.int .i64 (p:Int),hd (4,n,o),.int .i64 (deep:Int),.int .i64 (m:Int)] (Rm b (QJ (ZI d) (4,n,o) m (b.drop p)) (TA (ZI d) (4,n,o) m (b.drop p))) []:=by
 show AP Tryz.prog _ [byE b,.int .i64 (p:Int),.agg [.int .i64 4,.int .u64 (n:Int),.bool o],.int .i64 (deep:Int),.int .i64 (m:Int)] _ _
 have hR:=Qh d (by omega)
 have hU:=Yj b
 have ed:IntKind.i64.wrap ((deep:Int)+1)=((deep+1:Nat):Int):=by rw[IntWalk.i64_in _ (by omega)];omega
 cases o with
 | true=>
  unfold QJ TA
  dsimp only
  generalize ho:Je (ZI d) ((b.drop p).length+1) [] m (b.drop p)=o
  generalize hE0:I6 (ZI d) ((b.drop p).length+1) [] m (b.drop p)=Er
  refine AP.ofA (Zl Tryz.func176 Z Tryz.ntmps176 Z Z ?_)
  repeat'(first|(apply Zi Za;exact Z)|(apply Zf Za;exact Z)|(apply Zp Za;exact Z)|refine Zt Z Z Z Qt ?_|refine Zh Z Qt Z Z ?_|refine Zg Z Qt ?_)
  refine ZQ (fun f tm bx fr=>∃(i:Nat) (acc:List It) (p' m' c:Nat) (L:List E),f+i=(b.drop p).length+1/\p'<=b.length/\m'<=256/\c=L.length/\L=Zu acc/\acc.length+(b.length-p')<=b.length/\(b.drop p').length<f/\Je (ZI d) f acc m' (b.drop p')=o/\I6 (ZI d) f acc m' (b.drop p')=Er/\tm=[(0,byE b),(1,.int .i64 (p':Int)),(3,.int .i64 (deep:Int)),(4,.int .i64 (m':Int)),(7,.ptr 0 0),(10,.ptr 1 0),(14,.ptr 2 0),(15,.int .u64 (i:Int))] /\
   ((acc=[]/\bx=Lb n true .nil []/\fr=[])\/(bx=Lb n true (.own 1) L/\fr=[⟨1,4,134⟩,⟨c,4,134⟩]))) ((b.drop p).length+2) (Lands.mk' (m:=(b.drop p).length+1) (Nat.lt_succ_self _) ⟨0,[],p,m,0,[],rfl,hp,hm,rfl,rfl,by simp,by omega,ho,hE0,rfl,.inl ⟨rfl,rfl,rfl⟩⟩ ?_ rfl rfl rfl rfl rfl rfl) ?_
  ·exact .cons rfl (.cons rfl (.cons rfl (.cons rfl (.cons rfl (.cons rfl (.cons rfl (.cons rfl .nil)))))))
  rintro f tm bx fr ⟨i,acc,p',m',c,L,hfi,hp',hm',hc,hL,hsum,hf,hS,hE,rfl,hst⟩
  obtain⟨f,rfl⟩:∃ g,f=g+1:=⟨f-1,by omega⟩
  rw[Je]at hS
  rw[I6]at hE
  have hlp:(b.drop p').length=b.length-p':=List.length_drop ..
  have hlp0:(b.drop p).length=b.length-p:=List.length_drop ..
  have ep1:IntKind.i64.wrap ((p':Int)+1)=((p'+1:Nat):Int):=by rw[IntWalk.i64_in _ (by omega)];omega
  have ei:IntKind.u64.wrap ((i:Int)+1)=((i+1:Nat):Int):=by rw[IntKind.wrap_u64];omega
  rcases Od hp' with⟨he,ce,d1,hv,d2⟩ | ⟨he,hne⟩
  ·have d3:decide ((p':Int)<((b.map E.byte).length:Int))=true:=decide_eq_true (by have:=of_decide_eq_false d1;omega)
   rw[he]at hS
   dsimp only at hS
   subst hS
   clear hE
   obtain⟨x,hx⟩:=Vd _ he
   obtain⟨q1,q2,q3⟩:=Y1 (pre:=[x]) hp' hx
   have q3:b.length-(b.drop p').tail.length=p'+1:=q3.symm
   unfold Rm
   dsimp only
   rw[q3]
   subst hL
   rcases hst with⟨rfl,rfl,rfl⟩ | ⟨rfl,rfl⟩
   ·repeat'(first|rw[ep1]|(apply Zi Za;exact Z)|(apply Zf Za;exact Z)|(apply Zp Za;exact Z)|refine Ze Z Z Z Qt ?_|refine Zn Z Z Z Qt ?_|refine Zj Z Qt Z Z ?_|refine Zd Z Qt ?_|refine Yy ?_|refine Zm Za Z Z Z Z ?_|(apply Zv Za;(iterate 6 exact Z);(first|exact Qt|rotate_left);(first|with_reducible assumption|decide +kernel|exact Z);(first|exact Zk rfl|with_reducible assumption|decide +kernel|rotate_left)))
    all_goals exact Qe
   ·repeat'(first|rw[ep1]|(apply Zi Za;exact Z)|(apply Zf Za;exact Z)|(apply Zp Za;exact Z)|refine Ze Z Z Z Qt ?_|refine Zn Z Z Z Qt ?_|refine Zj Z Qt Z Z ?_|refine Zd Z Qt ?_|refine Yy ?_|refine Zm Za Z Z Z Z ?_|(apply Zv Za;(iterate 6 exact Z);(first|exact Qt|rotate_left);(first|with_reducible assumption|decide +kernel|exact Z);(first|exact Zk rfl|with_reducible assumption|decide +kernel|rotate_left)))
    all_goals exact Qe
  ·rw[he]at hS hE
   dsimp only at hS hE
   have hit:=IH p' m' hp' hm'
   have hne2:decide ((p':Int)<((b.map E.byte).length:Int))=false\/∃ c:UInt8,decide ((p':Int)<((b.map E.byte).length:Int))=true/\(b.map E.byte)[((p':Nat):Int).toNat]?=some (E.byte c)/\((c.toNat:Int)==255)=false:=by
    rcases hne with h|⟨c,h1,h2,h3⟩
    ·exact .inl (decide_eq_false (by have:=of_decide_eq_true h;omega))
    ·exact .inr ⟨c,decide_eq_true (by have:=of_decide_eq_false h1;omega),h2,h3⟩
   cases hr:ZI d m' (b.drop p') with
   | error e=>
    rw[hr]at hS hit hE
    dsimp only at hS hE
    subst hS hE
    subst hL
    have te:(((e:Nat):Int) != 0)=true:=by have:=VP _ _ _ _ hr;simpa using this
    generalize U5 d m' (b.drop p')=R at hit
    obtain⟨⟨k0,n0,b0,l0⟩,r0⟩:=R
    replace hit:AP Tryz.prog _ [byE b,.int .i64 (p':Int),.int .i64 ((deep+1:Nat):Int),.int .i64 (m':Int)] (.tup [.agg [.int .i64 k0,.int .u64 (n0:Int),.sl .ext (b0.map E.byte),.sl .ext (Zu l0)],.int .i64 0,.int .i64 (r0:Int),.int .i64 (e:Int)]) []:=hit
    rcases hne2 with d3|⟨ce,d3,hv,d2⟩
    ·rcases hst with⟨rfl,rfl,rfl⟩ | ⟨rfl,rfl⟩
     ·repeat'(first|rw[ed]|(apply Zb (hit);kernel_rfl;(iterate 4 exact Z))|(apply Zi Za;exact Z)|(apply Zf Za;exact Z)|(apply Zp Za;exact Z)|refine Ze Z Z Z Qt ?_|refine Zt Z Z Z Qt ?_|refine Zn Z Z Z Qt ?_|refine Zj Z Qt Z Z ?_|refine Zh Z Qt Z Z ?_|refine Zd Z Qt ?_|refine Zg Z Qt ?_|refine Zm Za Z Z Z Z ?_)
      all_goals exact Qe
     ·repeat'(first|rw[ed]|(apply Zb (hit);kernel_rfl;(iterate 4 exact Z))|(apply Zi Za;exact Z)|(apply Zf Za;exact Z)|(apply Zp Za;exact Z)|refine Ze Z Z Z Qt ?_|refine Zt Z Z Z Qt ?_|refine Zn Z Z Z Qt ?_|refine Zj Z Qt Z Z ?_|refine Zh Z Qt Z Z ?_|refine Zd Z Qt ?_|refine Zg Z Qt ?_|refine Zm Za Z Z Z Z ?_)
      all_goals exact Qe
    ·rcases hst with⟨rfl,rfl,rfl⟩ | ⟨rfl,rfl⟩
     ·repeat'(first|rw[ed]|(apply Zb (hit);kernel_rfl;(iterate 4 exact Z))|(apply Zi Za;exact Z)|(apply Zf Za;exact Z)|(apply Zp Za;exact Z)|refine Ze Z Z Z Qt ?_|refine Zn Z Z Z Qt ?_|refine Zj Z Qt Z Z ?_|refine Zd Z Qt ?_|refine Zg Z Qt ?_|refine Zm Za Z Z Z Z ?_|(apply Zv Za;(iterate 6 exact Z);(first|exact Qt|rotate_left);(first|with_reducible assumption|decide +kernel|exact Z);(first|exact Zk rfl|with_reducible assumption|decide +kernel|rotate_left)))
      all_goals exact Qe
     ·repeat'(first|rw[ed]|(apply Zb (hit);kernel_rfl;(iterate 4 exact Z))|(apply Zi Za;exact Z)|(apply Zf Za;exact Z)|(apply Zp Za;exact Z)|refine Ze Z Z Z Qt ?_|refine Zn Z Z Z Qt ?_|refine Zj Z Qt Z Z ?_|refine Zd Z Qt ?_|refine Zg Z Qt ?_|refine Zm Za Z Z Z Z ?_|(apply Zv Za;(iterate 6 exact Z);(first|exact Qt|rotate_left);(first|with_reducible assumption|decide +kernel|exact Z);(first|exact Zk rfl|with_reducible assumption|decide +kernel|rotate_left)))
      all_goals exact Qe
   | ok y=>
    obtain⟨⟨k1,n1,b1,l1⟩,r,m1⟩:=y
    rw[hr]at hS hit hE
    dsimp only at hS hE
    obtain⟨hwk,_,pre,hpre,hpos,_⟩:=hR _ _ _ _ _ hr (by omega)
    have hm1:=Ve hwk
    obtain⟨z1,z2,z3⟩:=Y1 hp' hpre
    have hlt':p'<b.length:=by have:=congrArg List.length hpre;rw[List.length_append,List.length_drop]at this;omega
    obtain⟨ce,d3,hv,d2⟩:∃ c:UInt8,decide ((p':Int)<((b.map E.byte).length:Int))=true/\(b.map E.byte)[((p':Nat):Int).toNat]?=some (E.byte c)/\((c.toNat:Int)==255)=false:=by
     rcases hne2 with d1|h
     ·have:=of_decide_eq_false d1;rw[List.length_map]at this;omega
     ·exact h
    replace hit:AP Tryz.prog _ [byE b,.int .i64 (p':Int),.int .i64 ((deep+1:Nat):Int),.int .i64 (m':Int)] (.tup [.agg [.int .i64 k1,.int .u64 (n1:Int),.sl .ext (b1.map E.byte),.sl .ext (Zu l1)],.int .i64 ((b.length-r.length:Nat):Int),.int .i64 (m1:Int),.int .i64 0]) []:=hit
    generalize hp3:b.length-r.length=p3 at z1 z2 z3 hit
    have hpl:=congrArg List.length hpre
    have hdl:(b.drop p3).length=r.length:=by rw[z1]
    rw[List.length_append]at hpl
    rw[<- z1]at hS hE
    rw[List.length_drop]at hdl
    have hf3:(b.drop p3).length<f:=by rw[List.length_drop];omega
    have hsum3:(acc++[It.mk k1 n1 b1 l1]).length+(b.length-p3)<=b.length:=by rw[List.length_append];simp;omega
    rcases hst with⟨rfl,rfl,rfl⟩ | ⟨rfl,rfl⟩
    ·repeat'(first|rw[ed]|rw[ei]|(apply Zb (hit);kernel_rfl;(iterate 4 exact Z))|refine Yb Za Z Z Z Z Z Z (Zk rfl) (List.cons_ne_nil _ _) Z Qd Qd Z Z Z ?_|(apply Zi Za;exact Z)|(apply Zf Za;exact Z)|(apply Zp Za;exact Z)|refine Ze Z Z Z Qt ?_|refine Zn Z Z Z Qt ?_|refine Zj Z Qt Z Z ?_|refine Zd Z Qt ?_|refine Zg Z Qt ?_|refine Zm Za Z Z Z Z ?_|refine ZR Za Z Z Z Z Z Z Z Z Z Z Z Z ?_|(apply Zv Za;(iterate 6 exact Z);(first|exact Qt|rotate_left);(first|with_reducible assumption|decide +kernel|exact Z);(first|exact Zk rfl|with_reducible assumption|decide +kernel|rotate_left)))
     refine Lands.mk' (m:=f) (Nat.lt_succ_self _) ⟨i+1,[It.mk k1 n1 b1 l1],p3,m1,1,Zu [It.mk k1 n1 b1 l1],by omega,z2,by omega,rfl,rfl,hsum3,hf3,hS,hE,rfl,.inr ⟨rfl,rfl⟩⟩ ?_ rfl rfl rfl rfl rfl rfl
     exact .cons rfl (.cons rfl (.cons rfl (.cons rfl (.cons rfl (.cons rfl (.cons rfl (.cons rfl .nil)))))))
    ·subst hc
     have hUa:Uni 4 L:=hL ▸ Yz acc
     have hLl:L.length=acc.length:=by rw[hL,Zx]
     repeat'(first|rw[ed]|rw[ei]|(apply Zb (hit);kernel_rfl;(iterate 4 exact Z))|(apply Zi Za;exact Z)|(apply Zf Za;exact Z)|(apply Zp Za;exact Z)|refine Ze Z Z Z Qt ?_|refine Zn Z Z Z Qt ?_|refine Zj Z Qt Z Z ?_|refine Zd Z Qt ?_|refine Zg Z Qt ?_|refine Zm Za Z Z Z Z ?_|refine ZR Za Z Z Z Z Z Z Z Z Z Z Z Z ?_|(apply ZU Za;(iterate 6 exact Z);(first|with_reducible assumption|decide +kernel|exact Z|rotate_left);exact Z;exact Z;(first|exact Zk rfl|with_reducible assumption|decide +kernel|rotate_left);(first|exact Zk rfl|with_reducible assumption|decide +kernel|rotate_left);(first|exact Qt|rotate_left);(first|exact Qt|rotate_left);(first|exact Qt|rotate_left);exact Z;exact Z)|(apply Zv Za;(iterate 6 exact Z);(first|exact Qt|rotate_left);(first|with_reducible assumption|decide +kernel|exact Z);(first|exact Zk rfl|with_reducible assumption|decide +kernel|rotate_left)))
     ·refine Lands.mk' (m:=f) (Nat.lt_succ_self _) ⟨i+1,acc++[It.mk k1 n1 b1 l1],p3,m1,L.length+1,L++[E.agg [.int .i64 k1,.int .u64 (n1:Int),.sl (b1.map E.byte),.sl (Zu l1)]],by omega,z2,by omega,by rw[List.length_append];rfl,by rw[hL];exact(WO _ [It.mk k1 n1 b1 l1]).symm,hsum3,hf3,hS,hE,rfl,.inr ⟨rfl,rfl⟩⟩ ?_ rfl rfl rfl rfl rfl rfl
      exact .cons rfl (.cons rfl (.cons rfl (.cons rfl (.cons rfl (.cons rfl (.cons rfl (.cons rfl .nil)))))))
     all_goals(first|rfl|(simp only[List.length_append,List.length_cons,List.length_nil,List.length_map,Zx];done)|(simp only[List.length_append,List.length_cons,List.length_nil,List.length_map,Zx]at *;(try unfold maxLen);(try simp only[Nat.add_mul]);omega))
 | false=>
  unfold QJ TA
  dsimp only
  have e1:IntKind.i64.wrap (((b.map E.byte).length:Int)-(p:Int))=((b.length-p:Nat):Int):=by rw[List.length_map,IntWalk.i64_in _ (by omega)];omega
  have e2:IntKind.u64.wrap ((b.length-p:Nat):Int)=((b.length-p:Nat):Int):=by rw[IntKind.wrap_u64];omega
  have hl:(b.drop p).length=b.length-p:=List.length_drop ..
  rw[hl]
  by_cases hle:n<=b.length-p
  ·rw[if_pos hle,if_pos hle]
   have d1:decide ((n:Int)>((b.length-p:Nat):Int))=false:=decide_eq_false (by omega)
   generalize ho:Ua (ZI d) n [] m (b.drop p)=o
   generalize hE0:I5 (ZI d) n [] m (b.drop p)=Er
   refine AP.ofA (Zl Tryz.func176 Z Tryz.ntmps176 Z Z ?_)
   repeat'(first|rw[d1]|rw[e1]|rw[e2]|(apply Zi Za;exact Z)|(apply Zf Za;exact Z)|(apply Zp Za;exact Z)|refine Ze Z Z Z Qt ?_|refine Zj Z Qt Z Z ?_|refine Zg Z Qt ?_|refine Zm Za Z Z Z Z ?_)
   refine ZQ (fun f tm bx fr=>∃(i:Nat) (acc:List It) (p' m' c:Nat) (L:List E),f+i=n/\p'<=b.length/\m'<=256/\c=L.length/\L=Zu acc/\acc.length+(b.length-p')<=b.length/\Ua (ZI d) f acc m' (b.drop p')=o/\I5 (ZI d) f acc m' (b.drop p')=Er/\tm=[(0,byE b),(1,.int .i64 (p':Int)),(3,.int .i64 (deep:Int)),(4,.int .i64 (m':Int)),(7,.ptr 0 0),(10,.ptr 1 0),(14,.ptr 2 0),(15,.int .u64 (i:Int))] /\
    ((acc=[]/\bx=Lb n false .nil []/\fr=[])\/(bx=Lb n false (.own 1) L/\fr=[⟨1,4,134⟩,⟨c,4,134⟩]))) (n+1) (Lands.mk' (m:=n) (Nat.lt_succ_self _) ⟨0,[],p,m,0,[],rfl,hp,hm,rfl,rfl,by simp,ho,hE0,rfl,.inl ⟨rfl,rfl,rfl⟩⟩ ?_ rfl rfl rfl rfl rfl rfl) ?_
   ·exact .cons rfl (.cons rfl (.cons rfl (.cons rfl (.cons rfl (.cons rfl (.cons rfl (.cons rfl .nil)))))))
   rintro f tm bx fr ⟨i,acc,p',m',c,L,hfi,hp',hm',hc,hL,hsum,hS,hE,rfl,hst⟩
   cases f with
   | zero=>
    have dn:decide ((i:Int)<(n:Int))=false:=by simp;omega
    rw[Ua]at hS
    subst hS
    clear hE
    unfold Rm
    dsimp only
    have q3:b.length-(b.drop p').length=p':=by rw[List.length_drop];omega
    rw[q3]
    subst hL
    rcases hst with⟨rfl,rfl,rfl⟩ | ⟨rfl,rfl⟩
    ·repeat'(first|(apply Zi Za;exact Z)|(apply Zf Za;exact Z)|(apply Zp Za;exact Z)|refine Ze Z Z Z Qt ?_|refine Zh Z Qt Z Z ?_|refine Zg Z Qt ?_)
     all_goals exact Qe
    ·repeat'(first|(apply Zi Za;exact Z)|(apply Zf Za;exact Z)|(apply Zp Za;exact Z)|refine Ze Z Z Z Qt ?_|refine Zh Z Qt Z Z ?_|refine Zg Z Qt ?_)
     all_goals exact Qe
   | succ f=>
    have dn:decide ((i:Int)<(n:Int))=true:=by simp;omega
    have ei:IntKind.u64.wrap ((i:Int)+1)=((i+1:Nat):Int):=by rw[IntKind.wrap_u64];omega
    rw[Ua]at hS
    rw[I5]at hE
    have hlp:(b.drop p').length=b.length-p':=List.length_drop ..
    have hit:=IH p' m' hp' hm'
    cases hr:ZI d m' (b.drop p') with
    | error e=>
     rw[hr]at hS hit hE
     dsimp only at hS hE
     subst hS hE
     subst hL
     have te:(((e:Nat):Int) != 0)=true:=by have:=VP _ _ _ _ hr;simpa using this
     generalize U5 d m' (b.drop p')=R at hit
     obtain⟨⟨k0,n0,b0,l0⟩,r0⟩:=R
     replace hit:AP Tryz.prog _ [byE b,.int .i64 (p':Int),.int .i64 ((deep+1:Nat):Int),.int .i64 (m':Int)] (.tup [.agg [.int .i64 k0,.int .u64 (n0:Int),.sl .ext (b0.map E.byte),.sl .ext (Zu l0)],.int .i64 0,.int .i64 (r0:Int),.int .i64 (e:Int)]) []:=hit
     rcases hst with⟨rfl,rfl,rfl⟩ | ⟨rfl,rfl⟩
     ·repeat'(first|rw[ed]|(apply Zb (hit);kernel_rfl;(iterate 4 exact Z))|(apply Zi Za;exact Z)|(apply Zf Za;exact Z)|(apply Zp Za;exact Z)|refine Ze Z Z Z Qt ?_|refine Zt Z Z Z Qt ?_|refine Zh Z Qt Z Z ?_|refine Zd Z Qt ?_|refine Zg Z Qt ?_)
      all_goals exact Qe
     ·repeat'(first|rw[ed]|(apply Zb (hit);kernel_rfl;(iterate 4 exact Z))|(apply Zi Za;exact Z)|(apply Zf Za;exact Z)|(apply Zp Za;exact Z)|refine Ze Z Z Z Qt ?_|refine Zt Z Z Z Qt ?_|refine Zh Z Qt Z Z ?_|refine Zd Z Qt ?_|refine Zg Z Qt ?_)
      all_goals exact Qe
    | ok y=>
     obtain⟨⟨k1,n1,b1,l1⟩,r,m1⟩:=y
     rw[hr]at hS hit hE
     dsimp only at hS hE
     obtain⟨hwk,_,pre,hpre,hpos,_⟩:=hR _ _ _ _ _ hr (by omega)
     have hm1:=Ve hwk
     obtain⟨z1,z2,z3⟩:=Y1 hp' hpre
     replace hit:AP Tryz.prog _ [byE b,.int .i64 (p':Int),.int .i64 ((deep+1:Nat):Int),.int .i64 (m':Int)] (.tup [.agg [.int .i64 k1,.int .u64 (n1:Int),.sl .ext (b1.map E.byte),.sl .ext (Zu l1)],.int .i64 ((b.length-r.length:Nat):Int),.int .i64 (m1:Int),.int .i64 0]) []:=hit
     generalize hp3:b.length-r.length=p3 at z1 z2 z3 hit
     have hpl:=congrArg List.length hpre
     have hdl:(b.drop p3).length=r.length:=by rw[z1]
     rw[List.length_append]at hpl
     rw[<- z1]at hS hE
     rw[List.length_drop]at hdl
     have hsum3:(acc++[It.mk k1 n1 b1 l1]).length+(b.length-p3)<=b.length:=by rw[List.length_append];simp;omega
     rcases hst with⟨rfl,rfl,rfl⟩ | ⟨rfl,rfl⟩
     ·repeat'(first|rw[ed]|rw[ei]|(apply Zb (hit);kernel_rfl;(iterate 4 exact Z))|refine Yb Za Z Z Z Z Z Z (Zk rfl) (List.cons_ne_nil _ _) Z Qd Qd Z Z Z ?_|(apply Zi Za;exact Z)|(apply Zf Za;exact Z)|(apply Zp Za;exact Z)|refine Ze Z Z Z Qt ?_|refine Zt Z Z Z Qt ?_|refine Zh Z Qt Z Z ?_|refine Zd Z Qt ?_|refine Zg Z Qt ?_|refine ZR Za Z Z Z Z Z Z Z Z Z Z Z Z ?_)
      refine Lands.mk' (m:=f) (Nat.lt_succ_self _) ⟨i+1,[It.mk k1 n1 b1 l1],p3,m1,1,Zu [It.mk k1 n1 b1 l1],by omega,z2,by omega,rfl,rfl,hsum3,hS,hE,rfl,.inr ⟨rfl,rfl⟩⟩ ?_ rfl rfl rfl rfl rfl rfl
      exact .cons rfl (.cons rfl (.cons rfl (.cons rfl (.cons rfl (.cons rfl (.cons rfl (.cons rfl .nil)))))))
     ·subst hc
      have hUa:Uni 4 L:=hL ▸ Yz acc
      have hLl:L.length=acc.length:=by rw[hL,Zx]
      repeat'(first|rw[ed]|rw[ei]|(apply Zb (hit);kernel_rfl;(iterate 4 exact Z))|(apply Zi Za;exact Z)|(apply Zf Za;exact Z)|(apply Zp Za;exact Z)|refine Ze Z Z Z Qt ?_|refine Zt Z Z Z Qt ?_|refine Zh Z Qt Z Z ?_|refine Zd Z Qt ?_|refine Zg Z Qt ?_|refine ZR Za Z Z Z Z Z Z Z Z Z Z Z Z ?_|(apply ZU Za;(iterate 6 exact Z);(first|with_reducible assumption|decide +kernel|exact Z|rotate_left);exact Z;exact Z;(first|exact Zk rfl|with_reducible assumption|decide +kernel|rotate_left);(first|exact Zk rfl|with_reducible assumption|decide +kernel|rotate_left);(first|exact Qt|rotate_left);(first|exact Qt|rotate_left);(first|exact Qt|rotate_left);exact Z;exact Z))
      ·refine Lands.mk' (m:=f) (Nat.lt_succ_self _) ⟨i+1,acc++[It.mk k1 n1 b1 l1],p3,m1,L.length+1,L++[E.agg [.int .i64 k1,.int .u64 (n1:Int),.sl (b1.map E.byte),.sl (Zu l1)]],by omega,z2,by omega,by rw[List.length_append];rfl,by rw[hL];exact(WO _ [It.mk k1 n1 b1 l1]).symm,hsum3,hS,hE,rfl,.inr ⟨rfl,rfl⟩⟩ ?_ rfl rfl rfl rfl rfl rfl
       exact .cons rfl (.cons rfl (.cons rfl (.cons rfl (.cons rfl (.cons rfl (.cons rfl (.cons rfl .nil)))))))
      all_goals(first|rfl|(simp only[List.length_append,List.length_cons,List.length_nil,List.length_map,Zx];done)|(simp only[List.length_append,List.length_cons,List.length_nil,List.length_map,Zx]at *;(try unfold maxLen);(try simp only[Nat.add_mul]);omega))
  ·rw[if_neg hle,if_neg hle]
   have d1:decide ((n:Int)>((b.length-p:Nat):Int))=true:=decide_eq_true (by omega)
   refine AP.ofA (Zl Tryz.func176 Z Tryz.ntmps176 Z Z ?_)
   repeat'(first|rw[d1]|rw[e1]|rw[e2]|(apply Zi Za;exact Z)|(apply Zf Za;exact Z)|(apply Zp Za;exact Z)|refine Ze Z Z Z Qt ?_|refine Zj Z Qt Z Z ?_|refine Zd Z Qt ?_|refine Zm Za Z Z Z Z ?_)
   all_goals exact Qe
end Go.Proofs.YtmljabhmajehnaaGreatDoor
end
