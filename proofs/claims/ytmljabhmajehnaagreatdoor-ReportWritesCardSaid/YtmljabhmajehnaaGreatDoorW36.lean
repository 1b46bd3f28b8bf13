/- The document's reading of items: bytes and texts. -/
import Derived.Test.YtmljabhmajehnaaGreatDoorW35
set_option linter.unusedVariables false
set_option linter.unusedSimpArgs false
section
open Go.RowKit Go.Pl Go.Av
namespace Go.Proofs.YtmljabhmajehnaaGreatDoor
set_option maxHeartbeats 4000000
def Mb (m:Int):Nat->List UInt8->List UInt8->List UInt8
 | 0,acc,_=>acc
 | f+1,acc,s=>match V9 s with
  | true=>acc
  | false=>match rdS s with
   | .error _=>acc
   | .ok (p,r)=>if p.1=m/\p.2.2=false then(match YQ p r with
     | .error _=>acc
     | .ok (c,r2)=>Mb m f (acc++c) r2) else acc
def GT (h:Hd)(r:List UInt8):List UInt8:=match h.2.2 with
 | true=>Mb h.1 (r.length+1) [] r
 | false=>[]
abbrev Si (k:Int)(b:List UInt8)(o:Res (List UInt8 × List UInt8))(E:List UInt8):D:=match o with
 | .error e=>.tup [itD (.mk k 0 E []),.int .i64 0,.int .i64 (e:Int)]
 | .ok (c,r)=>.tup [itD (.mk k 0 c []),.int .i64 ((b.length-r.length:Nat):Int),.int .i64 0]
theorem Od {b:List UInt8}{p:Nat}(hp:p<=b.length):(V9 (b.drop p)=true/\∃ c:UInt8,decide ((p:Int) ≥ ((b.map E.byte).length:Int))=false/\(b.map E.byte)[((p:Nat):Int).toNat]?=some (E.byte c)/\((c.toNat:Int)==255)=true) \/
  (V9 (b.drop p)=false/\(decide ((p:Int) ≥ ((b.map E.byte).length:Int))=true\/∃ c:UInt8,decide ((p:Int) ≥ ((b.map E.byte).length:Int))=false/\(b.map E.byte)[((p:Nat):Int).toNat]?=some (E.byte c)/\((c.toNat:Int)==255)=false)):=by
 rcases Nat.lt_or_ge p b.length with hlt|hge
 ·obtain⟨c,t,hd,hv,_⟩:=Hz hlt
  have d1:decide ((p:Int) ≥ ((b.map E.byte).length:Int))=false:=decide_eq_false (by rw[List.length_map];omega)
  have e2:=Hy c
  rw[hd]
  cases hc:c==255 with
  | true=>exact .inl ⟨hc,c,d1,hv,by rw[e2,hc]⟩
  | false=>exact .inr ⟨hc,.inr ⟨c,d1,hv,by rw[e2,hc]⟩⟩
 ·exact .inr ⟨by rw[List.drop_eq_nil_of_le hge];rfl,.inl (decide_eq_true (by rw[List.length_map];omega))⟩
abbrev Sj (k:Int)(n:Nat)(tk:Tok)(acc:List E):List (List D):=[[.int .i64 k,.int .u64 (n:Int),.bool true],[.int .i64 0,.int .u64 0,.sl .nil [],.sl .nil []],[.int .i64 k,.int .u64 0,.sl tk acc,.sl .nil []]]
theorem I4 [Known](h:Hd)(b:List UInt8)(p:Nat)(hb:b.length<=1099511627776)(hp:p<=b.length)(hn:h.2.1<18446744073709551616):AP Tryz.prog 177 [byE b,.int .i64 (p:Int),hd h] (Si h.1 b (Uq h (b.drop p)) (GT h (b.drop p))) []:=by
 obtain⟨k,n,o⟩:=h
 dsimp only at hn
 show AP Tryz.prog _ [byE b,.int .i64 (p:Int),.agg [.int .i64 k,.int .u64 (n:Int),.bool o]] _ _
 cases o with
 | false=>
  have hpc:=Oc (k,n,false) b p hb hp hn
  unfold Uq GT
  dsimp only at hpc ⊢
  cases hc:YQ (k,n,false) (b.drop p) with
  | error e=>
   rw[hc]at hpc
   refine AP.ofA (Zl Tryz.func177 Z Tryz.ntmps177 Z Z ?_)
   repeat'(first|(apply Zb (hpc);kernel_rfl;(iterate 4 exact Z))|(apply Zi Za;exact Z)|(apply Zf Za;exact Z)|refine Zd Z Qt ?_)
   all_goals exact Qe
  | ok y=>
   obtain⟨c,r⟩:=y
   rw[hc]at hpc
   refine AP.ofA (Zl Tryz.func177 Z Tryz.ntmps177 Z Z ?_)
   repeat'(first|(apply Zb (hpc);kernel_rfl;(iterate 4 exact Z))|(apply Zi Za;exact Z)|(apply Zf Za;exact Z)|refine Zd Z Qt ?_)
   all_goals exact Qe
 | true=>
  unfold Uq GT
  dsimp only
  have hU:=Yj b
  generalize ho:Jd k ((b.drop p).length+1) [] (b.drop p)=o
  generalize hE0:Mb k ((b.drop p).length+1) [] (b.drop p)=Er
  refine AP.ofA (Zl Tryz.func177 Z Tryz.ntmps177 Z Z ?_)
  repeat'(first|(apply Zf Za;exact Z)|refine Zg Z Qt ?_)
  refine ZQ (fun f tm bx fr=>∃(acc:List UInt8) (p' c:Nat) (L:List E),p'<=b.length/\c=L.length/\L=acc.map E.byte/\acc.length+(b.length-p')<=b.length/\(b.drop p').length<f/\Jd k f acc (b.drop p')=o/\Mb k f acc (b.drop p')=Er/\tm=[(0,byE b),(1,.int .i64 (p':Int)),(5,.ptr 0 0),(6,.ptr 1 0),(9,.ptr 2 0)] /\
   ((acc=[]/\bx=Sj k n .nil []/\fr=[])\/(bx=Sj k n (.own 0) L/\fr=[⟨c,1,5⟩]))) ((b.drop p).length+2) (Lands.mk' (m:=(b.drop p).length+1) (Nat.lt_succ_self _) ⟨[],p,0,[],hp,rfl,rfl,by simp,by omega,ho,hE0,rfl,.inl ⟨rfl,rfl,rfl⟩⟩ ?_ rfl rfl rfl rfl rfl rfl) ?_
  ·exact .cons rfl (.cons rfl (.cons rfl (.cons rfl (.cons rfl .nil))))
  rintro f tm bx fr ⟨acc,p',c,L,hp',hc,hL,hsum,hf,hS,hE,rfl,hst⟩
  obtain⟨f,rfl⟩:∃ g,f=g+1:=⟨f-1,by omega⟩
  rw[Jd]at hS
  rw[Mb]at hE
  have hlp:(b.drop p').length=b.length-p':=List.length_drop ..
  have ep1:IntKind.i64.wrap ((p':Int)+1)=((p'+1:Nat):Int):=by rw[IntWalk.i64_in _ (by omega)];omega
  rcases Od hp' with⟨he,ce,d1,hv,d2⟩ | ⟨he,hne⟩
  ·have d2':((ce.toNat:Int) != 255)=false:=by rw[bne,d2];rfl
   rw[he]at hS
   dsimp only at hS
   subst hS
   clear hE
   obtain⟨x,hx⟩:=Vd _ he
   obtain⟨q1,q2,q3⟩:=Y1 (pre:=[x]) hp' hx
   have q3:b.length-(b.drop p').tail.length=p'+1:=q3.symm
   unfold Si
   dsimp only
   rw[q3]
   subst hL
   rcases hst with⟨rfl,rfl,rfl⟩ | ⟨rfl,rfl⟩
   ·repeat'(first|rw[ep1]|(apply Zi Za;exact Z)|(apply Zf Za;exact Z)|(apply Zp Za;exact Z)|refine Ze Z Z Z Qt ?_|refine Zh Z Qt Z Z ?_|refine Zg Z Qt ?_|refine Zm Za Z Z Z Z ?_|(apply Zv Za;(iterate 6 exact Z);(first|exact Qt|rotate_left);(first|with_reducible assumption|decide +kernel|exact Z);(first|exact Zk rfl|with_reducible assumption|decide +kernel|rotate_left)))
    all_goals exact Qe
   ·repeat'(first|rw[ep1]|(apply Zi Za;exact Z)|(apply Zf Za;exact Z)|(apply Zp Za;exact Z)|refine Ze Z Z Z Qt ?_|refine Zh Z Qt Z Z ?_|refine Zg Z Qt ?_|refine Zm Za Z Z Z Z ?_|(apply Zv Za;(iterate 6 exact Z);(first|exact Qt|rotate_left);(first|with_reducible assumption|decide +kernel|exact Z);(first|exact Zk rfl|with_reducible assumption|decide +kernel|rotate_left)))
    all_goals exact Qe
  ·rw[he]at hS hE
   dsimp only at hS hE
   have hhd:=Ka b (p':Int) (by omega)
   rw[JQ b p' hp']at hhd
   cases hr:rdS (b.drop p') with
   | error e=>
    rw[hr]at hS hhd hE
    dsimp only at hS hhd hE
    subst hS hE
    subst hL
    have te:(((e:Nat):Int) != 0)=true:=by rcases OA hr with rfl|rfl<;>rfl
    replace hhd:AP Tryz.prog _ [byE b,.int .i64 (p':Int)] (.tup [.agg [.int .i64 0,.int .u64 0,.bool false],.int .i64 0,.int .i64 (e:Int)]) []:=hhd
    rcases hne with d1|⟨ce,d1,hv,d2⟩
    ·rcases hst with⟨rfl,rfl,rfl⟩ | ⟨rfl,rfl⟩
     ·repeat'(first|(apply Zb (hhd);kernel_rfl;(iterate 4 exact Z))|(apply Zi Za;exact Z)|(apply Zf Za;exact Z)|(apply Zp Za;exact Z)|refine Zn Z Z Z Qt ?_|refine Zj Z Qt Z Z ?_|refine Zd Z Qt ?_|refine Yy ?_|refine Zm Za Z Z Z Z ?_)
      all_goals exact Qe
     ·repeat'(first|(apply Zb (hhd);kernel_rfl;(iterate 4 exact Z))|(apply Zi Za;exact Z)|(apply Zf Za;exact Z)|(apply Zp Za;exact Z)|refine Zn Z Z Z Qt ?_|refine Zj Z Qt Z Z ?_|refine Zd Z Qt ?_|refine Yy ?_|refine Zm Za Z Z Z Z ?_)
      all_goals exact Qe
    ·have d2':((ce.toNat:Int) != 255)=true:=by rw[bne,d2];rfl
     rcases hst with⟨rfl,rfl,rfl⟩ | ⟨rfl,rfl⟩
     ·repeat'(first|(apply Zb (hhd);kernel_rfl;(iterate 4 exact Z))|(apply Zi Za;exact Z)|(apply Zf Za;exact Z)|(apply Zp Za;exact Z)|refine Ze Z Z Z Qt ?_|refine Zh Z Qt Z Z ?_|refine Zd Z Qt ?_|refine Yy ?_|refine Zm Za Z Z Z Z ?_|(apply Zv Za;(iterate 6 exact Z);(first|exact Qt|rotate_left);(first|with_reducible assumption|decide +kernel|exact Z);(first|exact Zk rfl|with_reducible assumption|decide +kernel|rotate_left)))
      all_goals exact Qe
     ·repeat'(first|(apply Zb (hhd);kernel_rfl;(iterate 4 exact Z))|(apply Zi Za;exact Z)|(apply Zf Za;exact Z)|(apply Zp Za;exact Z)|refine Ze Z Z Z Qt ?_|refine Zh Z Qt Z Z ?_|refine Zd Z Qt ?_|refine Yy ?_|refine Zm Za Z Z Z Z ?_|(apply Zv Za;(iterate 6 exact Z);(first|exact Qt|rotate_left);(first|with_reducible assumption|decide +kernel|exact Z);(first|exact Zk rfl|with_reducible assumption|decide +kernel|rotate_left)))
      all_goals exact Qe
   | ok y=>
    obtain⟨⟨k1,n1,o1⟩,r⟩:=y
    rw[hr]at hS hhd hE
    dsimp only at hS hhd hE
    obtain⟨_,hn1,pre,hpre,_,hpos⟩:=JF hr
    obtain⟨q1,q2,q3⟩:=Y1 hp' hpre
    have hlt':p'<b.length:=by have:=congrArg List.length hpre;rw[List.length_append,List.length_drop]at this;omega
    obtain⟨ce,d1,hv,d2⟩:∃ c:UInt8,decide ((p':Int) ≥ ((b.map E.byte).length:Int))=false/\(b.map E.byte)[((p':Nat):Int).toNat]?=some (E.byte c)/\((c.toNat:Int)==255)=false:=by
     rcases hne with d1|h
     ·have:=of_decide_eq_true d1;rw[List.length_map]at this;omega
     ·exact h
    have d2':((ce.toNat:Int) != 255)=true:=by rw[bne,d2];rfl
    generalize hp2:b.length-r.length=p2 at q1 q2 q3 hhd
    replace hhd:AP Tryz.prog _ [byE b,.int .i64 (p':Int)] (.tup [.agg [.int .i64 k1,.int .u64 (n1:Int),.bool o1],.int .i64 (p2:Int),.int .i64 0]) []:=hhd
    by_cases hcond:k1=k/\o1=false
    ·rw[if_pos hcond]at hS hE
     obtain⟨rfl,rfl⟩:=hcond
     have tk:(k1 != k1)=false:=by simp
     have hpc:=Oc (k1,n1,false) b p2 hb q2 hn1
     rw[q1]at hpc
     cases hc1:YQ (k1,n1,false) r with
     | error e=>
      rw[hc1]at hS hpc hE
      dsimp only at hS hE
      subst hS hE
      subst hL
      have te:(((e:Nat):Int) != 0)=true:=by rcases GF hc1 with rfl|rfl<;>rfl
      replace hpc:AP Tryz.prog _ [byE b,.int .i64 (p2:Int),.agg [.int .i64 k1,.int .u64 (n1:Int),.bool false]] (.tup [.sl .ext [],.int .i64 0,.int .i64 (e:Int)]) []:=hpc
      rcases hst with⟨rfl,rfl,rfl⟩ | ⟨rfl,rfl⟩
      ·repeat'(first|(apply Zb (hhd);kernel_rfl;(iterate 4 exact Z))|(apply Zb (hpc);kernel_rfl;(iterate 4 exact Z))|(apply Zi Za;exact Z)|(apply Zf Za;exact Z)|(apply Zp Za;exact Z)|refine Ze Z Z Z Qt ?_|refine Zh Z Qt Z Z ?_|refine Zd Z Qt ?_|refine Zg Z Qt ?_|refine Zm Za Z Z Z Z ?_|(apply Zv Za;(iterate 6 exact Z);(first|exact Qt|rotate_left);(first|with_reducible assumption|decide +kernel|exact Z);(first|exact Zk rfl|with_reducible assumption|decide +kernel|rotate_left)))
       all_goals exact Qe
      ·repeat'(first|(apply Zb (hhd);kernel_rfl;(iterate 4 exact Z))|(apply Zb (hpc);kernel_rfl;(iterate 4 exact Z))|(apply Zi Za;exact Z)|(apply Zf Za;exact Z)|(apply Zp Za;exact Z)|refine Ze Z Z Z Qt ?_|refine Zh Z Qt Z Z ?_|refine Zd Z Qt ?_|refine Zg Z Qt ?_|refine Zm Za Z Z Z Z ?_|(apply Zv Za;(iterate 6 exact Z);(first|exact Qt|rotate_left);(first|with_reducible assumption|decide +kernel|exact Z);(first|exact Zk rfl|with_reducible assumption|decide +kernel|rotate_left)))
       all_goals exact Qe
     | ok y=>
      obtain⟨c1,r2⟩:=y
      rw[hc1]at hS hpc hE
      dsimp only at hS hE
      obtain⟨w1,w2,w3⟩:=Qf hc1
      obtain⟨z1,z2,z3⟩:=Y1 q2 (q1.trans w1)
      replace hpc:AP Tryz.prog _ [byE b,.int .i64 (p2:Int),.agg [.int .i64 k1,.int .u64 (n1:Int),.bool false]] (.tup [byE c1,.int .i64 ((b.length-r2.length:Nat):Int),.int .i64 0]) []:=hpc
      generalize hp3:b.length-r2.length=p3 at z1 z2 z3 hpc
      have hpl:=congrArg List.length hpre
      have hrl:=congrArg List.length w1
      have hdl:(b.drop p3).length=r2.length:=by rw[z1]
      rw[List.length_append]at hpl hrl
      rw[<- z1]at hS hE
      rw[List.length_drop]at hdl
      have hf3:(b.drop p3).length<f:=by rw[List.length_drop];omega
      have hsum3:(acc++c1).length+(b.length-p3)<=b.length:=by rw[List.length_append];omega
      cases c1 with
      | nil=>
       rw[List.append_nil]at hS hE hsum3
       rcases hst with⟨rfl,rfl,rfl⟩ | ⟨rfl,rfl⟩
       ·repeat'(first|(apply Zb (hhd);kernel_rfl;(iterate 4 exact Z))|(apply Zb (hpc);kernel_rfl;(iterate 4 exact Z))|(apply Zi Za;exact Z)|(apply Zf Za;exact Z)|(apply Zp Za;exact Z)|refine Ze Z Z Z Qt ?_|refine Zh Z Qt Z Z ?_|refine Zd Z Qt ?_|refine Zg Z Qt ?_|refine Zm Za Z Z Z Z ?_|refine Z6 Za Z Z Z Z Z Z ?_|(apply Zv Za;(iterate 6 exact Z);(first|exact Qt|rotate_left);(first|with_reducible assumption|decide +kernel|exact Z);(first|exact Zk rfl|with_reducible assumption|decide +kernel|rotate_left)))
        refine Lands.mk' (m:=f) (Nat.lt_succ_self _) ⟨[],p3,0,[],z2,rfl,rfl,hsum3,hf3,hS,hE,rfl,.inl ⟨rfl,rfl,rfl⟩⟩ ?_ rfl rfl rfl rfl rfl rfl
        exact .cons rfl (.cons rfl (.cons rfl (.cons rfl (.cons rfl .nil))))
       ·subst hc
        repeat'(first|(apply Zb (hhd);kernel_rfl;(iterate 4 exact Z))|(apply Zb (hpc);kernel_rfl;(iterate 4 exact Z))|(apply Zi Za;exact Z)|(apply Zf Za;exact Z)|(apply Zp Za;exact Z)|refine Ze Z Z Z Qt ?_|refine Zh Z Qt Z Z ?_|refine Zd Z Qt ?_|refine Zg Z Qt ?_|refine Zm Za Z Z Z Z ?_|refine Z6 Za Z Z Z Z Z Z ?_|(apply Zv Za;(iterate 6 exact Z);(first|exact Qt|rotate_left);(first|with_reducible assumption|decide +kernel|exact Z);(first|exact Zk rfl|with_reducible assumption|decide +kernel|rotate_left)))
        refine Lands.mk' (m:=f) (Nat.lt_succ_self _) ⟨acc,p3,_,L,z2,rfl,hL,hsum3,hf3,hS,hE,rfl,.inr ⟨rfl,rfl⟩⟩ ?_ rfl rfl rfl rfl rfl rfl
        exact .cons rfl (.cons rfl (.cons rfl (.cons rfl (.cons rfl .nil))))
      | cons x c1=>
       have hU1:=Yj (x::c1)
       rcases hst with⟨rfl,rfl,rfl⟩ | ⟨rfl,rfl⟩
       ·repeat'(first|(apply Zb (hhd);kernel_rfl;(iterate 4 exact Z))|(apply Zb (hpc);kernel_rfl;(iterate 4 exact Z))|(apply Zi Za;exact Z)|(apply Zf Za;exact Z)|(apply Zp Za;exact Z)|refine Ze Z Z Z Qt ?_|refine Zh Z Qt Z Z ?_|refine Zd Z Qt ?_|refine Zg Z Qt ?_|refine Zm Za Z Z Z Z ?_|(apply Wj Za;(iterate 6 exact Z);(first|exact Zk rfl|with_reducible assumption|decide +kernel|rotate_left);(first|exact Qt|rotate_left);(first|exact Qt|rotate_left);(first|exact Qt|rotate_left);(iterate 3 exact Z))|(apply Zv Za;(iterate 6 exact Z);(first|exact Qt|rotate_left);(first|with_reducible assumption|decide +kernel|exact Z);(first|exact Zk rfl|with_reducible assumption|decide +kernel|rotate_left)))
        ·refine Lands.mk' (m:=f) (Nat.lt_succ_self _) ⟨x::c1,p3,_,_,z2,rfl,rfl,hsum3,hf3,hS,hE,rfl,.inr ⟨rfl,rfl⟩⟩ ?_ rfl rfl rfl rfl rfl rfl
         exact .cons rfl (.cons rfl (.cons rfl (.cons rfl (.cons rfl .nil))))
        all_goals(first|rfl|(simp only[List.length_append,List.length_cons,List.length_nil,List.length_map,Zx];done)|(simp only[List.length_append,List.length_cons,List.length_nil,List.length_map,Zx]at *;(try unfold maxLen);(try simp only[Nat.add_mul]);omega))
       ·subst hc
        have hUa:Uni 1 L:=hL ▸ Yj acc
        have hLl:L.length=acc.length:=by rw[hL,List.length_map]
        repeat'(first|(apply Zb (hhd);kernel_rfl;(iterate 4 exact Z))|(apply Zb (hpc);kernel_rfl;(iterate 4 exact Z))|(apply Zi Za;exact Z)|(apply Zf Za;exact Z)|(apply Zp Za;exact Z)|refine Ze Z Z Z Qt ?_|refine Zh Z Qt Z Z ?_|refine Zd Z Qt ?_|refine Zg Z Qt ?_|refine Zm Za Z Z Z Z ?_|(apply ZU Za;(iterate 6 exact Z);(first|with_reducible assumption|decide +kernel|exact Z|rotate_left);exact Z;exact Z;(first|exact Zk rfl|with_reducible assumption|decide +kernel|rotate_left);(first|exact Zk rfl|with_reducible assumption|decide +kernel|rotate_left);(first|exact Qt|rotate_left);(first|exact Qt|rotate_left);(first|exact Qt|rotate_left);exact Z;exact Z)|(apply Zv Za;(iterate 6 exact Z);(first|exact Qt|rotate_left);(first|with_reducible assumption|decide +kernel|exact Z);(first|exact Zk rfl|with_reducible assumption|decide +kernel|rotate_left)))
        ·refine Lands.mk' (m:=f) (Nat.lt_succ_self _) ⟨acc++(x::c1),p3,L.length+((x::c1).map E.byte).length,L++(x::c1).map E.byte,z2,by rw[List.length_append],by rw[hL,List.map_append],hsum3,hf3,hS,hE,rfl,.inr ⟨rfl,rfl⟩⟩ ?_ rfl rfl rfl rfl rfl rfl
         exact .cons rfl (.cons rfl (.cons rfl (.cons rfl (.cons rfl .nil))))
        all_goals(first|rfl|(simp only[List.length_append,List.length_cons,List.length_nil,List.length_map,Zx];done)|(simp only[List.length_append,List.length_cons,List.length_nil,List.length_map,Zx]at *;(try unfold maxLen);(try simp only[Nat.add_mul]);omega))
    ·rw[if_neg hcond]at hS hE
     subst hS hE
     subst hL
     cases o1 with
     | true=>
      rcases hk:(k1 != k) with _|_
      all_goals
       rcases hst with⟨rfl,rfl,rfl⟩ | ⟨rfl,rfl⟩
       ·repeat'(first|(apply Zb (hhd);kernel_rfl;(iterate 4 exact Z))|(apply Zi Za;exact Z)|(apply Zf Za;exact Z)|(apply Zp Za;exact Z)|refine Ze Z Z Z Qt ?_|refine Zn Z Z Z Qt ?_|refine Zj Z Qt Z Z ?_|refine Zh Z Qt Z Z ?_|refine Zd Z Qt ?_|refine Zg Z Qt ?_|refine Zm Za Z Z Z Z ?_|(apply Zv Za;(iterate 6 exact Z);(first|exact Qt|rotate_left);(first|with_reducible assumption|decide +kernel|exact Z);(first|exact Zk rfl|with_reducible assumption|decide +kernel|rotate_left)))
        all_goals exact Qe
       ·repeat'(first|(apply Zb (hhd);kernel_rfl;(iterate 4 exact Z))|(apply Zi Za;exact Z)|(apply Zf Za;exact Z)|(apply Zp Za;exact Z)|refine Ze Z Z Z Qt ?_|refine Zn Z Z Z Qt ?_|refine Zj Z Qt Z Z ?_|refine Zh Z Qt Z Z ?_|refine Zd Z Qt ?_|refine Zg Z Qt ?_|refine Zm Za Z Z Z Z ?_|(apply Zv Za;(iterate 6 exact Z);(first|exact Qt|rotate_left);(first|with_reducible assumption|decide +kernel|exact Z);(first|exact Zk rfl|with_reducible assumption|decide +kernel|rotate_left)))
        all_goals exact Qe
     | false=>
      have tk:(k1 != k)=true:=by simpa using fun h=>hcond ⟨h,rfl⟩
      rcases hst with⟨rfl,rfl,rfl⟩ | ⟨rfl,rfl⟩
      ·repeat'(first|(apply Zb (hhd);kernel_rfl;(iterate 4 exact Z))|(apply Zi Za;exact Z)|(apply Zf Za;exact Z)|(apply Zp Za;exact Z)|refine Ze Z Z Z Qt ?_|refine Zn Z Z Z Qt ?_|refine Zj Z Qt Z Z ?_|refine Zh Z Qt Z Z ?_|refine Zd Z Qt ?_|refine Zg Z Qt ?_|refine Zm Za Z Z Z Z ?_|(apply Zv Za;(iterate 6 exact Z);(first|exact Qt|rotate_left);(first|with_reducible assumption|decide +kernel|exact Z);(first|exact Zk rfl|with_reducible assumption|decide +kernel|rotate_left)))
       all_goals exact Qe
      ·repeat'(first|(apply Zb (hhd);kernel_rfl;(iterate 4 exact Z))|(apply Zi Za;exact Z)|(apply Zf Za;exact Z)|(apply Zp Za;exact Z)|refine Ze Z Z Z Qt ?_|refine Zn Z Z Z Qt ?_|refine Zj Z Qt Z Z ?_|refine Zh Z Qt Z Z ?_|refine Zd Z Qt ?_|refine Zg Z Qt ?_|refine Zm Za Z Z Z Z ?_|(apply Zv Za;(iterate 6 exact Z);(first|exact Qt|rotate_left);(first|with_reducible assumption|decide +kernel|exact Z);(first|exact Zk rfl|with_reducible assumption|decide +kernel|rotate_left)))
       all_goals exact Qe
end Go.Proofs.YtmljabhmajehnaaGreatDoor
end
