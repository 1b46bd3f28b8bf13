/- The document's texts: which bytes are UTF-8. -/
import Derived.Test.YtmljabhmajehnaaGreatDoorW15
set_option linter.unusedVariables false
set_option linter.unusedSimpArgs false
section
open Go.RowKit Go.Pl Go.Av
namespace Go.Proofs.YtmljabhmajehnaaGreatDoor
set_option maxHeartbeats 4000000
theorem Wu [Known](c lo hi:Nat):AP Tryz.prog 205 [.int .u8 (c:Int),.int .u8 (lo:Int),.int .u8 (hi:Int)] (.bool (inB c lo hi)) []:=by
 have e:inB c lo hi=(decide (lo<=c)&&decide (c<=hi)):=rfl
 rw[e]
 by_cases h1:lo<=c
 ·have t1:decide ((c:Int) ≥ (lo:Int))=true:=decide_eq_true (by omega)
  have t2:decide ((c:Int)<=(hi:Int))=decide (c<=hi):=by rw[decide_eq_decide];omega
  rw[decide_eq_true h1,Bool.true_and]
  refine AP.ofA (Zl Tryz.func205 Z Tryz.ntmps205 Z Z ?_)
  repeat'(first|rw[t2]|(apply Zi Za;exact Z)|(apply Zf Za;exact Z)|refine Ze Z Z Z Qt ?_|refine Zj Z Qt Z Z ?_)
  all_goals exact Qe
 ·have t1:decide ((c:Int) ≥ (lo:Int))=false:=decide_eq_false (by omega)
  rw[decide_eq_false h1,Bool.false_and]
  refine AP.ofA (Zl Tryz.func205 Z Tryz.ntmps205 Z Z ?_)
  repeat'(first|(apply Zi Za;exact Z)|(apply Zf Za;exact Z)|refine Zt Z Z Z Qt ?_|refine Zh Z Qt Z Z ?_)
  all_goals exact Qe
theorem L5 (c:Nat)(h:128<=c):(inB c 194 223=true/\ptN c=2)
  \/ (inB c 194 223=false/\inB c 224 239=true/\ptN c=3)
  \/ (inB c 194 223=false/\inB c 224 239=false/\inB c 240 244=true/\ptN c=4)
  \/ (inB c 194 223=false/\inB c 224 239=false/\inB c 240 244=false/\ptN c=0):=by
 have f:∀ lo hi:Nat,inB c lo hi=decide (lo<=c/\c<=hi):=fun lo hi=>by unfold inB;rw[Bool.decide_and]
 unfold ptN
 rw[f,f,f]
 simp only[decide_eq_true_eq,decide_eq_false_iff_not]
 (repeat' split)<;>omega
theorem eqB (c k:Nat):((c:Int)==(k:Int))=decide (c=k):=by rw[Bool.eq_iff_iff,beq_iff_eq,decide_eq_true_eq];omega
theorem RV (c:Nat):(YN c:Int)=if((c:Int)==224)=true then 160 else if((c:Int)==237)=true then 128 else if((c:Int)==240)=true then 144 else 128:=by
 have e1:((c:Int)==224)=decide (c=224):=eqB c 224
 have e2:((c:Int)==237)=decide (c=237):=eqB c 237
 have e3:((c:Int)==240)=decide (c=240):=eqB c 240
 rw[e1,e2,e3]
 unfold YN
 simp only[decide_eq_true_eq]
 (repeat' split)<;>omega
theorem RW (c:Nat):(YO c:Int)=if((c:Int)==224)=true then 191 else if((c:Int)==237)=true then 159 else if((c:Int)==240)=true then 191 else if((c:Int)==244)=true then 143 else 191:=by
 have e1:((c:Int)==224)=decide (c=224):=eqB c 224
 have e2:((c:Int)==237)=decide (c=237):=eqB c 237
 have e3:((c:Int)==240)=decide (c=240):=eqB c 240
 have e4:((c:Int)==244)=decide (c=244):=eqB c 244
 rw[e1,e2,e3,e4]
 unfold YO
 simp only[decide_eq_true_eq]
 (repeat' split)<;>omega
theorem Tp {α:Type}{f:α->E}{b:List α}{n:Nat}(h:b.length<n):decide (((b.map f).length:Int)<(n:Int))=true:=decide_eq_true (by rw[List.length_map];omega)
theorem L6 {α:Type}{f:α->E}{b:List α}{n:Nat}(h:n<=b.length):decide (((b.map f).length:Int)<(n:Int))=false:=decide_eq_false (by rw[List.length_map];omega)
theorem NP [Known](c:UInt8)(r:List UInt8):AP Tryz.prog 199 [byE (c::r)] (.int .i64 (pt (c::r):Int)) []:=by
 have hU:=Yj (c::r)
 have hv0:((c::r).map E.byte)[Int.toNat 0]?=some (.int .u8 (c.toNat:Int)):=rfl
 by_cases h1:c.toNat<128
 ·have t1:decide ((c.toNat:Int)<128)=true:=decide_eq_true (by omega)
  have e:pt (c::r)=1:=by simp[pt,ptN,h1]
  rw[e]
  refine AP.ofA (Zl Tryz.func199 Z Tryz.ntmps199 Z Z ?_)
  repeat'(first|(apply Zi Za;exact Z)|(apply Zf Za;exact Z)|(apply Zp Za;exact Z)|refine Zd Z Qt ?_|(apply Zv Za;(iterate 6 exact Z);(first|exact Qt|rotate_left);(first|with_reducible assumption|decide +kernel|exact Z);(first|exact Zk rfl|with_reducible assumption|decide +kernel|rotate_left)))
  all_goals exact Qe
 have t1:decide ((c.toNat:Int)<128)=false:=decide_eq_false (by omega)
 have w1:=Wu c.toNat 194 223
 have w2:=Wu c.toNat 224 239
 have w3:=Wu c.toNat 240 244
 have hF:=L5 c.toNat (by omega)
 have hlo:=RV c.toNat
 have hhi:=RW c.toNat
 generalize hp:pt (c::r)=p
 refine AP.ofA (Zl Tryz.func199 Z Tryz.ntmps199 Z Z ?_)
 rcases hF with⟨i1,hn⟩ | ⟨i1,i2,hn⟩ | ⟨i1,i2,i3,hn⟩ | ⟨i1,i2,i3,hn⟩
 all_goals
  repeat'(first|(apply Zb (w1);kernel_rfl;(iterate 4 exact Z))|(apply Zb (w2);kernel_rfl;(iterate 4 exact Z))|(apply Zb (w3);kernel_rfl;(iterate 4 exact Z))|refine T4 1 (fun tm bx fr=>tm=[(0,byE (c::r)),(4,.int .i64 (ptN c.toNat:Int)),(5,.int .u8 (YN c.toNat:Int)),(6,.int .u8 (YO c.toNat:Int))]/\bx=[]/\fr=[]) ?_ ?_|(apply Zi Za;exact Z)|(apply Zf Za;exact Z)|(apply Zp Za;exact Z)|refine Zd Z Qt ?_|refine Zg Z Qt ?_|(apply YD;exact Z;all_goals intro hb)|refine Yc ?_|(apply Zv Za;(iterate 6 exact Z);(first|exact Qt|rotate_left);(first|with_reducible assumption|decide +kernel|exact Z);(first|exact Zk rfl|with_reducible assumption|decide +kernel|rotate_left)))
  all_goals first
   | (refine Lands.mk' (m:=0) (by decide) ⟨rfl,rfl,rfl⟩ ?_ rfl rfl rfl rfl rfl rfl
      exact .cons rfl (.cons (by rw[hn];rfl) (.cons (by simp only[hlo, *];rfl) (.cons (by simp only[hhi, *];rfl) .nil))))
   | skip
 all_goals
  rintro tm bx fr ⟨rfl,rfl,rfl⟩
  rw[hn]
  clear hlo hhi t1 w1 w2 w3 h1
  try clear i1
  try clear i2
  try clear i3
 ·rcases r with _|⟨c1,r⟩
  ·have t2:decide ((([c].map E.byte).length:Int)<((2:Nat):Int))=true:=Tp (n:=2) (by simp)
   obtain rfl:0=p:=by rw[<- hp];simp[pt,hn]
   repeat'(first|(apply Zi Za;exact Z)|(apply Zf Za;exact Z)|(apply Zp Za;exact Z)|refine Ze Z Z Z Qt ?_|refine Zn Z Z Z Qt ?_|refine Zj Z Qt Z Z ?_|refine Zh Z Qt Z Z ?_|refine Zd Z Qt ?_|refine Zm Za Z Z Z Z ?_)
   all_goals exact Qe
  ·have t2:decide ((((c::c1::r).map E.byte).length:Int)<((2:Nat):Int))=false:=L6 (n:=2) (by simp)
   have hv1:((c::c1::r).map E.byte)[Int.toNat 1]?=some (.int .u8 (c1.toNat:Int)):=rfl
   have w1:=Wu c1.toNat (YN c.toNat) (YO c.toNat)
   cases hin:inB c1.toNat (YN c.toNat) (YO c.toNat)
   ·obtain rfl:0=p:=by rw[<- hp];simp[pt,hn,hin]
    rw[hin]at w1
    repeat'(first|(apply Zb (w1);kernel_rfl;(iterate 4 exact Z))|(apply Zi Za;exact Z)|(apply Zf Za;exact Z)|(apply Zp Za;exact Z)|refine Ze Z Z Z Qt ?_|refine Zh Z Qt Z Z ?_|refine Zd Z Qt ?_|refine Zm Za Z Z Z Z ?_|(apply Zv Za;(iterate 6 exact Z);(first|exact Qt|rotate_left);(first|with_reducible assumption|decide +kernel|exact Z);(first|exact Zk rfl|with_reducible assumption|decide +kernel|rotate_left)))
    all_goals exact Qe
   ·obtain rfl:2=p:=by rw[<- hp];simp[pt,hn,hin]
    rw[hin]at w1
    repeat'(first|(apply Zb (w1);kernel_rfl;(iterate 4 exact Z))|refine Yr 70 ?_|refine YH ?_|(apply Zi Za;exact Z)|(apply Zf Za;exact Z)|(apply Zp Za;exact Z)|refine Ze Z Z Z Qt ?_|refine Zh Z Qt Z Z ?_|refine Zg Z Qt ?_|refine Zm Za Z Z Z Z ?_|(apply Zv Za;(iterate 6 exact Z);(first|exact Qt|rotate_left);(first|with_reducible assumption|decide +kernel|exact Z);(first|exact Zk rfl|with_reducible assumption|decide +kernel|rotate_left)))
    all_goals exact Qe
 ·rcases r with _|⟨c1,_|⟨c2,r⟩⟩
  ·have t2:decide ((([c].map E.byte).length:Int)<((3:Nat):Int))=true:=Tp (n:=3) (by simp)
   obtain rfl:0=p:=by rw[<- hp];simp[pt,hn]
   repeat'(first|(apply Zi Za;exact Z)|(apply Zf Za;exact Z)|(apply Zp Za;exact Z)|refine Ze Z Z Z Qt ?_|refine Zn Z Z Z Qt ?_|refine Zj Z Qt Z Z ?_|refine Zh Z Qt Z Z ?_|refine Zd Z Qt ?_|refine Zm Za Z Z Z Z ?_)
   all_goals exact Qe
  ·have t2:decide ((([c,c1].map E.byte).length:Int)<((3:Nat):Int))=true:=Tp (n:=3) (by simp)
   obtain rfl:0=p:=by rw[<- hp];simp[pt,hn]
   repeat'(first|(apply Zi Za;exact Z)|(apply Zf Za;exact Z)|(apply Zp Za;exact Z)|refine Ze Z Z Z Qt ?_|refine Zn Z Z Z Qt ?_|refine Zj Z Qt Z Z ?_|refine Zh Z Qt Z Z ?_|refine Zd Z Qt ?_|refine Zm Za Z Z Z Z ?_)
   all_goals exact Qe
  ·have t2:decide ((((c::c1::c2::r).map E.byte).length:Int)<((3:Nat):Int))=false:=L6 (n:=3) (by simp)
   have hv1:((c::c1::c2::r).map E.byte)[Int.toNat 1]?=some (.int .u8 (c1.toNat:Int)):=rfl
   have w1:=Wu c1.toNat (YN c.toNat) (YO c.toNat)
   have w2:=Wu c2.toNat 128 191
   cases hin:inB c1.toNat (YN c.toNat) (YO c.toNat)
   ·obtain rfl:0=p:=by rw[<- hp];simp[pt,hn,hin]
    rw[hin]at w1
    repeat'(first|(apply Zb (w1);kernel_rfl;(iterate 4 exact Z))|(apply Zi Za;exact Z)|(apply Zf Za;exact Z)|(apply Zp Za;exact Z)|refine Ze Z Z Z Qt ?_|refine Zh Z Qt Z Z ?_|refine Zd Z Qt ?_|refine Zm Za Z Z Z Z ?_|(apply Zv Za;(iterate 6 exact Z);(first|exact Qt|rotate_left);(first|with_reducible assumption|decide +kernel|exact Z);(first|exact Zk rfl|with_reducible assumption|decide +kernel|rotate_left)))
    all_goals exact Qe
   ·cases hi2:inB c2.toNat 128 191
    all_goals
     rw[hin]at w1
     rw[hi2]at w2
    ·obtain rfl:0=p:=by rw[<- hp];simp[pt,hn,hin,hi2]
     repeat'(first|(apply Zb (w1);kernel_rfl;(iterate 4 exact Z))|(apply Zb (w2);kernel_rfl;(iterate 4 exact Z))|refine Yr 70 ?_|refine YH ?_|(apply Zi Za;exact Z)|(apply Zf Za;exact Z)|(apply Zp Za;exact Z)|refine Ze Z Z Z Qt ?_|refine Zh Z Qt Z Z ?_|refine Zd Z Qt ?_|refine Zg Z Qt ?_|refine Yy ?_|refine Zm Za Z Z Z Z ?_|(apply Zv Za;(iterate 6 exact Z);(first|exact Qt|rotate_left);(first|with_reducible assumption|decide +kernel|exact Z);(first|exact Zk rfl|with_reducible assumption|decide +kernel|rotate_left)))
     all_goals exact Qe
    ·obtain rfl:3=p:=by rw[<- hp];simp[pt,hn,hin,hi2]
     repeat'(first|(apply Zb (w1);kernel_rfl;(iterate 4 exact Z))|(apply Zb (w2);kernel_rfl;(iterate 4 exact Z))|refine Yr 70 ?_|refine YH ?_|(apply Zi Za;exact Z)|(apply Zf Za;exact Z)|(apply Zp Za;exact Z)|refine Ze Z Z Z Qt ?_|refine Zh Z Qt Z Z ?_|refine Zd Z Qt ?_|refine Zg Z Qt ?_|refine Zm Za Z Z Z Z ?_|(apply Zv Za;(iterate 6 exact Z);(first|exact Qt|rotate_left);(first|with_reducible assumption|decide +kernel|exact Z);(first|exact Zk rfl|with_reducible assumption|decide +kernel|rotate_left)))
     all_goals exact Qe
 ·rcases r with _|⟨c1,_|⟨c2,_|⟨c3,r⟩⟩⟩
  ·have t2:decide ((([c].map E.byte).length:Int)<((4:Nat):Int))=true:=Tp (n:=4) (by simp)
   obtain rfl:0=p:=by rw[<- hp];simp[pt,hn]
   repeat'(first|(apply Zi Za;exact Z)|(apply Zf Za;exact Z)|(apply Zp Za;exact Z)|refine Ze Z Z Z Qt ?_|refine Zn Z Z Z Qt ?_|refine Zj Z Qt Z Z ?_|refine Zh Z Qt Z Z ?_|refine Zd Z Qt ?_|refine Zm Za Z Z Z Z ?_)
   all_goals exact Qe
  ·have t2:decide ((([c,c1].map E.byte).length:Int)<((4:Nat):Int))=true:=Tp (n:=4) (by simp)
   obtain rfl:0=p:=by rw[<- hp];simp[pt,hn]
   repeat'(first|(apply Zi Za;exact Z)|(apply Zf Za;exact Z)|(apply Zp Za;exact Z)|refine Ze Z Z Z Qt ?_|refine Zn Z Z Z Qt ?_|refine Zj Z Qt Z Z ?_|refine Zh Z Qt Z Z ?_|refine Zd Z Qt ?_|refine Zm Za Z Z Z Z ?_)
   all_goals exact Qe
  ·have t2:decide ((([c,c1,c2].map E.byte).length:Int)<((4:Nat):Int))=true:=Tp (n:=4) (by simp)
   obtain rfl:0=p:=by rw[<- hp];simp[pt,hn]
   repeat'(first|(apply Zi Za;exact Z)|(apply Zf Za;exact Z)|(apply Zp Za;exact Z)|refine Ze Z Z Z Qt ?_|refine Zn Z Z Z Qt ?_|refine Zj Z Qt Z Z ?_|refine Zh Z Qt Z Z ?_|refine Zd Z Qt ?_|refine Zm Za Z Z Z Z ?_)
   all_goals exact Qe
  ·have t2:decide ((((c::c1::c2::c3::r).map E.byte).length:Int)<((4:Nat):Int))=false:=L6 (n:=4) (by simp)
   have hv1:((c::c1::c2::c3::r).map E.byte)[Int.toNat 1]?=some (.int .u8 (c1.toNat:Int)):=rfl
   have w1:=Wu c1.toNat (YN c.toNat) (YO c.toNat)
   have w2:=Wu c2.toNat 128 191
   have w3:=Wu c3.toNat 128 191
   cases hin:inB c1.toNat (YN c.toNat) (YO c.toNat)
   ·obtain rfl:0=p:=by rw[<- hp];simp[pt,hn,hin]
    rw[hin]at w1
    repeat'(first|(apply Zb (w1);kernel_rfl;(iterate 4 exact Z))|(apply Zi Za;exact Z)|(apply Zf Za;exact Z)|(apply Zp Za;exact Z)|refine Ze Z Z Z Qt ?_|refine Zh Z Qt Z Z ?_|refine Zd Z Qt ?_|refine Zm Za Z Z Z Z ?_|(apply Zv Za;(iterate 6 exact Z);(first|exact Qt|rotate_left);(first|with_reducible assumption|decide +kernel|exact Z);(first|exact Zk rfl|with_reducible assumption|decide +kernel|rotate_left)))
    all_goals exact Qe
   ·rw[hin]at w1
    cases hi2:inB c2.toNat 128 191
    ·obtain rfl:0=p:=by rw[<- hp];simp[pt,hn,hin,hi2]
     rw[hi2]at w2
     repeat'(first|(apply Zb (w1);kernel_rfl;(iterate 4 exact Z))|(apply Zb (w2);kernel_rfl;(iterate 4 exact Z))|refine Yr 70 ?_|refine YH ?_|(apply Zi Za;exact Z)|(apply Zf Za;exact Z)|(apply Zp Za;exact Z)|refine Ze Z Z Z Qt ?_|refine Zh Z Qt Z Z ?_|refine Zd Z Qt ?_|refine Zg Z Qt ?_|refine Yy ?_|refine Zm Za Z Z Z Z ?_|(apply Zv Za;(iterate 6 exact Z);(first|exact Qt|rotate_left);(first|with_reducible assumption|decide +kernel|exact Z);(first|exact Zk rfl|with_reducible assumption|decide +kernel|rotate_left)))
     all_goals exact Qe
    ·rw[hi2]at w2
     cases hi3:inB c3.toNat 128 191
     ·obtain rfl:0=p:=by rw[<- hp];simp[pt,hn,hin,hi2,hi3]
      rw[hi3]at w3
      repeat'(first|(apply Zb (w1);kernel_rfl;(iterate 4 exact Z))|(apply Zb (w2);kernel_rfl;(iterate 4 exact Z))|(apply Zb (w3);kernel_rfl;(iterate 4 exact Z))|refine Yr 70 ?_|refine YH ?_|(apply Zi Za;exact Z)|(apply Zf Za;exact Z)|(apply Zp Za;exact Z)|refine Ze Z Z Z Qt ?_|refine Zh Z Qt Z Z ?_|refine Zd Z Qt ?_|refine Zg Z Qt ?_|refine Yy ?_|refine Zm Za Z Z Z Z ?_|(apply Zv Za;(iterate 6 exact Z);(first|exact Qt|rotate_left);(first|with_reducible assumption|decide +kernel|exact Z);(first|exact Zk rfl|with_reducible assumption|decide +kernel|rotate_left)))
      all_goals exact Qe
     ·obtain rfl:4=p:=by rw[<- hp];simp[pt,hn,hin,hi2,hi3]
      rw[hi3]at w3
      repeat'(first|(apply Zb (w1);kernel_rfl;(iterate 4 exact Z))|(apply Zb (w2);kernel_rfl;(iterate 4 exact Z))|(apply Zb (w3);kernel_rfl;(iterate 4 exact Z))|refine Yr 70 ?_|refine YH ?_|(apply Zi Za;exact Z)|(apply Zf Za;exact Z)|(apply Zp Za;exact Z)|refine Ze Z Z Z Qt ?_|refine Zh Z Qt Z Z ?_|refine Zd Z Qt ?_|refine Zg Z Qt ?_|refine Zm Za Z Z Z Z ?_|(apply Zv Za;(iterate 6 exact Z);(first|exact Qt|rotate_left);(first|with_reducible assumption|decide +kernel|exact Z);(first|exact Zk rfl|with_reducible assumption|decide +kernel|rotate_left)))
      all_goals exact Qe
 ·obtain rfl:0=p:=by rw[<- hp];simp[pt,hn]
  repeat'(first|(apply Zi Za;exact Z)|(apply Zf Za;exact Z)|(apply Zp Za;exact Z)|refine Zn Z Z Z Qt ?_|refine Zj Z Qt Z Z ?_|refine Zd Z Qt ?_)
  all_goals exact Qe
theorem IN [Known](b:List UInt8)(hb:b.length<=140737488351232):AP Tryz.prog 194 [byE b] (.bool (ZG b)) []:=by
 generalize hV:ZG b=V
 refine AP.ofA (Zl Tryz.func194 Z Tryz.ntmps194 Z Z ?_)
 repeat'(first|(apply Zf Za;exact Z))
 refine ZQ (fun k tm bx fr=>∃ l:List UInt8,k=l.length/\l.length<=b.length/\ZG l=V/\tm=[(0,byE l),(2,.bool false)]/\bx=[]/\fr=[]) (b.length+1) (Lands.mk' (m:=b.length) (Nat.lt_succ_self _) ⟨b,rfl,Nat.le_refl _,hV,rfl,rfl,rfl⟩ ?_ rfl rfl rfl rfl rfl rfl) ?_
 ·exact .cons rfl (.cons rfl .nil)
 rintro k tm bx fr ⟨l,rfl,hl,hV,rfl,rfl,rfl⟩
 rcases l with _|⟨c,r⟩
 ·have hV:true=V:=hV
  subst hV
  repeat'(first|(apply Zi Za;exact Z)|(apply Zf Za;exact Z)|(apply Zp Za;exact Z)|refine Zg Z Qt ?_|refine Zm Za Z Z Z Z ?_)
  all_goals exact Qe
 ·have t1:decide ((((c::r).map E.byte).length:Int)>0)=true:=decide_eq_true (by rw[List.length_map,List.length_cons];omega)
  have hP:=NP c r
  have hle:=Lm (c::r)
  rw[Yv]at hV
  cases hp:pt (c::r) with
  | zero=>
   rw[hp]at hP hV
   dsimp only at hV
   subst hV
   repeat'(first|(apply Zb (hP);kernel_rfl;(iterate 4 exact Z))|(apply Zi Za;exact Z)|(apply Zf Za;exact Z)|(apply Zp Za;exact Z)|refine Zd Z Qt ?_|refine Yy ?_|refine Zm Za Z Z Z Z ?_)
   all_goals exact Qe
  | succ q=>
   rw[hp]at hP hV hle
   dsimp only at hV
   have t2:(((q+1:Nat):Int)==0)=false:=by simp;omega
   have hdr:(c::r).drop (Int.toNat ((q+1:Nat):Int))=r.drop q:=by rw[Int.toNat_natCast,List.drop_succ_cons]
   have hdl:(r.drop q).length=r.length-q:=List.length_drop ..
   generalize r.drop q=r2 at hV hdr hdl
   repeat'(first|(apply Zb (hP);kernel_rfl;(iterate 4 exact Z))|(apply WM Za;(iterate 8 exact Z);exact Qb;(first|with_reducible assumption|decide|(simp only[List.length_cons,List.length_drop,List.length_take,List.length_append,Int.toNat_natCast]at *;omega));(first|with_reducible assumption|exact Z))|(apply Zi Za;exact Z)|(apply Zf Za;exact Z)|(apply Zp Za;exact Z)|refine Zd Z Qt ?_|refine Zg Z Qt ?_|refine Zm Za Z Z Z Z ?_)
   refine Lands.mk' (m:=r2.length) (by rw[List.length_cons];omega) ⟨r2,rfl,by simp at hl ⊢;omega,hV,rfl,rfl,rfl⟩ ?_ rfl rfl rfl rfl rfl rfl
   exact .cons rfl (.cons rfl .nil)
end Go.Proofs.YtmljabhmajehnaaGreatDoor
end
