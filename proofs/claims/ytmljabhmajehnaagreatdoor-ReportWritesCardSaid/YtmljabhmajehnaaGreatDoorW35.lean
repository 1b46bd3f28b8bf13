/- Package report, plain: there and back; a report's bundle may be. -/
import Derived.Test.YtmljabhmajehnaaGreatDoorW34
import Derived.Test.YtmljabhmajehnaaGreatDoorW29
import Derived.Test.YtmljabhmajehnaaGreatDoorW25
import Derived.Test.YtmljabhmajehnaaGreatDoorW24
import Derived.Test.YtmljabhmajehnaaGreatDoorW26
import Derived.Test.YtmljabhmajehnaaGreatDoorW31
set_option linter.unusedVariables false
set_option linter.unusedSimpArgs false
section
open Go.RowKit Go.Pl Go.Av
namespace Go.Proofs.YtmljabhmajehnaaGreatDoor
set_option maxHeartbeats 4000000
theorem JT (b:Bool):((nb b:Int)==1)=b:=by cases b<;>rfl
theorem UB {r:RepV}(h:Yd r=true):YX r=(ZH (Yh r),0):=by
 unfold YX
 rw[h]
theorem JU {r:RepV}(h:Yd r=false):YX r=([],3):=by
 unfold YX
 rw[h]
theorem V2 {r:RepV}(h:Yd r=true):WG (ZH (Yh r))=(r,0):=by
 obtain⟨h1,h2,h3⟩:=VQ h
 have hi:=U3 h3
 have hrep:Wa (.mk 0 (nb r.a) [] []) (.mk 0 (nb r.b) [] []) (.mk 0 (nb r.c) [] []) (.mk 0 r.rs [] []) (.mk 0 r.tm [] []) (Yl r.of r.t r.q)=r:=by
  unfold Wa
  rw[hi]
  dsimp only[It.n]
  rw[JT,JT,JT]
 unfold WG
 rw[QS (Uh h) (Vg h)]
 dsimp only
 rw[show(((0:Nat):Int) != 0)=false from rfl]
 dsimp only
 unfold Jo
 show(match(Yu (Yl r.of r.t r.q)).2.2.2 with
  | false=>(rp0,(3:Int))
  | true=>match(YX (Wa (.mk 0 (nb r.a) [] []) (.mk 0 (nb r.b) [] []) (.mk 0 (nb r.c) [] []) (.mk 0 r.rs [] []) (.mk 0 r.tm [] []) (Yl r.of r.t r.q))).2 != 0 with
   | true=>(rp0,3)
   | false=>match(YX (Wa (.mk 0 (nb r.a) [] []) (.mk 0 (nb r.b) [] []) (.mk 0 (nb r.c) [] []) (.mk 0 r.rs [] []) (.mk 0 r.tm [] []) (Yl r.of r.t r.q))).1==ZH (Yh r) with
    | false=>(rp0,3)
    | true=>(Wa (.mk 0 (nb r.a) [] []) (.mk 0 (nb r.b) [] []) (.mk 0 (nb r.c) [] []) (.mk 0 r.rs [] []) (.mk 0 r.tm [] []) (Yl r.of r.t r.q),0))=(r,0)
 rw[hrep,hi,UB h]
 dsimp only
 rw[show((0:Int) != 0)=false from rfl]
 dsimp only
 rw[beq_self_eq_true]
theorem Kk {b:List UInt8}{s:RepV}(h:WG b=(s,0)):YX s=(b,0):=by
 unfold WG at h
 split at h
 ·cases(Prod.mk.inj h).2
 ·unfold Jo at h
  split at h
  ·split at h
   ·split at h
    ·split at h
     ·cases(Prod.mk.inj h).2
     ·split at h
      ·cases(Prod.mk.inj h).2
      ·split at h
       ·cases(Prod.mk.inj h).2
       ·rename_i d2 _ d3
        have e:=(Prod.mk.inj h).1
        subst e
        exact Prod.ext (by simpa using d3) (by simpa using d2)
    ·cases(Prod.mk.inj h).2
   ·cases(Prod.mk.inj h).2
  ·cases(Prod.mk.inj h).2
theorem I0 [Known](h:Hd):AP Tryz.prog 191 [hd h] (.bool (ZW h)) []:=by
 obtain⟨m,n,o⟩:=h
 refine Zl Tryz.func191 rfl Tryz.ntmps191 rfl rfl ?_
 repeat'(first|(apply Zi Za;exact Z)|(apply Zf Za;exact Z)|(apply Ze;(iterate 3 exact Z);(first|with_reducible assumption|(solve|simp only[bn])))|(apply Zt;(iterate 3 exact Z);(first|with_reducible assumption|(solve|simp only[bn])))|(apply Zn;(iterate 3 exact Z);(first|with_reducible assumption|(solve|simp only[bn])))|refine U7 Z Z Z ?_|(apply Yp;exact Z;exact Z;all_goals intro hb)|(apply Zj;exact Z;(first|with_reducible assumption|(solve|simp only[bn]));exact Z;exact Z)|(apply Zh;exact Z;(first|with_reducible assumption|(solve|simp only[bn]));exact Z;exact Z)|(apply YD;exact Z;all_goals intro hb))
 all_goals(apply VG (ts:=[]);(apply Zc Za;exact Z);exact ZB _;exact Z;rotate_left;exact Z)
 all_goals congr 1
 all_goals(rw[Bool.eq_iff_iff];simp_all [ZW,Qu];try omega)
set_option maxRecDepth 20000 in
theorem Ka [Known](b:List UInt8)(p:Int)(hb:b.length<=4611686018427387904):AP Tryz.prog 175 [byE b,.int .i64 p] (rdD (UG b p)) []:=by
 have HB:=hid hb
 clear hb
 have HU:=Yj b
 refine Zl Tryz.func175 rfl Tryz.ntmps175 rfl rfl ?_
 repeat'(first|(apply Zi Za;exact Z)|(apply Zf Za;exact Z)|(apply Zp Za;exact Z)|(apply Ze;(iterate 3 exact Z);(first|with_reducible assumption|(solve|simp only[bn])))|(apply Zn;(iterate 3 exact Z);(first|with_reducible assumption|(solve|simp only[bn])))|(apply Yp;exact Z;exact Z;all_goals intro hb)|(apply Zj;exact Z;(first|with_reducible assumption|(solve|simp only[bn]));exact Z;exact Z)|(apply Zh;exact Z;(first|with_reducible assumption|(solve|simp only[bn]));exact Z;exact Z)|(apply Zd;exact Z;(first|with_reducible assumption|(solve|simp only[bn])))|(apply YD;exact Z;all_goals intro hb)|refine Zm Za Z Z Z Z ?_)
 ·(apply VG (ts:=[]);(apply Zc Za;exact Z);exact ZB _;exact Z;rotate_left;exact Z)
  have:p<0:=of_decide_eq_true hb
  rw[show UG b p=_ from if_pos (.inl this)];rfl
 ·(apply VG (ts:=[]);(apply Zc Za;exact Z);exact ZB _;exact Z;rotate_left;exact Z)
  have:p>((b.map E.byte).length:Int):=of_decide_eq_true hb
  rw[List.length_map]at this
  rw[show UG b p=_ from if_pos (.inr this)];rfl
 ·(apply VG (ts:=[]);(apply Zc Za;exact Z);exact ZB _;exact Z;rotate_left;exact Z)
  have:p=((b.map E.byte).length:Int):=by simpa using hb
  rw[List.length_map]at this
  have hd:b.drop p.toNat=[]:=by rw[List.drop_eq_nil_iff];omega
  rw[show UG b p=YA b p.toNat from if_neg (by omega)]
  unfold YA
  rw[hd];rfl
 rename_i g1 g2
 have h0:0<=p:=by have:=of_decide_eq_false g1;omega
 have h1:p<(b.length:Int):=by
  have a1:=of_decide_eq_false g2
  rw[List.length_map]at a1 hb
  have a2:p ≠ (b.length:Int):=by simpa using hb
  omega
 obtain⟨c,r,hd,hl,hv,hr⟩:=IK b p h0 h1
 have HH:=hid (show UG b p=YA b p.toNat from if_neg (by omega))
 have HD:=hid hd
 have HL:=hid hl
 have HR:=hid hr
 have hc:=c.toNat_lt
 have e1:IntKind.i64.wrap ((c.toNat:Nat):Int)=((c.toNat:Nat):Int):=IntWalk.i64_in _ (by omega)
 have e4:IntKind.i64.wrap (((c.toNat:Nat):Int).tdiv 32)=((c.toNat/32:Nat):Int):=by
  rw[Int.tdiv_eq_ediv_of_nonneg (Int.natCast_nonneg _),IntWalk.i64_in _ (by omega)];omega
 have e5:((c.toNat:Nat):Int).tmod 32=((c.toNat % 32:Nat):Int):=by
  rw[Int.tmod_eq_emod_of_nonneg (Int.natCast_nonneg _)];omega
 have e2:IntKind.u64.wrap ((c.toNat % 32:Nat):Int)=((c.toNat % 32:Nat):Int):=by rw[IntKind.wrap_u64];omega
 have e3:IntKind.i64.wrap (p+1)=((p.toNat+1:Nat):Int):=by have:=HB.out;rw[IntWalk.i64_in _ (by omega)];omega
 clear hb g1 g2 hd hl hr hc
 have hv4:¬ c.toNat % 32<24->¬ 27<c.toNat % 32->[E.int .i64 1,E.int .i64 2,E.int .i64 4,E.int .i64 8][(IntKind.i64.wrap (((c.toNat % 32:Nat):Int)-24)).toNat]?=some (E.int .i64 ((2 ^ (c.toNat % 32-24):Nat):Int))/\0<=IntKind.i64.wrap (((c.toNat % 32:Nat):Int)-24):=by
  generalize c.toNat % 32=v
  intro g1 g2
  obtain rfl|rfl|rfl|rfl:v=24\/v=25\/v=26\/v=27:=by omega
  all_goals exact⟨rfl,by decide⟩
 repeat'(first|rw[e1]|rw[e2]|rw[e3]|rw[e4]|rw[e5]|(apply Vb (I0 (((c.toNat/32:Nat):Int),0,true));kernel_rfl;(iterate 4 exact Z))|(apply Zi Za;exact Z)|(apply Zf Za;exact Z)|(apply Zp Za;exact Z)|(apply YD;exact Z;all_goals intro hb)|refine UE Za Z Z Z Z Z Z Z Z Z Z Z Z ?_|(apply Zv Za;(iterate 6 exact Z);(first|exact Qb|rotate_left);(first|with_reducible assumption|exact Z);(first|exact Zk rfl|with_reducible assumption|rotate_left))|(apply Xs;exact Z;exact Z;(first|exact Qb|rotate_left);exact Z)|(apply Xt;exact Z;exact Z;(first|exact Qb|rotate_left);exact Z))
 ·(apply VG (ts:=[]);(apply Zc Za;exact Z);exact ZB _;exact Z;rotate_left;exact Z)
  rw[HH.out,Jl HD.out (by have:=of_decide_eq_true hb;omega)];rfl
 ·(apply VG (ts:=[]);(apply Zc Za;exact Z);exact ZB _;exact Z;rotate_left;exact Z)
  have g31 : c.toNat % 32 = 31 := by have : ((c.toNat % 32 : Nat) : Int) = 31 := by simpa using (‹(((c.toNat % 32 : Nat) : Int) == 31) = true›)
                                     omega
  have gm:Qu ((c.toNat/32:Nat):Int)=false:=by simpa[ZW]using hb
  rw[HH.out,JP HD.out (by omega) (fun _=>gm)];rfl
 ·(apply VG (ts:=[]);(apply Zc Za;exact Z);exact ZB _;exact Z;rotate_left;exact Z)
  have g31 : c.toNat % 32 = 31 := by have : ((c.toNat % 32 : Nat) : Int) = 31 := by simpa using (‹(((c.toNat % 32 : Nat) : Int) == 31) = true›)
                                     omega
  have gm:Qu ((c.toNat/32:Nat):Int)=true:=by simpa[ZW]using hb
  rw[HH.out,XY HD.out g31 gm];rfl
 ·(apply VG (ts:=[]);(apply Zc Za;exact Z);exact ZB _;exact Z;rotate_left;exact Z)
  have g31 : c.toNat % 32 ≠ 31 := by have : ((c.toNat % 32 : Nat) : Int) ≠ 31 := by simpa using (‹(((c.toNat % 32 : Nat) : Int) == 31) = false›)
                                     omega
  rw[HH.out,JP HD.out (by have:=of_decide_eq_true hb;omega) (fun e=>(g31 e).elim)];rfl
 have g2:=of_decide_eq_false hb
 have g3:=of_decide_eq_false (‹decide (((c.toNat % 32:Nat):Int)<24)=false›)
 have q1:=GE (c.toNat % 32) (by omega) (by omega)
 have q2:=hv4 (by omega) (by omega)
 have hvi:=q2.1
 have hvp:=q2.2
 have g5:=HL.out
 have g6:=HB.out
 have q3:∀ h:r.length<2 ^ (c.toNat % 32-24),_:=fun h=>HH.out.trans (J9 HD.out (by omega) (by omega) h)
 have q4:∀ h:¬ r.length<2 ^ (c.toNat % 32-24),_:=fun h=>HH.out.trans (XZ HD.out (by omega) (by omega) h)
 have q5:=q1.2
 generalize 2 ^ (c.toNat % 32-24)=m at hvi q3 q4 q5 ⊢
 have Q3:=hid q3
 have Q4:=hid q4
 clear q3 q4 q1 q2 hv4
 repeat'(first|(apply Zi Za;exact Z)|(apply Zf Za;exact Z)|(apply Zp Za;exact Z)|(apply YD;exact Z;all_goals intro hb)|refine Zm Za Z Z Z Z ?_|(apply Zv Za;(iterate 6 exact Z);(first|exact Qb|rotate_left);(first|with_reducible assumption|exact Z);(first|exact Zk rfl|with_reducible assumption|rotate_left)))
 ·(apply VG (ts:=[]);(apply Zc Za;exact Z);exact ZB _;exact Z;rotate_left;exact Z)
  have g1:=of_decide_eq_true hb
  rw[List.length_map,IntWalk.i64_in ((b.length:Int)-p) (by omega),IntWalk.i64_in _ (by omega)]at g1
  rw[Q3.out (by omega)];rfl
 have g1:=of_decide_eq_false hb
 rw[List.length_map,IntWalk.i64_in ((b.length:Int)-p) (by omega),IntWalk.i64_in _ (by omega)]at g1
 have G7:=hid (Q4.out (by omega))
 clear hb g2 g3
 refine ZQ (fun k tm bx fr=>∃ i,k+i=m/\tm=[(10,.int .i64 (i:Int)),(9,.int .i64 (m:Int)),(7,.ptr 1 0),(1,.int .i64 p),(0,byE b),(4,.ptr 0 0)]/\bx=[[.int .i64 0,.int .u64 0,.bool false],[.int .i64 ((c.toNat/32:Nat):Int),.int .u64 (Wl (r.take i):Nat),.bool false]]/\fr=[]) (m+1) (Lands.mk' (m:=m) (Nat.lt_succ_self _) ⟨0,rfl,rfl,rfl,rfl⟩ ?_ rfl rfl rfl rfl rfl rfl) ?_
 ·repeat'(first|exact Av.Sub.nil|refine Av.Sub.cons rfl ?_)
 rintro k tm bx fr ⟨i,hk,rfl,rfl,rfl⟩
 rcases Nat.lt_or_ge i m with hlt|hge
 ·have hd:decide ((i:Int)<(m:Int))=true:=by simp;omega
  have hir:i<r.length:=by omega
  have hv':(b.map E.byte)[((p.toNat+1+i:Nat):Int).toNat]?=some (E.byte r[i]):=by
   rw[Int.toNat_natCast,HR.out i hir];simp[hir]
  have e4:IntKind.i64.wrap (((p.toNat+1:Nat):Int)+(i:Int))=((p.toNat+1+i:Nat):Int):=by rw[IntWalk.i64_in _ (by omega)];omega
  have e7:IntKind.i64.wrap ((i:Int)+1)=((i+1:Nat):Int):=by rw[IntWalk.i64_in _ (by omega)];omega
  have e6:IntKind.u64.wrap ((r[i].toNat:Nat):Int)=((r[i].toNat:Nat):Int):=by have:=r[i].toNat_lt;rw[IntKind.wrap_u64];omega
  have e5:IntKind.u64.wrap (IntKind.u64.wrap (256*((Wl (r.take i):Nat):Int))+((r[i].toNat:Nat):Int))=((Wl (r.take (i+1)):Nat):Int):=by
   have h9:=Qz r i (by omega)
   have h8:=r[i].toNat_lt
   rw[KC r i hir,IntKind.wrap_u64,IntKind.wrap_u64]
   omega
  repeat'(first|rw[e3]|rw[e4]|rw[e5]|rw[e6]|rw[e7]|(apply Zi Za;exact Z)|(apply Zf Za;exact Z)|(apply Zd;exact Z;(first|with_reducible assumption|(solve|simp only[bn])))|(apply ZP 11 ZD;decide +kernel;kernel_rfl;kernel_rfl;exact Z;exact Z)|(apply ZZ;(iterate 3 exact Z))|refine AD.nil _|exact Ym rfl|(apply Zv Za;(iterate 6 exact Z);(first|exact Qb|rotate_left);(first|with_reducible assumption|exact Z);(first|exact Zk rfl|with_reducible assumption|rotate_left)))
  refine Lands.mk' (m:=k-1) (by omega) ⟨i+1,by omega,rfl,rfl,rfl⟩ ?_ rfl rfl rfl rfl rfl rfl
  repeat'(first|exact Av.Sub.nil|refine Av.Sub.cons rfl ?_)
 ·have hd:decide ((i:Int)<(m:Int))=false:=by simp;omega
  repeat'(first|rw[e3]|(apply Zf Za;exact Z)|(apply Zg;exact Z;(first|with_reducible assumption|(solve|simp only[bn]))))
  (apply VG (ts:=[]);(apply Zc Za;exact Z);exact ZB _;exact Z;rotate_left;exact Z)
  have h9:i=m:=by omega
  subst h9
  rw[G7.out,IntWalk.i64_in _ (by omega)]
  rfl
abbrev pcD (b:List UInt8)(r:Res (List UInt8 × List UInt8)):D:=match r with
 | .error e=>.tup [.sl .ext [],.int .i64 0,.int .i64 (e:Int)]
 | .ok (c,r)=>.tup [byE c,.int .i64 ((b.length-r.length:Nat):Int),.int .i64 0]
theorem Oc [Known](h:Hd)(b:List UInt8)(p:Nat)(hb:b.length<=1099511627776)(hp:p<=b.length)(hn:h.2.1<18446744073709551616):AP Tryz.prog 192 [byE b,.int .i64 (p:Int),hd h] (pcD b (YQ h (b.drop p))) []:=by
 obtain⟨k,n,o⟩:=h
 dsimp only at hn
 show AP Tryz.prog _ [byE b,.int .i64 (p:Int),.agg [.int .i64 k,.int .u64 (n:Int),.bool o]] _ _
 have e1:IntKind.i64.wrap (((b.map E.byte).length:Int)-(p:Int))=((b.length-p:Nat):Int):=by rw[List.length_map,IntWalk.i64_in _ (by omega)];omega
 have e2:IntKind.u64.wrap ((b.length-p:Nat):Int)=((b.length-p:Nat):Int):=by rw[IntKind.wrap_u64];omega
 unfold YQ
 dsimp only
 have hl:(b.drop p).length=b.length-p:=List.length_drop ..
 rw[hl]
 by_cases hle:n<=b.length-p
 ·rw[if_pos hle]
  have d1:decide ((n:Int)>((b.length-p:Nat):Int))=false:=decide_eq_false (by omega)
  have e3:IntKind.i64.wrap (n:Int)=(n:Int):=IntWalk.i64_in _ (by omega)
  have e4:IntKind.i64.wrap ((p:Int)+(n:Int))=((p+n:Nat):Int):=by rw[IntWalk.i64_in _ (by omega)];omega
  have hs:(b.take (((p+n:Nat):Int)).toNat).drop ((p:Nat):Int).toNat=(b.drop p).take n:=by
   rw[Int.toNat_natCast,Int.toNat_natCast,List.drop_take];congr 1;omega
  have hij:((p:Nat):Int)<=((p+n:Nat):Int):=by omega
  have hj:(((p+n:Nat):Int)).toNat<=b.length:=by omega
  have hcl:((b.drop p).take n).length<=140737488351232:=by rw[List.length_take,hl];omega
  have hU:=Yj b
  have c2:=IN _ hcl
  have eR:b.length-((b.drop p).drop n).length=p+n:=by rw[List.length_drop,hl];omega
  by_cases h3:k=3
  ·subst h3
   cases hv:ZG ((b.drop p).take n) with
   | true=>
    rw[hv]at c2
    rw[if_neg (by simp)]
    dsimp only[pcD]
    rw[eR]
    refine AP.ofA (Zl Tryz.func192 Z Tryz.ntmps192 Z Z ?_)
    repeat'(first|rw[d1]|rw[e1]|rw[e2]|rw[e3]|rw[e4]|(apply Zb (c2);kernel_rfl;(iterate 4 exact Z))|(apply U9 Za;(iterate 9 exact Z);exact Qb;(first|with_reducible assumption|decide|(simp only[List.length_cons,List.length_drop,List.length_take,List.length_append,Int.toNat_natCast]at *;omega));(first|with_reducible assumption|decide|(simp only[List.length_cons,List.length_drop,List.length_take,List.length_append,Int.toNat_natCast]at *;omega));(first|with_reducible assumption|exact Z))|(apply Zi Za;exact Z)|(apply Zf Za;exact Z)|(apply Zp Za;exact Z)|refine Z2 ?_|refine Ze Z Z Z Qt ?_|refine Zj Z Qt Z Z ?_|refine Zg Z Qt ?_|refine Zm Za Z Z Z Z ?_)
    all_goals exact Qe
   | false=>
    rw[hv]at c2
    rw[if_pos ⟨rfl,rfl⟩]
    dsimp only[pcD]
    refine AP.ofA (Zl Tryz.func192 Z Tryz.ntmps192 Z Z ?_)
    repeat'(first|rw[d1]|rw[e1]|rw[e2]|rw[e3]|rw[e4]|(apply Zb (c2);kernel_rfl;(iterate 4 exact Z))|(apply U9 Za;(iterate 9 exact Z);exact Qb;(first|with_reducible assumption|decide|(simp only[List.length_cons,List.length_drop,List.length_take,List.length_append,Int.toNat_natCast]at *;omega));(first|with_reducible assumption|decide|(simp only[List.length_cons,List.length_drop,List.length_take,List.length_append,Int.toNat_natCast]at *;omega));(first|with_reducible assumption|exact Z))|(apply Zi Za;exact Z)|(apply Zf Za;exact Z)|(apply Zp Za;exact Z)|refine Z2 ?_|refine Ze Z Z Z Qt ?_|refine Zj Z Qt Z Z ?_|refine Zd Z Qt ?_|refine Zg Z Qt ?_|refine Zm Za Z Z Z Z ?_)
    all_goals exact Qe
  ·have k3:(k==3)=false:=by simpa using h3
   rw[if_neg (by rintro⟨h,_⟩;exact h3 h)]
   dsimp only[pcD]
   rw[eR]
   refine AP.ofA (Zl Tryz.func192 Z Tryz.ntmps192 Z Z ?_)
   repeat'(first|rw[d1]|rw[e1]|rw[e2]|rw[e3]|rw[e4]|(apply U9 Za;(iterate 9 exact Z);exact Qb;(first|with_reducible assumption|decide|(simp only[List.length_cons,List.length_drop,List.length_take,List.length_append,Int.toNat_natCast]at *;omega));(first|with_reducible assumption|decide|(simp only[List.length_cons,List.length_drop,List.length_take,List.length_append,Int.toNat_natCast]at *;omega));(first|with_reducible assumption|exact Z))|(apply Zi Za;exact Z)|(apply Zf Za;exact Z)|(apply Zp Za;exact Z)|refine Z2 ?_|refine Zt Z Z Z Qt ?_|refine Zh Z Qt Z Z ?_|refine Zg Z Qt ?_|refine Zm Za Z Z Z Z ?_)
   all_goals exact Qe
 ·rw[if_neg hle]
  dsimp only[pcD]
  have d1:decide ((n:Int)>((b.length-p:Nat):Int))=true:=decide_eq_true (by omega)
  refine AP.ofA (Zl Tryz.func192 Z Tryz.ntmps192 Z Z ?_)
  repeat'(first|rw[d1]|rw[e1]|rw[e2]|(apply Zi Za;exact Z)|(apply Zf Za;exact Z)|(apply Zp Za;exact Z)|refine Zd Z Qt ?_|refine Zm Za Z Z Z Z ?_)
  all_goals exact Qe
end Go.Proofs.YtmljabhmajehnaaGreatDoor
end
