/- Package fields: a reader: numbers. -/
import Derived.Test.YtchlgagdbflkmaaGreatDoorL12
import Derived.Test.YtchlgagdbflkmaaGreatDoorL13
import Derived.Test.YtchlgagdbflkmaaGreatDoorL15
import Derived.Test.YtchlgagdbflkmaaGreatDoorL16
import Derived.Test.YtchlgagdbflkmaaGreatDoorL14
set_option linter.unusedVariables false
set_option linter.unusedSimpArgs false
section
open Go.RowKit Go.Pl Go.Av
namespace Go.Proofs.YtchlgagdbflkmaaGreatDoor
set_option maxHeartbeats 4000000
abbrev UC (s:Nat × List UInt8):List (List D):=[[.int .i64 (s.1:Int),.bool true,byE s.2]]
theorem W3 [Known](b:List UInt8)(hb:b.length<=1000000):AQ Tryz.prog 70 [byE b] [] (.ptr 0 0) (UC (0,b)):=by
 have hC:=Uz b (by omega)
 refine AQ.weak (Zp Tryz.func70 Z Tryz.ntmps70 Z Z ?_)
 repeat'(first|(apply Zc (hC);kernel_rfl;(iterate 4 exact Z))|(apply Zl Zb;exact Z)|(apply Zj Zb;exact Z))
 all_goals(apply Zw [0];(apply Zd Zb;exact Z);(iterate 4 exact Z))
 all_goals rfl
theorem Kr [Known](s:Nat × List UInt8):AQ Tryz.prog 102 [.ptr 0 0] (UC s) (.bool ((s.1:Int)==0)) (UC s):=by
 obtain⟨e,b⟩:=s
 refine AQ.weak (Zp Tryz.func102 Z Tryz.ntmps102 Z Z ?_)
 repeat'(first|(apply Zl Zb;exact Z)|(apply Zj Zb;exact Z)|refine Zi Z Z Z Qt ?_|refine Zo Z Qt Z Z ?_)
 all_goals(apply Zw [0];(apply Zd Zb;exact Z);(iterate 4 exact Z))
 all_goals rfl
def V4 (f:Nat)(s:Nat × List UInt8):Nat × List UInt8:=match(s.1:Int)==0 with|true=>(f,s.2)|false=>s
theorem JZ [Known](s:Nat × List UInt8)(f:Nat):AQ Tryz.prog 103 [.ptr 0 0,.int .i64 (f:Int)] (UC s) (.tup []) (UC (V4 f s)):=by
 obtain⟨e,b⟩:=s
 unfold V4
 cases t:(e:Int)==0
 all_goals
  dsimp only
  refine AQ.weak (Zp Tryz.func103 Z Tryz.ntmps103 Z Z ?_)
  repeat'(first|(apply Zj Zb;exact Z)|refine Zf Z Qt ?_|refine Zg Z Qt ?_)
  all_goals refine HY [0] ResL.nil Z Z Z Z ?_ ?_
  all_goals rfl
def ZA (s:Nat × List UInt8):Nat × Nat × List UInt8:=match(s.1:Int)==0 with|true=>rnF s.2 0 0|false=>(0,s)
theorem Wd [Known](s:Nat × List UInt8)(hb:s.2.length<=1000000):AQ Tryz.prog 71 [.ptr 0 0] (UC s) (.int .u64 ((ZA s).1:Int)) (UC (ZA s).2):=by
 obtain⟨e,b⟩:=s
 have hF:=Kr (e,b)
 unfold ZA
 cases t:(e:Int)==0 with
 | false=>
  dsimp only at hF ⊢
  rw[t]at hF
  refine AQ.weak (Zp Tryz.func71 Z Tryz.ntmps71 Z Z ?_)
  repeat'(first|(apply Zj Zb;exact Z))
  refine Yr (fun k tm bx fr=>tm=[(0,.ptr 0 0),(2,.int .u64 0),(3,.int .u64 0),(4,.int .i64 0)]/\bx=UC (e,b)/\fr=[]) 1 (Lands.mk' (m:=0) (by omega) ⟨rfl,rfl,rfl⟩ ?_ rfl rfl rfl rfl rfl rfl) ?_
  ·exact .cons rfl (.cons rfl (.cons rfl (.cons rfl .nil)))
  rintro k tm bx fr ⟨rfl,rfl,rfl⟩
  repeat'(first|(apply Zh [0] (hF);kernel_rfl;(iterate 7 exact Z))|(apply Zl Zb;exact Z)|(apply Zj Zb;exact Z)|(apply Zt Zb;exact Z)|refine Zg Z Qt ?_)
  all_goals(apply Zw [0];(apply Zd Zb;exact Z);(iterate 4 exact Z))
  all_goals rfl
 | true=>
  dsimp only
  obtain rfl:e=0:=by simpa using t
  clear hF t
  generalize hR:rnF b 0 0=R
  obtain⟨R1,R2,R3⟩:=R
  dsimp only at hb ⊢
  refine AQ.weak (Zp Tryz.func71 Z Tryz.ntmps71 Z Z ?_)
  repeat'(first|(apply Zj Zb;exact Z))
  refine Yr (fun k tm bx fr=>∃(i a:Nat) (q:List UInt8),k=q.length/\q.length<=1000000/\a<2 ^ (7*i)/\i<=10/\rnF q i a=(R1,R2,R3)/\tm=[(0,.ptr 0 0),(2,.int .u64 0),(3,.int .u64 (a:Int)),(4,.int .i64 (i:Int))]/\bx=[[.int .i64 0,.bool true,byE q]]/\fr=[]) (b.length+1) (Lands.mk' (m:=b.length) (by omega) ⟨0,0,b,rfl,hb,by decide,by omega,hR,rfl,rfl,rfl⟩ ?_ rfl rfl rfl rfl rfl rfl) ?_
  ·exact .cons rfl (.cons rfl (.cons rfl (.cons rfl .nil)))
  rintro k tm bx fr ⟨i,a,q,hk,hq,ha,hi,hr,rfl,rfl,rfl⟩
  have hF:=Kr (0,q)
  replace hF:AQ Tryz.prog _ [.ptr 0 0] [[.int .i64 0,.bool true,byE q]] (.bool true) [[.int .i64 0,.bool true,byE q]]:=hF
  cases q with
  | nil=>
   have hX:=JZ (0,[]) 8
   replace hX:AQ Tryz.prog _ [.ptr 0 0,.int .i64 8] [[.int .i64 0,.bool true,.sl .ext []]] (.tup []) [[.int .i64 8,.bool true,.sl .ext []]]:=hX
   rw[rnF]at hr
   cases hr
   repeat'(first|(apply Zh [0] (hF);kernel_rfl;(iterate 7 exact Z))|(apply Zh [0] (hX);kernel_rfl;(iterate 7 exact Z))|(apply Zl Zb;exact Z)|(apply Zj Zb;exact Z)|(apply Zt Zb;exact Z)|refine Zf Z Qt ?_|refine Zz Zb Z Z Z Z ?_)
   all_goals(apply Zw [0];(apply Zd Zb;exact Z);(iterate 4 exact Z))
   all_goals rfl
  | cons c r=>
   have hX:=JZ (0,r) 3
   replace hX:AQ Tryz.prog _ [.ptr 0 0,.int .i64 3] [[.int .i64 0,.bool true,byE r]] (.tup []) [[.int .i64 3,.bool true,byE r]]:=hX
   have hU:=YD (c::r)
   have tL:((((c::r).map E.byte).length:Int)==0)=false:=by simp;omega
   have hdr:(c::r).drop (Int.toNat 1)=r:=rfl
   have e7:IntKind.i64.wrap ((i:Int)*7)=((7*i:Nat):Int):=by rw[IntWalk.i64_in _ (by omega)];omega
   have ei:IntKind.i64.wrap ((i:Int)+1)=((i+1:Nat):Int):=by rw[IntWalk.i64_in _ (by omega)];omega
   rw[rnF]at hr
   by_cases hbad:i=10\/(i=9/\c.toNat>1)\/(c.toNat=0/\i>0)
   ·rw[if_pos hbad]at hr
    cases hr
    by_cases h10:i=10
    ·have z1:((i:Int)==10)=true:=by simp;omega
     repeat'(first|(apply Zh [0] (hF);kernel_rfl;(iterate 7 exact Z))|(apply Zh [0] (hX);kernel_rfl;(iterate 7 exact Z))|(apply VR Zb;(iterate 8 exact Z);exact Qb;(first|with_reducible assumption|decide|(simp only[List.length_cons,List.length_drop,List.length_take,List.length_append,Int.toNat_natCast]at *;omega));(first|with_reducible assumption|exact Z))|(apply Zl Zb;exact Z)|(apply Zj Zb;exact Z)|(apply Zt Zb;exact Z)|refine Zq Z Z Z Qt ?_|refine Yh Z Z Z ?_|refine Zo Z Qt Z Z ?_|refine Zf Z Qt ?_|refine Zg Z Qt ?_|refine Zz Zb Z Z Z Z ?_|(apply ZF Zb;(iterate 6 exact Z);(first|exact Qt|rotate_left);(first|with_reducible assumption|decide +kernel|exact Z);(first|exact Zk rfl|with_reducible assumption|decide +kernel|rotate_left)))
     all_goals(apply Zw [0];(apply Zd Zb;exact Z);(iterate 4 exact Z))
     all_goals rfl
    ·have z1:((i:Int)==10)=false:=by simp;omega
     by_cases h9:i=9/\c.toNat>1
     ·have z2:(((7*i:Nat):Int)==63)=true:=by simp;omega
      have z3:decide ((c.toNat:Int)>1)=true:=decide_eq_true (by omega)
      repeat'(first|rw[e7]|(apply Zh [0] (hF);kernel_rfl;(iterate 7 exact Z))|(apply Zh [0] (hX);kernel_rfl;(iterate 7 exact Z))|(apply VR Zb;(iterate 8 exact Z);exact Qb;(first|with_reducible assumption|decide|(simp only[List.length_cons,List.length_drop,List.length_take,List.length_append,Int.toNat_natCast]at *;omega));(first|with_reducible assumption|exact Z))|(apply Zl Zb;exact Z)|(apply Zj Zb;exact Z)|(apply Zt Zb;exact Z)|refine Zi Z Z Z Qt ?_|refine Zq Z Z Z Qt ?_|refine Yh Z Z Z ?_|refine Zo Z Qt Z Z ?_|refine Zn Z Qt Z Z ?_|refine Zf Z Qt ?_|refine Zg Z Qt ?_|refine Zz Zb Z Z Z Z ?_|(apply ZF Zb;(iterate 6 exact Z);(first|exact Qt|rotate_left);(first|with_reducible assumption|decide +kernel|exact Z);(first|exact Zk rfl|with_reducible assumption|decide +kernel|rotate_left)))
      all_goals(apply Zw [0];(apply Zd Zb;exact Z);(iterate 4 exact Z))
      all_goals rfl
     ·have h0:c.toNat=0/\i>0:=by omega
      have z4:((c.toNat:Int)==0)=true:=by simp;omega
      have z5:decide ((i:Int)>0)=true:=decide_eq_true (by omega)
      by_cases h99:i=9
      ·have z2:(((7*i:Nat):Int)==63)=true:=by simp;omega
       have z3:decide ((c.toNat:Int)>1)=false:=decide_eq_false (by omega)
       repeat'(first|rw[e7]|(apply Zh [0] (hF);kernel_rfl;(iterate 7 exact Z))|(apply Zh [0] (hX);kernel_rfl;(iterate 7 exact Z))|(apply VR Zb;(iterate 8 exact Z);exact Qb;(first|with_reducible assumption|decide|(simp only[List.length_cons,List.length_drop,List.length_take,List.length_append,Int.toNat_natCast]at *;omega));(first|with_reducible assumption|exact Z))|(apply Zl Zb;exact Z)|(apply Zj Zb;exact Z)|(apply Zt Zb;exact Z)|refine Zi Z Z Z Qt ?_|refine Zo Z Qt Z Z ?_|refine Zn Z Qt Z Z ?_|refine Zf Z Qt ?_|refine Zg Z Qt ?_|refine Zz Zb Z Z Z Z ?_|(apply ZF Zb;(iterate 6 exact Z);(first|exact Qt|rotate_left);(first|with_reducible assumption|decide +kernel|exact Z);(first|exact Zk rfl|with_reducible assumption|decide +kernel|rotate_left)))
       all_goals(apply Zw [0];(apply Zd Zb;exact Z);(iterate 4 exact Z))
       all_goals rfl
      ·have z2:(((7*i:Nat):Int)==63)=false:=by simp;omega
       repeat'(first|rw[e7]|(apply Zh [0] (hF);kernel_rfl;(iterate 7 exact Z))|(apply Zh [0] (hX);kernel_rfl;(iterate 7 exact Z))|(apply VR Zb;(iterate 8 exact Z);exact Qb;(first|with_reducible assumption|decide|(simp only[List.length_cons,List.length_drop,List.length_take,List.length_append,Int.toNat_natCast]at *;omega));(first|with_reducible assumption|exact Z))|(apply Zl Zb;exact Z)|(apply Zj Zb;exact Z)|(apply Zt Zb;exact Z)|refine Zi Z Z Z Qt ?_|refine Zs Z Z Z Qt ?_|refine Zo Z Qt Z Z ?_|refine Zn Z Qt Z Z ?_|refine Zf Z Qt ?_|refine Zg Z Qt ?_|refine Zz Zb Z Z Z Z ?_|(apply ZF Zb;(iterate 6 exact Z);(first|exact Qt|rotate_left);(first|with_reducible assumption|decide +kernel|exact Z);(first|exact Zk rfl|with_reducible assumption|decide +kernel|rotate_left)))
       all_goals(apply Zw [0];(apply Zd Zb;exact Z);(iterate 4 exact Z))
       all_goals rfl
   ·rw[if_neg hbad]at hr
    have z1:((i:Int)==10)=false:=by simp;omega
    have eor:=NZ (a:=a) (i:=i) c ha (by omega) (by omega)
    have e127:=Tm c
    have h0s:0<=IntKind.i64.wrap (7*(i:Int)):=by rw[IntWalk.i64_in _ (by omega)];omega
    have e128:=T2 c
    have ha2:a+c.toNat % 128*2 ^ (7*i)<2 ^ (7*(i+1)):=by
     have hpow:2 ^ (7*(i+1))=128*2 ^ (7*i):=by rw[Nat.mul_add,Nat.pow_add,Nat.mul_comm]
     rw[hpow]
     have:c.toNat % 128*2 ^ (7*i)<=127*2 ^ (7*i):=Nat.mul_le_mul_right _ (by omega)
     omega
    generalize a+c.toNat % 128*2 ^ (7*i)=a2 at *
    by_cases h128:c.toNat<128
    ·rw[if_pos h128]at hr
     cases hr
     have z6:((bits .and .u8 (c.toNat:Int) 128)==0)=true:=by rw[e128];exact decide_eq_true h128
     by_cases h9:i=9
     ·have z2:(((7*i:Nat):Int)==63)=true:=by simp;omega
      have z3:decide ((c.toNat:Int)>1)=false:=decide_eq_false (by omega)
      have z4:((c.toNat:Int)==0)=false:=by simp;omega
      repeat'(first|rw[e7]|rw[e127]|rw[eor]|(apply Zh [0] (hF);kernel_rfl;(iterate 7 exact Z))|(apply VR Zb;(iterate 8 exact Z);exact Qb;(first|with_reducible assumption|decide|(simp only[List.length_cons,List.length_drop,List.length_take,List.length_append,Int.toNat_natCast]at *;omega));(first|with_reducible assumption|exact Z))|(apply Zl Zb;exact Z)|(apply Zj Zb;exact Z)|(apply Zt Zb;exact Z)|refine Zi Z Z Z Qt ?_|refine Zs Z Z Z Qt ?_|refine Zo Z Qt Z Z ?_|refine Zn Z Qt Z Z ?_|refine Zf Z Qt ?_|refine Zg Z Qt ?_|refine Zz Zb Z Z Z Z ?_|(apply ZF Zb;(iterate 6 exact Z);(first|exact Qt|rotate_left);(first|with_reducible assumption|decide +kernel|exact Z);(first|exact Zk rfl|with_reducible assumption|decide +kernel|rotate_left))|(apply Y0;exact Z;exact Z;(first|exact Qt|rotate_left);exact Z))
      all_goals(apply Zw [0];(apply Zd Zb;exact Z);(iterate 4 exact Z))
      all_goals rfl
     ·have z2:(((7*i:Nat):Int)==63)=false:=by simp;omega
      by_cases h0:c.toNat=0
      ·have z4:((c.toNat:Int)==0)=true:=by simp;omega
       have z5:decide ((i:Int)>0)=false:=decide_eq_false (by omega)
       repeat'(first|rw[e7]|rw[e127]|rw[eor]|(apply Zh [0] (hF);kernel_rfl;(iterate 7 exact Z))|(apply VR Zb;(iterate 8 exact Z);exact Qb;(first|with_reducible assumption|decide|(simp only[List.length_cons,List.length_drop,List.length_take,List.length_append,Int.toNat_natCast]at *;omega));(first|with_reducible assumption|exact Z))|(apply Zl Zb;exact Z)|(apply Zj Zb;exact Z)|(apply Zt Zb;exact Z)|refine Zi Z Z Z Qt ?_|refine Zs Z Z Z Qt ?_|refine Zo Z Qt Z Z ?_|refine Zn Z Qt Z Z ?_|refine Zf Z Qt ?_|refine Zg Z Qt ?_|refine Zz Zb Z Z Z Z ?_|(apply ZF Zb;(iterate 6 exact Z);(first|exact Qt|rotate_left);(first|with_reducible assumption|decide +kernel|exact Z);(first|exact Zk rfl|with_reducible assumption|decide +kernel|rotate_left))|(apply Y0;exact Z;exact Z;(first|exact Qt|rotate_left);exact Z))
       all_goals(apply Zw [0];(apply Zd Zb;exact Z);(iterate 4 exact Z))
       all_goals rfl
      ·have z4:((c.toNat:Int)==0)=false:=by simp;omega
       repeat'(first|rw[e7]|rw[e127]|rw[eor]|(apply Zh [0] (hF);kernel_rfl;(iterate 7 exact Z))|(apply VR Zb;(iterate 8 exact Z);exact Qb;(first|with_reducible assumption|decide|(simp only[List.length_cons,List.length_drop,List.length_take,List.length_append,Int.toNat_natCast]at *;omega));(first|with_reducible assumption|exact Z))|(apply Zl Zb;exact Z)|(apply Zj Zb;exact Z)|(apply Zt Zb;exact Z)|refine Zi Z Z Z Qt ?_|refine Zs Z Z Z Qt ?_|refine Zn Z Qt Z Z ?_|refine Zf Z Qt ?_|refine Zg Z Qt ?_|refine Zz Zb Z Z Z Z ?_|(apply ZF Zb;(iterate 6 exact Z);(first|exact Qt|rotate_left);(first|with_reducible assumption|decide +kernel|exact Z);(first|exact Zk rfl|with_reducible assumption|decide +kernel|rotate_left))|(apply Y0;exact Z;exact Z;(first|exact Qt|rotate_left);exact Z))
       all_goals(apply Zw [0];(apply Zd Zb;exact Z);(iterate 4 exact Z))
       all_goals rfl
    ·rw[if_neg h128]at hr
     have z6:((bits .and .u8 (c.toNat:Int) 128)==0)=false:=by rw[e128];exact decide_eq_false h128
     have z4:((c.toNat:Int)==0)=false:=by simp;omega
     by_cases h9:i=9
     ·exfalso;omega
     ·have z2:(((7*i:Nat):Int)==63)=false:=by simp;omega
      repeat'(first|rw[e7]|rw[e127]|rw[eor]|rw[ei]|(apply Zh [0] (hF);kernel_rfl;(iterate 7 exact Z))|(apply VR Zb;(iterate 8 exact Z);exact Qb;(first|with_reducible assumption|decide|(simp only[List.length_cons,List.length_drop,List.length_take,List.length_append,Int.toNat_natCast]at *;omega));(first|with_reducible assumption|exact Z))|(apply Zl Zb;exact Z)|(apply Zj Zb;exact Z)|(apply Zt Zb;exact Z)|refine Zi Z Z Z Qt ?_|refine Zs Z Z Z Qt ?_|refine Zn Z Qt Z Z ?_|refine Zf Z Qt ?_|refine Zg Z Qt ?_|refine Zz Zb Z Z Z Z ?_|(apply ZF Zb;(iterate 6 exact Z);(first|exact Qt|rotate_left);(first|with_reducible assumption|decide +kernel|exact Z);(first|exact Zk rfl|with_reducible assumption|decide +kernel|rotate_left))|(apply Y0;exact Z;exact Z;(first|exact Qt|rotate_left);exact Z))
      refine Lands.mk' (m:=r.length) (by rw[hk];simp) ⟨i+1,a2,r,rfl,by simp at hq;omega,ha2,by omega,hr,rfl,rfl,rfl⟩ ?_ rfl rfl rfl rfl rfl rfl
      exact .cons rfl (.cons rfl (.cons rfl (.cons rfl .nil)))
theorem Yw (s:Nat × List UInt8):(ZA s).2.2.length<=s.2.length:=by
 unfold ZA
 split
 ·exact O3 _ _ _
 ·exact Nat.le_refl _
theorem Hz (s:Nat × List UInt8):(ZA s).1<18446744073709551616:=by
 unfold ZA
 split
 ·exact Gm _ _ _ (by decide) (by omega)
 ·show 0<_;omega
def Z2 (top:Nat)(s:Nat × List UInt8):Nat × Nat × List UInt8:=match decide (((ZA s).1:Int)>(top:Int)) with|true=>(0,V4 3 (ZA s).2)|false=>ZA s
theorem Jv (f:Nat)(s:Nat × List UInt8):(V4 f s).2=s.2:=by unfold V4;split<;>rfl
theorem X2 (top:Nat)(s:Nat × List UInt8):(Z2 top s).2.2.length<=s.2.length:=by
 have:=Yw s
 unfold Z2
 split
 ·show(V4 3 (ZA s).2).2.length<=_;rw[Jv];exact this
 ·exact this
theorem Yn (top:Nat)(s:Nat × List UInt8):(Z2 top s).1<=top:=by
 unfold Z2
 split
 ·exact Nat.zero_le _
 ·rename_i h;have:=of_decide_eq_false h;omega
theorem KW [Known](top:Nat)(s:Nat × List UInt8)(hb:s.2.length<=1000000):AQ Tryz.prog 104 [.ptr 0 0,.int .u64 (top:Int)] (UC s) (.int .u64 ((Z2 top s).1:Int)) (UC (Z2 top s).2):=by
 have hN:=Wd s hb
 unfold Z2
 generalize ZA s=p at *
 obtain⟨n,e,q⟩:=p
 obtain⟨e0,b⟩:=s
 have hX:=JZ (e,q) 3
 generalize V4 3 (e,q)=z at *
 obtain⟨z1,z2⟩:=z
 dsimp only at hN hX ⊢
 replace hX:AQ Tryz.prog _ [.ptr 0 0,.int .i64 3] _ _ _:=hX
 cases t:decide ((n:Int)>(top:Int))
 all_goals
  dsimp only
  refine AQ.weak (Zp Tryz.func104 Z Tryz.ntmps104 Z Z ?_)
  repeat'(first|(apply Zh [0] (hN);kernel_rfl;(iterate 7 exact Z))|(apply Zh [0] (hX);kernel_rfl;(iterate 7 exact Z))|(apply Zl Zb;exact Z)|(apply Zj Zb;exact Z)|refine Zf Z Qt ?_|refine Zg Z Qt ?_)
  all_goals(apply Zw [0];(apply Zd Zb;exact Z);(iterate 4 exact Z))
  all_goals rfl
theorem YP [Known](s:Nat × List UInt8)(hb:s.2.length<=1000000):AQ Tryz.prog 72 [.ptr 0 0] (UC s) (.int .i64 ((Z2 1099511627776 s).1:Int)) (UC (Z2 1099511627776 s).2):=by
 have hM:=KW 1099511627776 s hb
 have hl:=Yn 1099511627776 s
 replace hM:AQ Tryz.prog _ [.ptr 0 0,.int .u64 1099511627776] _ _ _:=hM
 generalize Z2 1099511627776 s=p at *
 obtain⟨n,e,q⟩:=p
 obtain⟨e0,b⟩:=s
 dsimp only at hM hl ⊢
 have e1:IntKind.i64.wrap (n:Int)=(n:Int):=IntWalk.i64_in _ (by omega)
 refine AQ.weak (Zp Tryz.func72 Z Tryz.ntmps72 Z Z ?_)
 repeat'(first|rw[e1]|(apply Zh [0] (hM);kernel_rfl;(iterate 7 exact Z))|(apply Zl Zb;exact Z)|(apply Zj Zb;exact Z))
 all_goals(apply Zw [0];(apply Zd Zb;exact Z);(iterate 4 exact Z))
 all_goals rfl
theorem KX [Known](s:Nat × List UInt8)(hb:s.2.length<=1000000):AQ Tryz.prog 106 [.ptr 0 0] (UC s) (.bool (((Z2 1 s).1:Int)==1)) (UC (Z2 1 s).2):=by
 have hM:=KW 1 s hb
 replace hM:AQ Tryz.prog _ [.ptr 0 0,.int .u64 1] _ _ _:=hM
 generalize Z2 1 s=p at *
 obtain⟨n,e,q⟩:=p
 obtain⟨e0,b⟩:=s
 dsimp only at hM ⊢
 refine AQ.weak (Zp Tryz.func106 Z Tryz.ntmps106 Z Z ?_)
 repeat'(first|(apply Zh [0] (hM);kernel_rfl;(iterate 7 exact Z))|(apply Zl Zb;exact Z)|(apply Zj Zb;exact Z))
 all_goals(apply Zw [0];(apply Zd Zb;exact Z);(iterate 4 exact Z))
 all_goals rfl
def Vj (s:Nat × List UInt8):List UInt8 × Nat × List UInt8:=match((ZA s).2.1:Int)==0 with
 | false=>([],(ZA s).2)
 | true=>match decide (((ZA s).1:Int)>((ZA s).2.2.length:Int)) with
  | true=>([],V4 8 (ZA s).2)
  | false=>((ZA s).2.2.take (ZA s).1,(ZA s).2.1,(ZA s).2.2.drop (ZA s).1)
theorem Vb (s:Nat × List UInt8):(Vj s).2.2.length<=s.2.length/\(Vj s).1.length<=s.2.length:=by
 have:=Yw s
 unfold Vj
 split
 ·exact⟨this,Nat.zero_le _⟩
 ·split
  ·exact⟨by show(V4 8 (ZA s).2).2.length<=_;rw[Jv];exact this,Nat.zero_le _⟩
  ·simp only[List.length_drop,List.length_take];omega
theorem KY [Known](s:Nat × List UInt8)(hb:s.2.length<=1000000):AQ Tryz.prog 74 [.ptr 0 0] (UC s) (byE (Vj s).1) (UC (Vj s).2):=by
 have hN:=Wd s hb
 have hlt:=Hz s
 have hle:=Yw s
 unfold Vj
 generalize ZA s=p at *
 obtain⟨n,e,q⟩:=p
 obtain⟨e0,b⟩:=s
 have hF:=Kr (e,q)
 have hX:=JZ (e,q) 8
 generalize V4 8 (e,q)=z at *
 obtain⟨z1,z2⟩:=z
 dsimp only at hN hX hF hb hlt hle ⊢
 replace hX:AQ Tryz.prog _ [.ptr 0 0,.int .i64 8] _ _ _:=hX
 have hql:(q.map E.byte).length=q.length:=List.length_map ..
 have e1:IntKind.u64.wrap (((q.map E.byte).length:Nat):Int)=(q.length:Int):=by rw[hql];exact IntWalk.u64_in _ (by omega)
 have hU:=YD q
 cases t1:(e:Int)==0 with
 | false=>
  rw[t1]at hF
  dsimp only
  refine AQ.weak (Zp Tryz.func74 Z Tryz.ntmps74 Z Z ?_)
  repeat'(first|(apply Zh [0] (hN);kernel_rfl;(iterate 7 exact Z))|(apply Zh [0] (hF);kernel_rfl;(iterate 7 exact Z))|(apply Zl Zb;exact Z)|(apply Zj Zb;exact Z)|(apply Zt Zb;exact Z)|refine Zf Z Qt ?_)
  all_goals(apply Zw [0];(apply Zd Zb;exact Z);(iterate 4 exact Z))
  all_goals rfl
 | true=>
  rw[t1]at hF
  cases t2:decide ((n:Int)>(q.length:Int)) with
  | true=>
   dsimp only
   refine AQ.weak (Zp Tryz.func74 Z Tryz.ntmps74 Z Z ?_)
   repeat'(first|rw[e1]|(apply Zh [0] (hN);kernel_rfl;(iterate 7 exact Z))|(apply Zh [0] (hF);kernel_rfl;(iterate 7 exact Z))|(apply Zh [0] (hX);kernel_rfl;(iterate 7 exact Z))|(apply Zl Zb;exact Z)|(apply Zj Zb;exact Z)|(apply Zt Zb;exact Z)|refine Zf Z Qt ?_|refine Zg Z Qt ?_|refine Zz Zb Z Z Z Z ?_)
   all_goals(apply Zw [0];(apply Zd Zb;exact Z);(iterate 4 exact Z))
   all_goals rfl
  | false=>
   have hnq:n<=q.length:=by have:=of_decide_eq_false t2;omega
   have hC:=Uz (q.take n) (by rw[List.length_take];omega)
   have hd:q.drop ((n:Nat):Int).toNat=q.drop n:=rfl
   have ht:q.take ((n:Nat):Int).toNat=q.take n:=rfl
   have hq2:((n:Nat):Int).toNat<=q.length:=hnq
   dsimp only
   refine AQ.weak (Zp Tryz.func74 Z Tryz.ntmps74 Z Z ?_)
   repeat'(first|rw[e1]|(apply Zh [0] (hN);kernel_rfl;(iterate 7 exact Z))|(apply Zh [0] (hF);kernel_rfl;(iterate 7 exact Z))|(apply Zc (hC);kernel_rfl;(iterate 4 exact Z))|(apply VR Zb;(iterate 8 exact Z);exact Qb;(first|with_reducible assumption|decide|(simp only[List.length_cons,List.length_drop,List.length_take,List.length_append,Int.toNat_natCast]at *;omega));(first|with_reducible assumption|exact Z))|(apply Hk Zb;(iterate 8 exact Z);exact Qb;(first|with_reducible assumption|decide|(simp only[List.length_cons,List.length_drop,List.length_take,List.length_append,Int.toNat_natCast]at *;omega));(first|with_reducible assumption|exact Z))|(apply Zl Zb;exact Z)|(apply Zj Zb;exact Z)|(apply Zt Zb;exact Z)|refine Zg Z Qt ?_|refine Zz Zb Z Z Z Z ?_)
   all_goals(apply Zw [0];(apply Zd Zb;exact Z);(iterate 4 exact Z))
   all_goals rfl
def Up (s:Nat × List UInt8):Nat:=match(s.1:Int)==0 with
 | false=>s.1
 | true=>match decide ((s.2.length:Int)>0) with|true=>2|false=>0
theorem W4 [Known](s:Nat × List UInt8):AQ Tryz.prog 75 [.ptr 0 0] (UC s) (.int .i64 (Up s:Int)) (UC s):=by
 obtain⟨e,q⟩:=s
 unfold Up
 have hql:(q.map E.byte).length=q.length:=List.length_map ..
 cases t1:(e:Int)==0 with
 | false=>
  have t2:((e:Int) != 0)=true:=by rw[bne,t1];rfl
  dsimp only
  refine AQ.weak (Zp Tryz.func75 Z Tryz.ntmps75 Z Z ?_)
  repeat'(first|(apply Zl Zb;exact Z)|(apply Zj Zb;exact Z)|(apply Zt Zb;exact Z)|refine Zi Z Z Z Qt ?_|refine Zn Z Qt Z Z ?_|refine Zf Z Qt ?_|refine Zg Z Qt ?_)
  all_goals(apply Zw [0];(apply Zd Zb;exact Z);(iterate 4 exact Z))
  all_goals rfl
 | true=>
  have t2:((e:Int) != 0)=false:=by rw[bne,t1];rfl
  cases t3:decide ((q.length:Int)>0)
  all_goals
   rw[<- hql]at t3
   dsimp only
   refine AQ.weak (Zp Tryz.func75 Z Tryz.ntmps75 Z Z ?_)
   repeat'(first|(apply Zl Zb;exact Z)|(apply Zj Zb;exact Z)|(apply Zt Zb;exact Z)|refine Zi Z Z Z Qt ?_|refine Zn Z Qt Z Z ?_|refine Zf Z Qt ?_|refine Zg Z Qt ?_|refine Zz Zb Z Z Z Z ?_)
   all_goals(apply Zw [0];(apply Zd Zb;exact Z);(iterate 4 exact Z))
   all_goals rfl
def Ve (x:RqV):List UInt8:=
 if x.kd==1||x.kd==3 then vn (ZC x.ep).length++(ZC x.ep++vn x.pol.toNat)
 else if x.kd==2||x.kd==6 then vn (ZC x.ep).length++ZC x.ep
 else if x.kd==4 then vn (ZC x.ep).length++(ZC x.ep++(vn (ZC x.ds).length++(ZC x.ds++(vn x.pay.length++(x.pay++(vn x.life++vn x.on.toNat))))))
 else if x.kd==5||(x.kd==8||x.kd==9) then vn x.num.toNat
 else if x.kd==7 then vn (ZC x.ep).length++(ZC x.ep++vn x.tik.toNat)
 else if x.kd==10 then vn x.on.toNat
 else if x.kd==12 then vn x.tok
 else []
def ZQ (x:RqV):List UInt8:=vn x.id++(vn x.kd.toNat++Ve x)
abbrev Rd:=Nat × List UInt8
def nmS (s:Rd):EidV × Rd:=((if(ZW (Vj s).1).2 then(ZW (Vj s).1).1 else Zx),(Vj s).2)
abbrev ZO (s:Rd):Nat × Rd:=Z2 1099511627776 s
def JQ (s:Rd):Bool × Rd:=(((Z2 1 s).1:Int)==1,(Z2 1 s).2)
def WR (k:Nat)(z:RqV)(s:Rd):RqV × Rd:=
 if k==1||k==3 then({ z with ep:=(nmS s).1,pol:=((ZO (nmS s).2).1:Int) },(ZO (nmS s).2).2)
 else if k==2||k==6 then({ z with ep:=(nmS s).1 },(nmS s).2)
 else if k==4 then
  ({ z with ep:=(nmS s).1,ds:=(nmS (nmS s).2).1,pay:=(Vj (nmS (nmS s).2).2).1,life:=(ZA (Vj (nmS (nmS s).2).2).2).1,on:=(JQ (ZA (Vj (nmS (nmS s).2).2).2).2).1 },(JQ (ZA (Vj (nmS (nmS s).2).2).2).2).2)
 else if k==5||(k==8||k==9) then({ z with num:=((ZO s).1:Int) },(ZO s).2)
 else if k==7 then({ z with ep:=(nmS s).1,tik:=((ZO (nmS s).2).1:Int) },(ZO (nmS s).2).2)
 else if k==10 then({ z with on:=(JQ s).1 },(JQ s).2)
 else if k==12 then({ z with tok:=(ZA s).1 },(ZA s).2)
 else(z,s)
abbrev N7 (id k:Nat):RqV:=⟨id,(k:Int),Zx,Zx,0,0,0,[],0,0,false⟩
def ZM (b:List UInt8):RqV × Rd:=WR (ZO (ZA (0,b)).2).1 (N7 (ZA (0,b)).1 (ZO (ZA (0,b)).2).1) (ZO (ZA (0,b)).2).2
def WI (b:List UInt8):Bool:=ZI (ZM b).1&&((Up (ZM b).2==0)&&(ZQ (ZM b).1==b))
theorem Xr {n:Nat}(hn:n<18446744073709551616)(r:List UInt8):ZA (0,vn n++r)=(n,0,r):=by
 have h:=Gl 9 n 0 0 r rfl (by simpa using hn) (by omega)
 have e:ZA (0,vn n++r)=rnF (vn n++r) 0 0:=rfl
 rw[e,vn,h]
 simp
theorem O8 {n top:Nat}(hn:n<18446744073709551616)(ht:n<=top)(r:List UInt8):Z2 top (0,vn n++r)=(n,0,r):=by
 unfold Z2
 rw[Xr hn]
 have:decide ((n:Int)>(top:Int))=false:=decide_eq_false (by omega)
 dsimp only
 rw[this]
theorem Gu {b:List UInt8}(hb:b.length<18446744073709551616)(r:List UInt8):Vj (0,vn b.length++(b++r))=(b,0,r):=by
 unfold Vj
 rw[Xr hb]
 have h1:decide ((b.length:Int)>((b++r).length:Int))=false:=decide_eq_false (by rw[List.length_append];omega)
 dsimp only
 rw[h1]
 simp
theorem O9 {x:EidV}(h:ZY x=true)(r:List UInt8):nmS (0,vn (ZC x).length++(ZC x++r))=(x,0,r):=by
 unfold nmS
 rw[Gu (by have:=Ws h;omega),Xo h]
 rfl
theorem Gv (b:Bool)(r:List UInt8):JQ (0,vn b.toNat++r)=(b,0,r):=by
 unfold JQ
 rw[O8 (by cases b<;>decide) (by cases b<;>decide)]
 cases b<;>rfl
theorem KZ {x:RqV}(h:ZI x=true):x.id<18446744073709551616/\VS x=true/\VF x (Jc x)=true:=by
 unfold ZI at h
 simp only[Bool.and_eq_true,decide_eq_true_eq]at h
 exact⟨by omega,h.2.2.1,h.2.2.2⟩
theorem HA {a b:RqV}(h:VF a b=true):a=b:=by
 unfold VF at h
 simp only[Bool.and_eq_true]at h
 obtain⟨h1,h2,h3,h4,h5,h6,h7,h8,h9,h10,h11⟩:=h
 have e3:=Kn.1 (by simpa only[eqE,Bool.and_eq_true]using h3)
 have e4:=Kn.1 (by simpa only[eqE,Bool.and_eq_true]using h4)
 simp only[beq_iff_eq]at h1 h2 h5 h6 h7 h8 h9 h10 h11
 obtain⟨i,k,e,d,p,n,t,y,l,o,w⟩:=a
 obtain⟨i',k',e',d',p',n',t',y',l',o',w'⟩:=b
 simp only at *
 simp only[RqV.mk.injEq]
 exact⟨by omega,h2,e3,e4,h5,h6,h7,h8,by omega,by omega,h11⟩
theorem Yx {x:EidV}(h:JP x=true):ZY x=true:=by
 unfold JP at h
 rw[Bool.and_eq_true]at h
 exact h.1
theorem HB {x:RqV}(h:ZI x=true)(r:List UInt8):ZM (ZQ x++r)=(x,0,r):=by
 have hk:=Uk h
 obtain⟨hid,hp,hs⟩:=KZ h
 have hs:=HA hs
 obtain⟨id,kd,ep,ds,pol,num,tik,pay,life,tok,on⟩:=x
 dsimp only at hk hid
 unfold VS at hp
 unfold Jc at hs
 unfold ZM ZQ
 dsimp only
 rw[List.append_assoc,Xr hid]
 dsimp only
 have hI:∀(n:Nat) (r:List UInt8),n<=1099511627776->ZO (0,vn n++r)=(n,0,r):=fun n r hn=>O8 (by omega) hn r
 rw[List.append_assoc,hI _ _ (by omega)]
 dsimp only
 rcases hk with rfl|rfl|rfl|rfl|rfl|rfl|rfl|rfl|rfl|rfl|rfl|rfl
 all_goals
  simp only[Int.reduceBEq,Bool.true_or,Bool.or_true,Bool.or_self,Bool.or_false,Bool.false_or,if_true,if_false,Bool.false_eq_true,Bool.and_eq_true,decide_eq_true_eq]at hp hs
  simp only[RqV.mk.injEq,true_and]at hs
  simp only[WR,Ve,Int.reduceToNat,Nat.reduceBEq,Int.reduceBEq,Bool.true_or,Bool.or_true,Bool.or_self,Bool.or_false,Bool.false_or,if_true,if_false,Bool.false_eq_true,List.append_assoc,List.nil_append]
  first
   | (rw[O9 (Yx hp.1)];dsimp only;rw[hI _ _ (by omega)];simp only[hs,Prod.mk.injEq,RqV.mk.injEq,true_and,and_true];omega)
   | (rw[O9 (Yx hp)];simp only[hs];rfl)
   | (rw[O9 (Yx hp.1)];dsimp only;rw[O9 (Yx hp.2.1)];dsimp only;rw[Gu (by omega)];dsimp only;rw[Xr (by omega)];dsimp only;rw[Gv];simp only[hs];rfl)
   | (rw[hI _ _ (by omega)];simp only[hs,Prod.mk.injEq,RqV.mk.injEq,true_and,and_true];omega)
   | (rw[Gv];simp only[hs];rfl)
   | (rw[Xr (by omega)];simp only[hs];rfl)
   | (simp only[hs];rfl)
   | skip
 all_goals done
theorem Tu {x:RqV}(h:ZI x=true):WI (ZQ x)=true/\ZM (ZQ x)=(x,0,[]):=by
 have g:=HB h []
 rw[List.append_nil]at g
 refine⟨?_,g⟩
 unfold WI
 rw[g]
 simp[h,Up]
def Jf {α β:Type}(ok:α->Bool)(get:α->β):List β->List α->List β × Nat
 | w,[]=>(w,0)
 | w,f::fs=>match ok f with
  | false=>(w,3)
  | true=>match decide (8<=w.length) with
   | true=>(w,5)
   | false=>Jf ok get (w++[get f]) fs
theorem IF {α β:Type}{ok:α->Bool}{get:α->β}{w:List β}{f:α}(fs:List α)(h:ok f=false):Jf ok get w (f::fs)=(w,3):=by
 rw[Jf,h]
theorem OH {α β:Type}{ok:α->Bool}{get:α->β}{w:List β}{f:α}(fs:List α)(h:ok f=true)(h8:8<=w.length):Jf ok get w (f::fs)=(w,5):=by
 rw[Jf,h,show decide (8<=w.length)=true from decide_eq_true h8]
theorem IG {α β:Type}{ok:α->Bool}{get:α->β}{w:List β}{f:α}(fs:List α)(h:ok f=true)(h8:¬ 8<=w.length):Jf ok get w (f::fs)=Jf ok get (w++[get f]) fs:=by
 rw[Jf,h,show decide (8<=w.length)=false from decide_eq_false h8]
def YJ (w:List RqV)(l:List (List UInt8)):List RqV × Nat:=Jf WI (fun f=>(ZM f).1) w l
theorem Jw (w:List RqV):YJ w []=(w,0):=rfl
theorem UD {w:List RqV}{f:List UInt8}(fs:List (List UInt8))(h:WI f=false):YJ w (f::fs)=(w,3):=IF fs h
theorem V5 {w:List RqV}{f:List UInt8}(fs:List (List UInt8))(h:WI f=true)(h8:8<=w.length):YJ w (f::fs)=(w,5):=OH fs h h8
theorem QC {w:List RqV}{f:List UInt8}(fs:List (List UInt8))(h:WI f=true)(h8:¬ 8<=w.length):YJ w (f::fs)=YJ (w++[(ZM f).1]) fs:=IG fs h h8
theorem X3 (a b:List (List UInt8)):∀ w,((YJ w a).2=0->YJ w (a++b)=YJ (YJ w a).1 b)/\((YJ w a).2 ≠ 0->YJ w (a++b)=YJ w a):=by
 induction a with
 | nil=>intro w;exact⟨fun _=>rfl,fun h=>(h rfl).elim⟩
 | cons f fs ih=>
  intro w
  rw[List.cons_append]
  cases h:WI f with
  | false=>
   rw[UD fs h,UD (fs++b) h]
   exact⟨fun e=>(nomatch e),fun _=>rfl⟩
  | true=>
   by_cases h8:8<=w.length
   ·rw[V5 fs h h8,V5 (fs++b) h h8]
    exact⟨fun e=>(nomatch e),fun _=>rfl⟩
   ·rw[QC fs h h8,QC (fs++b) h h8]
    exact ih _
theorem OI (l:List (List UInt8)):∀ w,w.length<=8->(YJ w l).1.length<=8:=by
 induction l with
 | nil=>intro w h;exact h
 | cons f fs ih=>
  intro w hw
  cases h:WI f with
  | false=>rw[UD fs h];exact hw
  | true=>
   by_cases h8:8<=w.length
   ·rw[V5 fs h h8];exact hw
   ·rw[QC fs h h8]
    exact ih _ (by rw[List.length_append];simp;omega)
def Ul (left:List UInt8)(w:List RqV)(b:List UInt8):List UInt8 × List RqV × Nat × Nat:=
 ((ZS (left++b)).2.1,(YJ w (ZS (left++b)).1).1,(if(YJ w (ZS (left++b)).1).2=0 then(ZS (left++b)).2.2 else(YJ w (ZS (left++b)).1).2),(ZS (left++b)).2.2)
theorem Xs (l:List UInt8)(w:List RqV)(b:List UInt8)(h:w.length<=8):(Ul l w b).2.1.length<=8:=OI _ _ h
theorem JL (b:List UInt8):∀ f ∈ (ZS b).1,f.length<=1000:=by
 fun_induction ZS b with
 | case1 b h=>simp
 | case2 b h h0=>simp
 | case3 b h h0 h1=>simp
 | case4 b h h0 h1 h2=>simp
 | case5 b h h0 h1 h2 r ih=>
  intro f hf
  rcases List.mem_cons.1 hf with rfl|hf
  ·simp only[List.length_drop,List.length_take];omega
  ·exact ih f hf
theorem K0 {p b left:List UInt8}{taken:Nat}(h2:(ZS p).2.2=0)(hl:(ZS p).2.1=left)(ht:(ZS p).1.length=taken) :
  ∃ fs0,fs0.length=taken/\ZS (p++b)=(fs0++(ZS (left++b)).1,(ZS (left++b)).2):=by
 have hA:=Ko p b
 unfold Xg at hA
 rw[if_pos h2,hl]at hA
 exact⟨_,ht,hA⟩
theorem IH {p b left:List UInt8}{w:List RqV}(h2:(ZS p).2.2=0)(hl:(ZS p).2.1=left)(h0:(Ul left w b).2.2.1=0) :
  (ZS (p++b)).2.2=0/\(ZS (p++b)).2.1=(Ul left w b).1/\(Ul left w b).2.2.2=0:=by
 obtain⟨fs0,_,hA⟩:=K0 (b:=b) h2 hl rfl
 rw[hA]
 unfold Ul at h0 ⊢
 by_cases g:(YJ w (ZS (left++b)).1).2=0
 ·rw[if_pos g]at h0
  exact⟨h0,rfl,h0⟩
 ·rw[if_neg g]at h0
  exact(g h0).elim
end Go.Proofs.YtchlgagdbflkmaaGreatDoor
end
