/- Package fields: numbers as bytes, plain. -/
import Derived.Test.YtkdpfkjlheajhaaGreatDoorE11
import Derived.Test.YtkdpfkjlheajhaaGreatDoorE12
import Derived.Laws.BitsAllLaws
import Derived.Test.YtkdpfkjlheajhaaGreatDoorE33
import Derived.Test.YtkdpfkjlheajhaaGreatDoorE24
set_option linter.unusedVariables false
set_option linter.unusedSimpArgs false
section
open Go.RowKit Go.Pl Go.Av
namespace Go.Proofs.YtkdpfkjlheajhaaGreatDoor
set_option maxHeartbeats 4000000
def vnF:Nat->Nat->List UInt8
 | 0,n=>[UInt8.ofNat n]
 | f+1,n=>if n>127 then UInt8.ofNat (n % 128+128)::vnF f (n/128) else [UInt8.ofNat n]
def vn (n:Nat):List UInt8:=vnF 9 n
theorem JP:∀ f n,(vnF f n).length<=f+1/\0<(vnF f n).length
 | 0,n=>by simp[vnF]
 | f+1,n=>by
  rw[vnF]
  split
  ·have:=JP f (n/128);simp;omega
  ·simp
def rnF:List UInt8->Nat->Nat->Nat × Nat × List UInt8
 | [],_,_=>(0,8,[])
 | c::r,i,a=>if i=10\/(i=9/\c.toNat>1)\/(c.toNat=0/\i>0) then(0,3,r)
  else if c.toNat<128 then(a+c.toNat % 128*2 ^ (7*i),0,r) else rnF r (i+1) (a+c.toNat % 128*2 ^ (7*i))
theorem MU:∀(f n i a:Nat) (r:List UInt8),i+f=9->n*2 ^ (7*i)<18446744073709551616->(i>0->n>0)->rnF (vnF f n++r) i a=(a+n*2 ^ (7*i),0,r)
 | 0,n,i,a,r,hi,hn,hp=>by
  obtain rfl:i=9:=by omega
  have h2:n<2:=by
   have:n*9223372036854775808<18446744073709551616:=hn
   omega
  have hp:=hp (by omega)
  obtain rfl:n=1:=by omega
  rw[vnF,List.cons_append,List.nil_append,rnF,if_neg (by decide),if_pos (by decide)]
  rfl
 | f+1,n,i,a,r,hi,hn,hp=>by
  rw[vnF]
  by_cases h:n>127
  ·rw[if_pos h,List.cons_append,rnF]
   have hc:(UInt8.ofNat (n % 128+128)).toNat=n % 128+128:=by rw[UInt8.toNat_ofNat'];omega
   rw[hc,if_neg (by omega),if_neg (by omega)]
   have hpow:2 ^ (7*(i+1))=128*2 ^ (7*i):=by rw[Nat.mul_add,Nat.pow_add,Nat.mul_comm]
   have hle:n/128*2 ^ (7*(i+1))<=n*2 ^ (7*i):=by
    rw[hpow,<- Nat.mul_assoc]
    exact Nat.mul_le_mul_right _ (by omega)
   rw[MU f (n/128) (i+1) _ r (by omega) (by omega) (by omega)]
   congr 1
   rw[hpow,Nat.add_assoc,show(n % 128+128) % 128=n % 128 by omega,<- Nat.mul_assoc,<- Nat.add_mul,show n % 128+n/128*128=n by omega]
  ·rw[if_neg h,List.cons_append,List.nil_append,rnF]
   have hc:(UInt8.ofNat n).toNat=n:=by rw[UInt8.toNat_ofNat'];omega
   rw[hc,if_neg (by omega),if_pos (by omega),Nat.mod_eq_of_lt (by omega)]
theorem TA:∀(b:List UInt8) (i a:Nat),(rnF b i a).2.2.length<=b.length
 | [],_,_=>by simp[rnF]
 | c::r,i,a=>by
  rw[rnF]
  split
  ·simp
  ·split
   ·simp
   ·have:=TA r (i+1) (a+c.toNat % 128*2 ^ (7*i));simp;omega
theorem MV:∀(b:List UInt8) (i a:Nat),a<2 ^ (7*i)->i<=10->(rnF b i a).1<18446744073709551616
 | [],_,_,_,_=>by simp[rnF]
 | c::r,i,a,ha,hi=>by
  rw[rnF]
  split
  ·simp
  ·rename_i h
   have hc:=c.toNat_lt
   have hpow:2 ^ (7*(i+1))=128*2 ^ (7*i):=by rw[Nat.mul_add,Nat.pow_add,Nat.mul_comm]
   have h1:a+c.toNat % 128*2 ^ (7*i)<2 ^ (7*(i+1)):=by
    rw[hpow]
    have:c.toNat % 128*2 ^ (7*i)<=127*2 ^ (7*i):=Nat.mul_le_mul_right _ (by omega)
    omega
   have h9:i<=9:=by omega
   split
   ·rcases Nat.lt_or_ge i 9 with h8|h8
    ·have:2 ^ (7*(i+1))<=2 ^ 63:=Nat.pow_le_pow_right (by decide) (by omega)
     show a+c.toNat % 128*2 ^ (7*i)<_
     omega
    ·obtain rfl:i=9:=by omega
     have hc1:c.toNat<=1:=by omega
     have h2:a<9223372036854775808:=ha
     show a+c.toNat % 128*9223372036854775808<_
     have:c.toNat % 128<=1:=by omega
     omega
   ·exact MV r (i+1) _ h1 (by omega)
theorem SH (a x k:Nat)(ha:a<2 ^ k):a ||| x*2 ^ k=a+x*2 ^ k:=by
 rw[Nat.or_comm,Nat.mul_comm,<- Nat.two_pow_add_eq_or_of_lt ha x];omega
theorem SI:∀ n:Nat,n<256->n &&& 127=n % 128:=by decide +kernel
theorem SJ:∀ n:Nat,n<256->(n &&& 128==0)=decide (n<128):=by decide +kernel
theorem Bo:∀ n:Nat,n<256->n ||| 128=n % 128+128:=by decide +kernel
theorem SK (c:UInt8):bits .and .u8 (c.toNat:Int) 127=((c.toNat % 128:Nat):Int):=by
 rw[<- SI _ c.toNat_lt]
 exact u8_and_nat _ 127 c.toNat_lt (by decide)
theorem SL (c:UInt8):bits .and .u8 (c.toNat:Int) 128=((c.toNat &&& 128:Nat):Int):=u8_and_nat _ 128 c.toNat_lt (by decide)
theorem Bp (c:UInt8):((bits .and .u8 (c.toNat:Int) 128)==0)=decide (c.toNat<128):=by
 rw[SL,<- SJ _ c.toNat_lt,Bool.eq_iff_iff,beq_iff_eq,beq_iff_eq]
 omega
theorem RR (n:Nat):IntKind.u8.wrap (n:Int)=((n % 256:Nat):Int):=by rw[IntKind.wrap_u8];omega
theorem Rm (n:Nat):bits .or .u8 (IntKind.u8.wrap (n:Int)) 128=((UInt8.ofNat (n % 128+128)).toNat:Int):=by
 have hc:(UInt8.ofNat (n % 128+128)).toNat=n % 128+128:=by rw[UInt8.toNat_ofNat'];omega
 rw[RR,hc]
 have:=u8_or_nat (n % 256) 128 (by omega) (by decide)
 rw[Bo _ (by omega),show n % 256 % 128=n % 128 by omega]at this
 exact this
theorem SM (n:Nat):(n:Int).fdiv (2 ^ min (Int.toNat 7) IntKind.u64.bits)=((n/128:Nat):Int):=by
 have e:(2 ^ min (Int.toNat 7) IntKind.u64.bits:Int)=128:=by decide
 rw[e,Int.fdiv_eq_ediv_of_nonneg _ (by omega)]
 omega
theorem Dc {a i:Nat}(c:UInt8)(ha:a<2 ^ (7*i))(hi:i<=9)(h9:i=9->c.toNat<=1):bits .or .u64 (a:Int) (IntKind.u64.wrap (IntKind.u64.wrap ((c.toNat % 128:Nat):Int)*2 ^ min (IntKind.i64.wrap (7*(i:Int))).toNat IntKind.u64.bits))=((a+c.toNat % 128*2 ^ (7*i):Nat):Int):=by
 have e0:IntKind.i64.wrap (7*(i:Int))=((7*i:Nat):Int):=by rw[IntWalk.i64_in _ (by omega)];omega
 have e1:min (7*i) IntKind.u64.bits=7*i:=Nat.min_eq_left (by show 7*i<=64;omega)
 have e2:IntKind.u64.wrap ((c.toNat % 128:Nat):Int)=((c.toNat % 128:Nat):Int):=IntWalk.u64_in _ (by omega)
 have e3:(((c.toNat % 128:Nat):Int)*2 ^ (7*i))=((c.toNat % 128*2 ^ (7*i):Nat):Int):=by simp
 have hlt:c.toNat % 128*2 ^ (7*i)<18446744073709551616/\a<18446744073709551616:=by
  rcases Nat.lt_or_ge i 9 with h8|h8
  ·have h1:2 ^ (7*i)<=2 ^ 56:=Nat.pow_le_pow_right (by decide) (by omega)
   have h2:c.toNat % 128*2 ^ (7*i)<=127*2 ^ 56:=Nat.mul_le_mul (by omega) h1
   omega
  ·obtain rfl:i=9:=by omega
   have:=h9 rfl
   have h2:a<9223372036854775808:=ha
   constructor
   ·show c.toNat % 128*9223372036854775808<_
    have:c.toNat % 128<=1:=by omega
    omega
   ·omega
 rw[e0,Int.toNat_natCast,e1,e2,e3,IntWalk.u64_in _ (by omega),u64_or_nat _ _ hlt.2 hlt.1,SH _ _ _ ha]
abbrev UJ (s:Nat × List UInt8):List (List D):=[[.int .i64 (s.1:Int),.bool true,byE s.2]]
theorem ZU [Known](b:List UInt8)(hb:b.length<=1000000):AQ Tryz.prog 68 [byE b] [] (.ptr 0 0) (UJ (0,b)):=by
 have hC:=Vp b (by omega)
 refine AQ.weak (Zl Tryz.func68 Z Tryz.ntmps68 Z Z ?_)
 repeat'(first|(apply Zb (hC);kernel_rfl;(iterate 4 exact Z))|(apply Zi Za;exact Z)|(apply Zg Za;exact Z))
 all_goals(apply Zs [0];(apply Zc Za;exact Z);(iterate 4 exact Z))
 all_goals rfl
theorem Iy [Known](s:Nat × List UInt8):AQ Tryz.prog 96 [.ptr 0 0] (UJ s) (.bool ((s.1:Int)==0)) (UJ s):=by
 obtain⟨e,b⟩:=s
 refine AQ.weak (Zl Tryz.func96 Z Tryz.ntmps96 Z Z ?_)
 repeat'(first|(apply Zi Za;exact Z)|(apply Zg Za;exact Z)|refine Ze Z Z Z Qt ?_|refine Zk Z Qt Z Z ?_)
 all_goals(apply Zs [0];(apply Zc Za;exact Z);(iterate 4 exact Z))
 all_goals rfl
def U6 (f:Nat)(s:Nat × List UInt8):Nat × List UInt8:=match(s.1:Int)==0 with|true=>(f,s.2)|false=>s
theorem X6 [Known](s:Nat × List UInt8)(f:Nat):AQ Tryz.prog 97 [.ptr 0 0,.int .i64 (f:Int)] (UJ s) (.tup []) (UJ (U6 f s)):=by
 obtain⟨e,b⟩:=s
 unfold U6
 cases t:(e:Int)==0
 all_goals
  dsimp only
  refine AQ.weak (Zl Tryz.func97 Z Tryz.ntmps97 Z Z ?_)
  repeat'(first|(apply Zg Za;exact Z)|refine Zd Z Qt ?_|refine Zf Z Qt ?_)
  all_goals refine RD [0] ResL.nil Z Z Z Z ?_ ?_
  all_goals rfl
def ZE (s:Nat × List UInt8):Nat × Nat × List UInt8:=match(s.1:Int)==0 with|true=>rnF s.2 0 0|false=>(0,s)
theorem Yq [Known](s:Nat × List UInt8)(hb:s.2.length<=1000000):AQ Tryz.prog 69 [.ptr 0 0] (UJ s) (.int .u64 ((ZE s).1:Int)) (UJ (ZE s).2):=by
 obtain⟨e,b⟩:=s
 have hF:=Iy (e,b)
 unfold ZE
 cases t:(e:Int)==0 with
 | false=>
  dsimp only at hF ⊢
  rw[t]at hF
  refine AQ.weak (Zl Tryz.func69 Z Tryz.ntmps69 Z Z ?_)
  repeat'(first|(apply Zg Za;exact Z))
  refine Yb (fun k tm bx fr=>tm=[(0,.ptr 0 0),(2,.int .u64 0),(3,.int .u64 0),(4,.int .i64 0)]/\bx=UJ (e,b)/\fr=[]) 1 (Lands.mk' (m:=0) (by omega) ⟨rfl,rfl,rfl⟩ ?_ rfl rfl rfl rfl rfl rfl) ?_
  ·exact .cons rfl (.cons rfl (.cons rfl (.cons rfl .nil)))
  rintro k tm bx fr ⟨rfl,rfl,rfl⟩
  repeat'(first|(apply Zh [0] (hF);kernel_rfl;(iterate 7 exact Z))|(apply Zi Za;exact Z)|(apply Zg Za;exact Z)|(apply Zu Za;exact Z)|refine Zf Z Qt ?_)
  all_goals(apply Zs [0];(apply Zc Za;exact Z);(iterate 4 exact Z))
  all_goals rfl
 | true=>
  dsimp only
  obtain rfl:e=0:=by simpa using t
  clear hF t
  generalize hR:rnF b 0 0=R
  obtain⟨R1,R2,R3⟩:=R
  dsimp only at hb ⊢
  refine AQ.weak (Zl Tryz.func69 Z Tryz.ntmps69 Z Z ?_)
  repeat'(first|(apply Zg Za;exact Z))
  refine Yb (fun k tm bx fr=>∃(i a:Nat) (q:List UInt8),k=q.length/\q.length<=1000000/\a<2 ^ (7*i)/\i<=10/\rnF q i a=(R1,R2,R3)/\tm=[(0,.ptr 0 0),(2,.int .u64 0),(3,.int .u64 (a:Int)),(4,.int .i64 (i:Int))]/\bx=[[.int .i64 0,.bool true,byE q]]/\fr=[]) (b.length+1) (Lands.mk' (m:=b.length) (by omega) ⟨0,0,b,rfl,hb,by decide,by omega,hR,rfl,rfl,rfl⟩ ?_ rfl rfl rfl rfl rfl rfl) ?_
  ·exact .cons rfl (.cons rfl (.cons rfl (.cons rfl .nil)))
  rintro k tm bx fr ⟨i,a,q,hk,hq,ha,hi,hr,rfl,rfl,rfl⟩
  have hF:=Iy (0,q)
  replace hF:AQ Tryz.prog _ [.ptr 0 0] [[.int .i64 0,.bool true,byE q]] (.bool true) [[.int .i64 0,.bool true,byE q]]:=hF
  cases q with
  | nil=>
   have hX:=X6 (0,[]) 8
   replace hX:AQ Tryz.prog _ [.ptr 0 0,.int .i64 8] [[.int .i64 0,.bool true,.sl .ext []]] (.tup []) [[.int .i64 8,.bool true,.sl .ext []]]:=hX
   rw[rnF]at hr
   cases hr
   repeat'(first|(apply Zh [0] (hF);kernel_rfl;(iterate 7 exact Z))|(apply Zh [0] (hX);kernel_rfl;(iterate 7 exact Z))|(apply Zi Za;exact Z)|(apply Zg Za;exact Z)|(apply Zu Za;exact Z)|refine Zd Z Qt ?_|refine Zt Za Z Z Z Z ?_)
   all_goals(apply Zs [0];(apply Zc Za;exact Z);(iterate 4 exact Z))
   all_goals rfl
  | cons c r=>
   have hX:=X6 (0,r) 3
   replace hX:AQ Tryz.prog _ [.ptr 0 0,.int .i64 3] [[.int .i64 0,.bool true,byE r]] (.tup []) [[.int .i64 3,.bool true,byE r]]:=hX
   have hU:=YH (c::r)
   have tL:((((c::r).map E.byte).length:Int)==0)=false:=by simp;omega
   have hdr:(c::r).drop (Int.toNat 1)=r:=rfl
   have e7:IntKind.i64.wrap ((i:Int)*7)=((7*i:Nat):Int):=by rw[IntWalk.i64_in _ (by omega)];omega
   have ei:IntKind.i64.wrap ((i:Int)+1)=((i+1:Nat):Int):=by rw[IntWalk.i64_in _ (by omega)];omega
   rw[rnF]at hr
   by_cases hbad:i=10\/(i=9/\c.toNat>1)\/(c.toNat=0/\i>0)
   ·rw[if_pos hbad]at hr
    cases hr
    by_cases h10:i=10
    ·have z1:((i:Int)==10)=true:=by simp;omega
     repeat'(first|(apply Zh [0] (hF);kernel_rfl;(iterate 7 exact Z))|(apply Zh [0] (hX);kernel_rfl;(iterate 7 exact Z))|(apply YW Za;(iterate 8 exact Z);exact Qb;(first|with_reducible assumption|decide|(simp only[List.length_cons,List.length_drop,List.length_take,List.length_append,Int.toNat_natCast]at *;omega));(first|with_reducible assumption|exact Z))|(apply Zi Za;exact Z)|(apply Zg Za;exact Z)|(apply Zu Za;exact Z)|refine Zp Z Z Z Qt ?_|refine Vm Z Z Z ?_|refine Zk Z Qt Z Z ?_|refine Zd Z Qt ?_|refine Zf Z Qt ?_|refine Zt Za Z Z Z Z ?_|(apply ZC Za;(iterate 6 exact Z);(first|exact Qt|rotate_left);(first|with_reducible assumption|decide +kernel|exact Z);(first|exact Zm rfl|with_reducible assumption|decide +kernel|rotate_left)))
     all_goals(apply Zs [0];(apply Zc Za;exact Z);(iterate 4 exact Z))
     all_goals rfl
    ·have z1:((i:Int)==10)=false:=by simp;omega
     by_cases h9:i=9/\c.toNat>1
     ·have z2:(((7*i:Nat):Int)==63)=true:=by simp;omega
      have z3:decide ((c.toNat:Int)>1)=true:=decide_eq_true (by omega)
      repeat'(first|rw[e7]|(apply Zh [0] (hF);kernel_rfl;(iterate 7 exact Z))|(apply Zh [0] (hX);kernel_rfl;(iterate 7 exact Z))|(apply YW Za;(iterate 8 exact Z);exact Qb;(first|with_reducible assumption|decide|(simp only[List.length_cons,List.length_drop,List.length_take,List.length_append,Int.toNat_natCast]at *;omega));(first|with_reducible assumption|exact Z))|(apply Zi Za;exact Z)|(apply Zg Za;exact Z)|(apply Zu Za;exact Z)|refine Ze Z Z Z Qt ?_|refine Zp Z Z Z Qt ?_|refine Vm Z Z Z ?_|refine Zk Z Qt Z Z ?_|refine Zj Z Qt Z Z ?_|refine Zd Z Qt ?_|refine Zf Z Qt ?_|refine Zt Za Z Z Z Z ?_|(apply ZC Za;(iterate 6 exact Z);(first|exact Qt|rotate_left);(first|with_reducible assumption|decide +kernel|exact Z);(first|exact Zm rfl|with_reducible assumption|decide +kernel|rotate_left)))
      all_goals(apply Zs [0];(apply Zc Za;exact Z);(iterate 4 exact Z))
      all_goals rfl
     ·have h0:c.toNat=0/\i>0:=by omega
      have z4:((c.toNat:Int)==0)=true:=by simp;omega
      have z5:decide ((i:Int)>0)=true:=decide_eq_true (by omega)
      by_cases h99:i=9
      ·have z2:(((7*i:Nat):Int)==63)=true:=by simp;omega
       have z3:decide ((c.toNat:Int)>1)=false:=decide_eq_false (by omega)
       repeat'(first|rw[e7]|(apply Zh [0] (hF);kernel_rfl;(iterate 7 exact Z))|(apply Zh [0] (hX);kernel_rfl;(iterate 7 exact Z))|(apply YW Za;(iterate 8 exact Z);exact Qb;(first|with_reducible assumption|decide|(simp only[List.length_cons,List.length_drop,List.length_take,List.length_append,Int.toNat_natCast]at *;omega));(first|with_reducible assumption|exact Z))|(apply Zi Za;exact Z)|(apply Zg Za;exact Z)|(apply Zu Za;exact Z)|refine Ze Z Z Z Qt ?_|refine Zk Z Qt Z Z ?_|refine Zj Z Qt Z Z ?_|refine Zd Z Qt ?_|refine Zf Z Qt ?_|refine Zt Za Z Z Z Z ?_|(apply ZC Za;(iterate 6 exact Z);(first|exact Qt|rotate_left);(first|with_reducible assumption|decide +kernel|exact Z);(first|exact Zm rfl|with_reducible assumption|decide +kernel|rotate_left)))
       all_goals(apply Zs [0];(apply Zc Za;exact Z);(iterate 4 exact Z))
       all_goals rfl
      ·have z2:(((7*i:Nat):Int)==63)=false:=by simp;omega
       repeat'(first|rw[e7]|(apply Zh [0] (hF);kernel_rfl;(iterate 7 exact Z))|(apply Zh [0] (hX);kernel_rfl;(iterate 7 exact Z))|(apply YW Za;(iterate 8 exact Z);exact Qb;(first|with_reducible assumption|decide|(simp only[List.length_cons,List.length_drop,List.length_take,List.length_append,Int.toNat_natCast]at *;omega));(first|with_reducible assumption|exact Z))|(apply Zi Za;exact Z)|(apply Zg Za;exact Z)|(apply Zu Za;exact Z)|refine Ze Z Z Z Qt ?_|refine Zv Z Z Z Qt ?_|refine Zk Z Qt Z Z ?_|refine Zj Z Qt Z Z ?_|refine Zd Z Qt ?_|refine Zf Z Qt ?_|refine Zt Za Z Z Z Z ?_|(apply ZC Za;(iterate 6 exact Z);(first|exact Qt|rotate_left);(first|with_reducible assumption|decide +kernel|exact Z);(first|exact Zm rfl|with_reducible assumption|decide +kernel|rotate_left)))
       all_goals(apply Zs [0];(apply Zc Za;exact Z);(iterate 4 exact Z))
       all_goals rfl
   ·rw[if_neg hbad]at hr
    have z1:((i:Int)==10)=false:=by simp;omega
    have eor:=Dc (a:=a) (i:=i) c ha (by omega) (by omega)
    have e127:=SK c
    have h0s:0<=IntKind.i64.wrap (7*(i:Int)):=by rw[IntWalk.i64_in _ (by omega)];omega
    have e128:=Bp c
    have ha2:a+c.toNat % 128*2 ^ (7*i)<2 ^ (7*(i+1)):=by
     have hpow:2 ^ (7*(i+1))=128*2 ^ (7*i):=by rw[Nat.mul_add,Nat.pow_add,Nat.mul_comm]
     rw[hpow]
     have:c.toNat % 128*2 ^ (7*i)<=127*2 ^ (7*i):=Nat.mul_le_mul_right _ (by omega)
     omega
    generalize a+c.toNat % 128*2 ^ (7*i)=a2 at *
    by_cases h128:c.toNat<128
    ·rw[if_pos h128]at hr
     cases hr
     have z6:((bits .and .u8 (c.toNat:Int) 128)==0)=true:=by rw[e128];exact decide_eq_true h128
     by_cases h9:i=9
     ·have z2:(((7*i:Nat):Int)==63)=true:=by simp;omega
      have z3:decide ((c.toNat:Int)>1)=false:=decide_eq_false (by omega)
      have z4:((c.toNat:Int)==0)=false:=by simp;omega
      repeat'(first|rw[e7]|rw[e127]|rw[eor]|(apply Zh [0] (hF);kernel_rfl;(iterate 7 exact Z))|(apply YW Za;(iterate 8 exact Z);exact Qb;(first|with_reducible assumption|decide|(simp only[List.length_cons,List.length_drop,List.length_take,List.length_append,Int.toNat_natCast]at *;omega));(first|with_reducible assumption|exact Z))|(apply Zi Za;exact Z)|(apply Zg Za;exact Z)|(apply Zu Za;exact Z)|refine Ze Z Z Z Qt ?_|refine Zv Z Z Z Qt ?_|refine Zk Z Qt Z Z ?_|refine Zj Z Qt Z Z ?_|refine Zd Z Qt ?_|refine Zf Z Qt ?_|refine Zt Za Z Z Z Z ?_|(apply ZC Za;(iterate 6 exact Z);(first|exact Qt|rotate_left);(first|with_reducible assumption|decide +kernel|exact Z);(first|exact Zm rfl|with_reducible assumption|decide +kernel|rotate_left))|(apply Qc;exact Z;exact Z;(first|exact Qt|rotate_left);exact Z))
      all_goals(apply Zs [0];(apply Zc Za;exact Z);(iterate 4 exact Z))
      all_goals rfl
     ·have z2:(((7*i:Nat):Int)==63)=false:=by simp;omega
      by_cases h0:c.toNat=0
      ·have z4:((c.toNat:Int)==0)=true:=by simp;omega
       have z5:decide ((i:Int)>0)=false:=decide_eq_false (by omega)
       repeat'(first|rw[e7]|rw[e127]|rw[eor]|(apply Zh [0] (hF);kernel_rfl;(iterate 7 exact Z))|(apply YW Za;(iterate 8 exact Z);exact Qb;(first|with_reducible assumption|decide|(simp only[List.length_cons,List.length_drop,List.length_take,List.length_append,Int.toNat_natCast]at *;omega));(first|with_reducible assumption|exact Z))|(apply Zi Za;exact Z)|(apply Zg Za;exact Z)|(apply Zu Za;exact Z)|refine Ze Z Z Z Qt ?_|refine Zv Z Z Z Qt ?_|refine Zk Z Qt Z Z ?_|refine Zj Z Qt Z Z ?_|refine Zd Z Qt ?_|refine Zf Z Qt ?_|refine Zt Za Z Z Z Z ?_|(apply ZC Za;(iterate 6 exact Z);(first|exact Qt|rotate_left);(first|with_reducible assumption|decide +kernel|exact Z);(first|exact Zm rfl|with_reducible assumption|decide +kernel|rotate_left))|(apply Qc;exact Z;exact Z;(first|exact Qt|rotate_left);exact Z))
       all_goals(apply Zs [0];(apply Zc Za;exact Z);(iterate 4 exact Z))
       all_goals rfl
      ·have z4:((c.toNat:Int)==0)=false:=by simp;omega
       repeat'(first|rw[e7]|rw[e127]|rw[eor]|(apply Zh [0] (hF);kernel_rfl;(iterate 7 exact Z))|(apply YW Za;(iterate 8 exact Z);exact Qb;(first|with_reducible assumption|decide|(simp only[List.length_cons,List.length_drop,List.length_take,List.length_append,Int.toNat_natCast]at *;omega));(first|with_reducible assumption|exact Z))|(apply Zi Za;exact Z)|(apply Zg Za;exact Z)|(apply Zu Za;exact Z)|refine Ze Z Z Z Qt ?_|refine Zv Z Z Z Qt ?_|refine Zj Z Qt Z Z ?_|refine Zd Z Qt ?_|refine Zf Z Qt ?_|refine Zt Za Z Z Z Z ?_|(apply ZC Za;(iterate 6 exact Z);(first|exact Qt|rotate_left);(first|with_reducible assumption|decide +kernel|exact Z);(first|exact Zm rfl|with_reducible assumption|decide +kernel|rotate_left))|(apply Qc;exact Z;exact Z;(first|exact Qt|rotate_left);exact Z))
       all_goals(apply Zs [0];(apply Zc Za;exact Z);(iterate 4 exact Z))
       all_goals rfl
    ·rw[if_neg h128]at hr
     have z6:((bits .and .u8 (c.toNat:Int) 128)==0)=false:=by rw[e128];exact decide_eq_false h128
     have z4:((c.toNat:Int)==0)=false:=by simp;omega
     by_cases h9:i=9
     ·exfalso;omega
     ·have z2:(((7*i:Nat):Int)==63)=false:=by simp;omega
      repeat'(first|rw[e7]|rw[e127]|rw[eor]|rw[ei]|(apply Zh [0] (hF);kernel_rfl;(iterate 7 exact Z))|(apply YW Za;(iterate 8 exact Z);exact Qb;(first|with_reducible assumption|decide|(simp only[List.length_cons,List.length_drop,List.length_take,List.length_append,Int.toNat_natCast]at *;omega));(first|with_reducible assumption|exact Z))|(apply Zi Za;exact Z)|(apply Zg Za;exact Z)|(apply Zu Za;exact Z)|refine Ze Z Z Z Qt ?_|refine Zv Z Z Z Qt ?_|refine Zj Z Qt Z Z ?_|refine Zd Z Qt ?_|refine Zf Z Qt ?_|refine Zt Za Z Z Z Z ?_|(apply ZC Za;(iterate 6 exact Z);(first|exact Qt|rotate_left);(first|with_reducible assumption|decide +kernel|exact Z);(first|exact Zm rfl|with_reducible assumption|decide +kernel|rotate_left))|(apply Qc;exact Z;exact Z;(first|exact Qt|rotate_left);exact Z))
      refine Lands.mk' (m:=r.length) (by rw[hk];simp) ⟨i+1,a2,r,rfl,by simp at hq;omega,ha2,by omega,hr,rfl,rfl,rfl⟩ ?_ rfl rfl rfl rfl rfl rfl
      exact .cons rfl (.cons rfl (.cons rfl (.cons rfl .nil)))
theorem Z9 (s:Nat × List UInt8):(ZE s).2.2.length<=s.2.length:=by
 unfold ZE
 split
 ·exact TA _ _ _
 ·exact Nat.le_refl _
theorem Rn (s:Nat × List UInt8):(ZE s).1<18446744073709551616:=by
 unfold ZE
 split
 ·exact MV _ _ _ (by decide) (by omega)
 ·show 0<_;omega
def Yv (top:Nat)(s:Nat × List UInt8):Nat × Nat × List UInt8:=match decide (((ZE s).1:Int)>(top:Int)) with|true=>(0,U6 3 (ZE s).2)|false=>ZE s
theorem O2 (f:Nat)(s:Nat × List UInt8):(U6 f s).2=s.2:=by unfold U6;split<;>rfl
theorem O3 (top:Nat)(s:Nat × List UInt8):(Yv top s).2.2.length<=s.2.length:=by
 have:=Z9 s
 unfold Yv
 split
 ·show(U6 3 (ZE s).2).2.length<=_;rw[O2];exact this
 ·exact this
theorem MW (top:Nat)(s:Nat × List UInt8):(Yv top s).1<=top:=by
 unfold Yv
 split
 ·exact Nat.zero_le _
 ·rename_i h;have:=of_decide_eq_false h;omega
theorem GN [Known](top:Nat)(s:Nat × List UInt8)(hb:s.2.length<=1000000):AQ Tryz.prog 98 [.ptr 0 0,.int .u64 (top:Int)] (UJ s) (.int .u64 ((Yv top s).1:Int)) (UJ (Yv top s).2):=by
 have hN:=Yq s hb
 unfold Yv
 generalize ZE s=p at *
 obtain⟨n,e,q⟩:=p
 obtain⟨e0,b⟩:=s
 have hX:=X6 (e,q) 3
 generalize U6 3 (e,q)=z at *
 obtain⟨z1,z2⟩:=z
 dsimp only at hN hX ⊢
 replace hX:AQ Tryz.prog _ [.ptr 0 0,.int .i64 3] _ _ _:=hX
 cases t:decide ((n:Int)>(top:Int))
 all_goals
  dsimp only
  refine AQ.weak (Zl Tryz.func98 Z Tryz.ntmps98 Z Z ?_)
  repeat'(first|(apply Zh [0] (hN);kernel_rfl;(iterate 7 exact Z))|(apply Zh [0] (hX);kernel_rfl;(iterate 7 exact Z))|(apply Zi Za;exact Z)|(apply Zg Za;exact Z)|refine Zd Z Qt ?_|refine Zf Z Qt ?_)
  all_goals(apply Zs [0];(apply Zc Za;exact Z);(iterate 4 exact Z))
  all_goals rfl
theorem Yk [Known](s:Nat × List UInt8)(hb:s.2.length<=1000000):AQ Tryz.prog 70 [.ptr 0 0] (UJ s) (.int .i64 ((Yv 1099511627776 s).1:Int)) (UJ (Yv 1099511627776 s).2):=by
 have hM:=GN 1099511627776 s hb
 have hl:=MW 1099511627776 s
 replace hM:AQ Tryz.prog _ [.ptr 0 0,.int .u64 1099511627776] _ _ _:=hM
 generalize Yv 1099511627776 s=p at *
 obtain⟨n,e,q⟩:=p
 obtain⟨e0,b⟩:=s
 dsimp only at hM hl ⊢
 have e1:IntKind.i64.wrap (n:Int)=(n:Int):=IntWalk.i64_in _ (by omega)
 refine AQ.weak (Zl Tryz.func70 Z Tryz.ntmps70 Z Z ?_)
 repeat'(first|rw[e1]|(apply Zh [0] (hM);kernel_rfl;(iterate 7 exact Z))|(apply Zi Za;exact Z)|(apply Zg Za;exact Z))
 all_goals(apply Zs [0];(apply Zc Za;exact Z);(iterate 4 exact Z))
 all_goals rfl
theorem GO [Known](s:Nat × List UInt8)(hb:s.2.length<=1000000):AQ Tryz.prog 100 [.ptr 0 0] (UJ s) (.bool (((Yv 1 s).1:Int)==1)) (UJ (Yv 1 s).2):=by
 have hM:=GN 1 s hb
 replace hM:AQ Tryz.prog _ [.ptr 0 0,.int .u64 1] _ _ _:=hM
 generalize Yv 1 s=p at *
 obtain⟨n,e,q⟩:=p
 obtain⟨e0,b⟩:=s
 dsimp only at hM ⊢
 refine AQ.weak (Zl Tryz.func100 Z Tryz.ntmps100 Z Z ?_)
 repeat'(first|(apply Zh [0] (hM);kernel_rfl;(iterate 7 exact Z))|(apply Zi Za;exact Z)|(apply Zg Za;exact Z))
 all_goals(apply Zs [0];(apply Zc Za;exact Z);(iterate 4 exact Z))
 all_goals rfl
def Vc (s:Nat × List UInt8):List UInt8 × Nat × List UInt8:=match((ZE s).2.1:Int)==0 with
 | false=>([],(ZE s).2)
 | true=>match decide (((ZE s).1:Int)>((ZE s).2.2.length:Int)) with
  | true=>([],U6 8 (ZE s).2)
  | false=>((ZE s).2.2.take (ZE s).1,(ZE s).2.1,(ZE s).2.2.drop (ZE s).1)
theorem Qz (s:Nat × List UInt8):(Vc s).2.2.length<=s.2.length/\(Vc s).1.length<=s.2.length:=by
 have:=Z9 s
 unfold Vc
 split
 ·exact⟨this,Nat.zero_le _⟩
 ·split
  ·exact⟨by show(U6 8 (ZE s).2).2.length<=_;rw[O2];exact this,Nat.zero_le _⟩
  ·simp only[List.length_drop,List.length_take];omega
theorem JQ [Known](s:Nat × List UInt8)(hb:s.2.length<=1000000):AQ Tryz.prog 72 [.ptr 0 0] (UJ s) (byE (Vc s).1) (UJ (Vc s).2):=by
 have hN:=Yq s hb
 have hlt:=Rn s
 have hle:=Z9 s
 unfold Vc
 generalize ZE s=p at *
 obtain⟨n,e,q⟩:=p
 obtain⟨e0,b⟩:=s
 have hF:=Iy (e,q)
 have hX:=X6 (e,q) 8
 generalize U6 8 (e,q)=z at *
 obtain⟨z1,z2⟩:=z
 dsimp only at hN hX hF hb hlt hle ⊢
 replace hX:AQ Tryz.prog _ [.ptr 0 0,.int .i64 8] _ _ _:=hX
 have hql:(q.map E.byte).length=q.length:=List.length_map ..
 have e1:IntKind.u64.wrap (((q.map E.byte).length:Nat):Int)=(q.length:Int):=by rw[hql];exact IntWalk.u64_in _ (by omega)
 have hU:=YH q
 cases t1:(e:Int)==0 with
 | false=>
  rw[t1]at hF
  dsimp only
  refine AQ.weak (Zl Tryz.func72 Z Tryz.ntmps72 Z Z ?_)
  repeat'(first|(apply Zh [0] (hN);kernel_rfl;(iterate 7 exact Z))|(apply Zh [0] (hF);kernel_rfl;(iterate 7 exact Z))|(apply Zi Za;exact Z)|(apply Zg Za;exact Z)|(apply Zu Za;exact Z)|refine Zd Z Qt ?_)
  all_goals(apply Zs [0];(apply Zc Za;exact Z);(iterate 4 exact Z))
  all_goals rfl
 | true=>
  rw[t1]at hF
  cases t2:decide ((n:Int)>(q.length:Int)) with
  | true=>
   dsimp only
   refine AQ.weak (Zl Tryz.func72 Z Tryz.ntmps72 Z Z ?_)
   repeat'(first|rw[e1]|(apply Zh [0] (hN);kernel_rfl;(iterate 7 exact Z))|(apply Zh [0] (hF);kernel_rfl;(iterate 7 exact Z))|(apply Zh [0] (hX);kernel_rfl;(iterate 7 exact Z))|(apply Zi Za;exact Z)|(apply Zg Za;exact Z)|(apply Zu Za;exact Z)|refine Zd Z Qt ?_|refine Zf Z Qt ?_|refine Zt Za Z Z Z Z ?_)
   all_goals(apply Zs [0];(apply Zc Za;exact Z);(iterate 4 exact Z))
   all_goals rfl
  | false=>
   have hnq:n<=q.length:=by have:=of_decide_eq_false t2;omega
   have hC:=Vp (q.take n) (by rw[List.length_take];omega)
   have hd:q.drop ((n:Nat):Int).toNat=q.drop n:=rfl
   have ht:q.take ((n:Nat):Int).toNat=q.take n:=rfl
   have hq2:((n:Nat):Int).toNat<=q.length:=hnq
   dsimp only
   refine AQ.weak (Zl Tryz.func72 Z Tryz.ntmps72 Z Z ?_)
   repeat'(first|rw[e1]|(apply Zh [0] (hN);kernel_rfl;(iterate 7 exact Z))|(apply Zh [0] (hF);kernel_rfl;(iterate 7 exact Z))|(apply Zb (hC);kernel_rfl;(iterate 4 exact Z))|(apply YW Za;(iterate 8 exact Z);exact Qb;(first|with_reducible assumption|decide|(simp only[List.length_cons,List.length_drop,List.length_take,List.length_append,Int.toNat_natCast]at *;omega));(first|with_reducible assumption|exact Z))|(apply Lu Za;(iterate 8 exact Z);exact Qb;(first|with_reducible assumption|decide|(simp only[List.length_cons,List.length_drop,List.length_take,List.length_append,Int.toNat_natCast]at *;omega));(first|with_reducible assumption|exact Z))|(apply Zi Za;exact Z)|(apply Zg Za;exact Z)|(apply Zu Za;exact Z)|refine Zf Z Qt ?_|refine Zt Za Z Z Z Z ?_)
   all_goals(apply Zs [0];(apply Zc Za;exact Z);(iterate 4 exact Z))
   all_goals rfl
def WI (s:Nat × List UInt8):Nat:=match(s.1:Int)==0 with
 | false=>s.1
 | true=>match decide ((s.2.length:Int)>0) with|true=>2|false=>0
theorem YD [Known](s:Nat × List UInt8):AQ Tryz.prog 73 [.ptr 0 0] (UJ s) (.int .i64 (WI s:Int)) (UJ s):=by
 obtain⟨e,q⟩:=s
 unfold WI
 have hql:(q.map E.byte).length=q.length:=List.length_map ..
 cases t1:(e:Int)==0 with
 | false=>
  have t2:((e:Int) != 0)=true:=by rw[bne,t1];rfl
  dsimp only
  refine AQ.weak (Zl Tryz.func73 Z Tryz.ntmps73 Z Z ?_)
  repeat'(first|(apply Zi Za;exact Z)|(apply Zg Za;exact Z)|(apply Zu Za;exact Z)|refine Ze Z Z Z Qt ?_|refine Zj Z Qt Z Z ?_|refine Zd Z Qt ?_|refine Zf Z Qt ?_)
  all_goals(apply Zs [0];(apply Zc Za;exact Z);(iterate 4 exact Z))
  all_goals rfl
 | true=>
  have t2:((e:Int) != 0)=false:=by rw[bne,t1];rfl
  cases t3:decide ((q.length:Int)>0)
  all_goals
   rw[<- hql]at t3
   dsimp only
   refine AQ.weak (Zl Tryz.func73 Z Tryz.ntmps73 Z Z ?_)
   repeat'(first|(apply Zi Za;exact Z)|(apply Zg Za;exact Z)|(apply Zu Za;exact Z)|refine Ze Z Z Z Qt ?_|refine Zj Z Qt Z Z ?_|refine Zd Z Qt ?_|refine Zf Z Qt ?_|refine Zt Za Z Z Z Z ?_)
   all_goals(apply Zs [0];(apply Zc Za;exact Z);(iterate 4 exact Z))
   all_goals rfl
def WL (x:RqV):List UInt8:=
 if x.kd==1||x.kd==3 then vn (ZO x.ep).length++(ZO x.ep++vn x.pol.toNat)
 else if x.kd==2||x.kd==6 then vn (ZO x.ep).length++ZO x.ep
 else if x.kd==4 then vn (ZO x.ep).length++(ZO x.ep++(vn (ZO x.ds).length++(ZO x.ds++(vn x.pay.length++(x.pay++(vn x.life++vn x.on.toNat))))))
 else if x.kd==5||(x.kd==8||x.kd==9) then vn x.num.toNat
 else if x.kd==7 then vn (ZO x.ep).length++(ZO x.ep++vn x.tik.toNat)
 else if x.kd==10 then vn x.on.toNat
 else if x.kd==12 then vn x.tok
 else []
def ZQ (x:RqV):List UInt8:=vn x.id++(vn x.kd.toNat++WL x)
abbrev Rd:=Nat × List UInt8
def nmS (s:Rd):EidV × Rd:=((if(VK (Vc s).1).2 then(VK (Vc s).1).1 else ZN),(Vc s).2)
abbrev ZP (s:Rd):Nat × Rd:=Yv 1099511627776 s
def GP (s:Rd):Bool × Rd:=(((Yv 1 s).1:Int)==1,(Yv 1 s).2)
def Iz (k:Nat)(z:RqV)(s:Rd):RqV × Rd:=
 if k==1||k==3 then({ z with ep:=(nmS s).1,pol:=((ZP (nmS s).2).1:Int) },(ZP (nmS s).2).2)
 else if k==2||k==6 then({ z with ep:=(nmS s).1 },(nmS s).2)
 else if k==4 then
  ({ z with ep:=(nmS s).1,ds:=(nmS (nmS s).2).1,pay:=(Vc (nmS (nmS s).2).2).1,life:=(ZE (Vc (nmS (nmS s).2).2).2).1,on:=(GP (ZE (Vc (nmS (nmS s).2).2).2).2).1 },(GP (ZE (Vc (nmS (nmS s).2).2).2).2).2)
 else if k==5||(k==8||k==9) then({ z with num:=((ZP s).1:Int) },(ZP s).2)
 else if k==7 then({ z with ep:=(nmS s).1,tik:=((ZP (nmS s).2).1:Int) },(ZP (nmS s).2).2)
 else if k==10 then({ z with on:=(GP s).1 },(GP s).2)
 else if k==12 then({ z with tok:=(ZE s).1 },(ZE s).2)
 else(z,s)
abbrev Dd (id k:Nat):RqV:=⟨id,(k:Int),ZN,ZN,0,0,0,[],0,0,false⟩
def Yn (b:List UInt8):RqV × Rd:=Iz (ZP (ZE (0,b)).2).1 (Dd (ZE (0,b)).1 (ZP (ZE (0,b)).2).1) (ZP (ZE (0,b)).2).2
def Uc (b:List UInt8):Bool:=Yj (Yn b).1&&((WI (Yn b).2==0)&&(ZQ (Yn b).1==b))
theorem QA {n:Nat}(hn:n<18446744073709551616)(r:List UInt8):ZE (0,vn n++r)=(n,0,r):=by
 have h:=MU 9 n 0 0 r rfl (by simpa using hn) (by omega)
 have e:ZE (0,vn n++r)=rnF (vn n++r) 0 0:=rfl
 rw[e,vn,h]
 simp
theorem IA {n top:Nat}(hn:n<18446744073709551616)(ht:n<=top)(r:List UInt8):Yv top (0,vn n++r)=(n,0,r):=by
 unfold Yv
 rw[QA hn]
 have:decide ((n:Int)>(top:Int))=false:=decide_eq_false (by omega)
 dsimp only
 rw[this]
theorem IB {b:List UInt8}(hb:b.length<18446744073709551616)(r:List UInt8):Vc (0,vn b.length++(b++r))=(b,0,r):=by
 unfold Vc
 rw[QA hb]
 have h1:decide ((b.length:Int)>((b++r).length:Int))=false:=decide_eq_false (by rw[List.length_append];omega)
 dsimp only
 rw[h1]
 simp
theorem TB {x:EidV}(h:Yh x=true)(r:List UInt8):nmS (0,vn (ZO x).length++(ZO x++r))=(x,0,r):=by
 unfold nmS
 rw[IB (by have:=Y4 h;omega),HG h]
 rfl
theorem MX (b:Bool)(r:List UInt8):GP (0,vn b.toNat++r)=(b,0,r):=by
 unfold GP
 rw[IA (by cases b<;>decide) (by cases b<;>decide)]
 cases b<;>rfl
theorem JR {x:RqV}(h:Yj x=true):x.id<18446744073709551616/\Vx x=true/\Us x (XF x)=true:=by
 unfold Yj at h
 simp only[Bool.and_eq_true,decide_eq_true_eq]at h
 exact⟨by omega,h.2.2.1,h.2.2.2⟩
theorem TC {a b:RqV}(h:Us a b=true):a=b:=by
 unfold Us at h
 simp only[Bool.and_eq_true]at h
 obtain⟨h1,h2,h3,h4,h5,h6,h7,h8,h9,h10,h11⟩:=h
 have e3:=H9.1 (by simpa only[eqE,Bool.and_eq_true]using h3)
 have e4:=H9.1 (by simpa only[eqE,Bool.and_eq_true]using h4)
 simp only[beq_iff_eq]at h1 h2 h5 h6 h7 h8 h9 h10 h11
 obtain⟨i,k,e,d,p,n,t,y,l,o,w⟩:=a
 obtain⟨i',k',e',d',p',n',t',y',l',o',w'⟩:=b
 simp only at *
 simp only[RqV.mk.injEq]
 exact⟨by omega,h2,e3,e4,h5,h6,h7,h8,by omega,by omega,h11⟩
theorem Yo {x:EidV}(h:Kw x=true):Yh x=true:=by
 unfold Kw at h
 rw[Bool.and_eq_true]at h
 exact h.1
theorem Ro {x:RqV}(h:Yj x=true)(r:List UInt8):Yn (ZQ x++r)=(x,0,r):=by
 have hk:=X5 h
 obtain⟨hid,hp,hs⟩:=JR h
 have hs:=TC hs
 obtain⟨id,kd,ep,ds,pol,num,tik,pay,life,tok,on⟩:=x
 dsimp only at hk hid
 unfold Vx at hp
 unfold XF at hs
 unfold Yn ZQ
 dsimp only
 rw[List.append_assoc,QA hid]
 dsimp only
 have hI:∀(n:Nat) (r:List UInt8),n<=1099511627776->ZP (0,vn n++r)=(n,0,r):=fun n r hn=>IA (by omega) hn r
 rw[List.append_assoc,hI _ _ (by omega)]
 dsimp only
 rcases hk with rfl|rfl|rfl|rfl|rfl|rfl|rfl|rfl|rfl|rfl|rfl|rfl
 all_goals
  simp only[Int.reduceBEq,Bool.true_or,Bool.or_true,Bool.or_self,Bool.or_false,Bool.false_or,if_true,if_false,Bool.false_eq_true,Bool.and_eq_true,decide_eq_true_eq]at hp hs
  simp only[RqV.mk.injEq,true_and]at hs
  simp only[Iz,WL,Int.reduceToNat,Nat.reduceBEq,Int.reduceBEq,Bool.true_or,Bool.or_true,Bool.or_self,Bool.or_false,Bool.false_or,if_true,if_false,Bool.false_eq_true,List.append_assoc,List.nil_append]
  first
   | (rw[TB (Yo hp.1)];dsimp only;rw[hI _ _ (by omega)];simp only[hs,Prod.mk.injEq,RqV.mk.injEq,true_and,and_true];omega)
   | (rw[TB (Yo hp)];simp only[hs];rfl)
   | (rw[TB (Yo hp.1)];dsimp only;rw[TB (Yo hp.2.1)];dsimp only;rw[IB (by omega)];dsimp only;rw[QA (by omega)];dsimp only;rw[MX];simp only[hs];rfl)
   | (rw[hI _ _ (by omega)];simp only[hs,Prod.mk.injEq,RqV.mk.injEq,true_and,and_true];omega)
   | (rw[MX];simp only[hs];rfl)
   | (rw[QA (by omega)];simp only[hs];rfl)
   | (simp only[hs];rfl)
   | skip
 all_goals done
theorem SN {x:RqV}(h:Yj x=true):Uc (ZQ x)=true/\Yn (ZQ x)=(x,0,[]):=by
 have g:=Ro h []
 rw[List.append_nil]at g
 refine⟨?_,g⟩
 unfold Uc
 rw[g]
 simp[h,WI]
end Go.Proofs.YtkdpfkjlheajhaaGreatDoor
end
