/- Package head over abstract states. -/
import Derived.Test.YtkdpfkjlheajhaaGreatDoorE13
import Derived.Test.YtkdpfkjlheajhaaGreatDoorE11
import Derived.Test.YtkdpfkjlheajhaaGreatDoorE09
import Derived.Test.YtkdpfkjlheajhaaGreatDoorE14
import Derived.Test.YtkdpfkjlheajhaaGreatDoorE17
set_option linter.unusedVariables false
set_option linter.unusedSimpArgs false
section
open Go.RowKit Go.Pl Go.Av
namespace Go.Proofs.YtkdpfkjlheajhaaGreatDoor
set_option maxHeartbeats 4000000
theorem Oz [Known](n:Nat):AP Tryz.prog 228 [.int .u64 (n:Int)] (.int .i64 (ZH n)) []:=by
 refine Zl Tryz.func228 rfl Tryz.ntmps228 rfl rfl ?_
 repeat'(first|(apply Zg Za;exact Z)|(apply Zu Za;exact Z)|(apply WZ;exact Z;all_goals intro hb))
 all_goals refine XP (.cons _ _ _ _ (.tmp _ _ rfl) .nil) (ZI _) rfl ?_ rfl
 all_goals simp only[decide_eq_true_eq,decide_eq_false_iff_not]at *
 all_goals(congr 1;unfold ZH;(repeat' split)<;>omega)
theorem Md [Known](m:Int):AP Tryz.prog 219 [.int .i64 m] (.bool (J6 m)) []:=by
 refine Zl Tryz.func219 rfl Tryz.ntmps219 rfl rfl ?_
 repeat'(first|(apply Zi Za;exact Z)|(apply Zg Za;exact Z)|(apply Ze;(iterate 3 exact Z);(first|with_reducible assumption|(solve|simp only[bn])))|(apply Zv;(iterate 3 exact Z);(first|with_reducible assumption|(solve|simp only[bn])))|(apply Zp;(iterate 3 exact Z);(first|with_reducible assumption|(solve|simp only[bn])))|(apply YF;exact Z;exact Z;all_goals intro hb)|(apply Zk;exact Z;(first|with_reducible assumption|(solve|simp only[bn]));exact Z;exact Z)|(apply Zj;exact Z;(first|with_reducible assumption|(solve|simp only[bn]));exact Z;exact Z))
 all_goals refine XP (.cons _ _ _ _ (.tmp _ _ rfl) .nil) (ZI _) rfl ?_ rfl
 all_goals(congr 1;rw[Bool.eq_iff_iff];simp[J6]at *;omega)
def hd (h:Hd):D:=.agg [.int .i64 h.1,.int .u64 (h.2.1:Int),.bool h.2.2]
theorem Me [Known](h:Hd):AP Tryz.prog 226 [hd h] (.bool (Ye h)) []:=by
 refine Zl Tryz.func226 rfl Tryz.ntmps226 rfl rfl ?_
 repeat'(first|(apply VX (Md _);kernel_rfl;(iterate 4 exact Z))|(apply Zi Za;exact Z)|(apply Zg Za;exact Z)|(apply Ze;(iterate 3 exact Z);(first|with_reducible assumption|(solve|simp only[bn])))|(apply Zv;(iterate 3 exact Z);(first|with_reducible assumption|(solve|simp only[bn])))|(apply YF;exact Z;exact Z;all_goals intro hb)|(apply Zk;exact Z;(first|with_reducible assumption|(solve|simp only[bn]));exact Z;exact Z)|(apply Zj;exact Z;(first|with_reducible assumption|(solve|simp only[bn]));exact Z;exact Z)|(apply WZ;exact Z;all_goals intro hb)|refine VF Za Z Z Z Z Qk Qk Z Z Z ?_)
 all_goals refine XP (.cons _ _ _ _ (.tmp _ _ rfl) .nil) (ZI _) rfl ?_ rfl
 all_goals(obtain⟨m,n,o⟩:=h;congr 1;rw[Bool.eq_iff_iff];simp_all [Ye,J6];try omega)
theorem LG (n:Nat):(ZH n=0/\YK n=n/\n<24)\/(ZH n=1/\YK n=24)\/(ZH n=2/\YK n=25)\/(ZH n=4/\YK n=26)\/(ZH n=8/\YK n=27):=by
 unfold ZH YK
 by_cases h1:n<24
 ·simp[h1]
 by_cases h2:n<256
 ·simp[h1,h2]
 by_cases h3:n<65536
 ·simp[h1,h2,h3]
 by_cases h4:n<4294967296
 ·simp[h1,h2,h3,h4]
 ·simp[h1,h2,h3,h4]
theorem LH [Known](n:Nat):AP Tryz.prog 227 [.int .u64 (n:Int)] (.int .u8 (YK n)) []:=by
 refine Zl Tryz.func227 rfl Tryz.ntmps227 rfl rfl ?_
 repeat'(first|(apply VX (Oz _);kernel_rfl;(iterate 4 exact Z))|(apply Zi Za;exact Z)|(apply Zg Za;exact Z)|(apply Zu Za;exact Z)|(apply WZ;exact Z;all_goals intro hb))
 all_goals refine XP (.cons _ _ _ _ (.tmp _ _ rfl) .nil) (ZI _) rfl ?_ rfl
 all_goals(rcases LG n with⟨h1,h2,h3⟩ | ⟨h1,h2⟩ | ⟨h1,h2⟩ | ⟨h1,h2⟩ | ⟨h1,h2⟩<;>simp_all)
 all_goals(rw[IntKind.wrap_u8'];omega)
theorem Gn (m:Int)(i:Nat)(hm:0<=m/\m<=7)(hi:i<32):bits .or .u8 (IntKind.u8.wrap (IntKind.u8.wrap m*2 ^ min (Int.toNat 5) IntKind.u8.bits)) (i:Int)=((Vq m.toNat i).toNat:Int):=by
 have e2:IntKind.u8.wrap (IntKind.u8.wrap m*2 ^ min (Int.toNat 5) IntKind.u8.bits)=(m.toNat:Int)*32:=by
  rw[show min (Int.toNat 5) IntKind.u8.bits=5 from rfl,IntKind.wrap_u8',IntKind.wrap_u8'];omega
 rw[e2,BN m.toNat i (by omega) hi]
 unfold Vq
 rw[UInt8.toNat_ofNat']
 omega
theorem LI {h:Hd}(hr:Ye h=true):0<=h.1/\h.1<=7:=by
 obtain⟨m,n,o⟩:=h
 cases o<;>simp[Ye,J6]at hr<;>omega
theorem LJ (n q:Nat)(hq:q<8):E.int .u8 (IntKind.u8.wrap ((n:Int).fdiv (2 ^ min (IntKind.i64.wrap (8*(q:Int))).toNat IntKind.u64.bits)))=E.byte (UInt8.ofNat (n/256 ^ q)):=by
 have e:IntKind.i64.wrap (8*(q:Int))=((8*q:Nat):Int):=by rw[IntWalk.i64_in _ (by omega)];omega
 rw[e,Int.toNat_natCast,show min (8*q) IntKind.u64.bits=8*q from Nat.min_eq_left (by show 8*q<=64;omega)]
 rw[show((n:Int).fdiv (2 ^ (8*q)))=((n/256 ^ q:Nat):Int) from by
  have e:(2:Int) ^ (8*q)=((256 ^ q:Nat):Int):=by
   rw[show(256:Nat)=2 ^ 8 from rfl,<- Nat.pow_mul]
   simp
  rw[e,Int.fdiv_eq_ediv_of_nonneg _ (Int.natCast_nonneg _),<- Int.natCast_ediv]]
 rw[IntKind.wrap_u8']
 unfold E.byte
 rw[UInt8.toNat_ofNat']
 congr 1
theorem Gp [Known](h:Hd)(hn:h.2.1<18446744073709551616):AP Tryz.prog 209 [hd h] (.tup [byE (if Ye h then Z8 h else []),.int .i64 (if Ye h then 0 else 3)]) []:=by
 refine AP.weak ?_
 have HR:=@LI h
 have HN:=hid hn
 clear hn
 refine Zl Tryz.func209 rfl Tryz.ntmps209 rfl rfl ?_
 repeat'(first|(apply VX (Me h);kernel_rfl;(iterate 4 exact Z))|(apply VX (LH _);kernel_rfl;(iterate 4 exact Z))|(apply VX (Oz _);kernel_rfl;(iterate 4 exact Z))|refine Qc Z Z (by decide) Z ?_|(apply Zi Za;exact Z)|(apply Zg Za;exact Z)|(apply Zu Za;exact Z)|(apply WZ;exact Z;all_goals intro hb)|refine Oj Za Z Z Z Z Z Z Z Z Z Z Z Z ?_|(apply Z2 7 ZF;decide +kernel;kernel_rfl;kernel_rfl;exact Z;exact Z)|(apply Yi;(iterate 3 exact Z))|refine AD.nil _|exact YE rfl)
 ·refine R8 (.cons _ _ _ _ (.tmp _ _ rfl) (.cons _ _ _ _ (.tmp _ _ rfl) .nil)) rfl ?_
  simp_all [byE]
 ·refine R8 (.cons _ _ _ _ (.tmp _ _ rfl) (.cons _ _ _ _ (.tmp _ _ rfl) .nil)) rfl ?_
  have hr:Ye h=true:=by simpa using(‹(!Ye h)=false›)
  rw[if_pos hr,if_pos hr,show Z8 h=[Vq h.1.toNat 31] by simp[Z8,hb],show E.int IntKind.u8 (bits .or .u8 (IntKind.u8.wrap (IntKind.u8.wrap h.1*2 ^ min (Int.toNat 5) IntKind.u8.bits)) 31)=E.byte (Vq h.1.toNat 31) from congrArg _ (Gn h.1 31 (HR hr) (by omega))]
  rfl
 rename_i hb1
 have hr:Ye h=true:=by simpa using hb1
 have hw:Z8 h=Vq h.1.toNat (YK h.2.1)::beN h.2.1 (ZH h.2.1):=by simp[Z8,hb]
 have hlen:(beN h.2.1 (ZH h.2.1)).length=ZH h.2.1:=YQ _ _
 have hf8:=Kl h.2.1
 refine Yb (fun k tm bx fr=>∃(i c:Nat) (L:List E),k+i=ZH h.2.1/\c=L.length/\c=i+1/\L=((Z8 h).take (i+1)).map E.byte/\tm=[(33,.int .i64 (i:Int)),(32,.int .i64 (ZH h.2.1:Int)),(5,.int .i64 (ZH h.2.1:Int)),(4,.sl (.own 0) L),(3,.int .i64 0),(1,.ptr 0 0)]/\bx=[[.int .i64 h.1,.int .u64 (h.2.1:Int),.bool h.2.2]]/\fr=[⟨c,1,5⟩]) (ZH h.2.1+1) (Lands.mk' (m:=ZH h.2.1) (Nat.lt_succ_self _) ⟨0,1,[E.byte (Vq h.1.toNat (YK h.2.1))],rfl,rfl,rfl,by rw[hw];rfl,rfl,rfl,rfl⟩ ?_ rfl rfl rfl rfl rfl rfl) ?_
 ·repeat'(first|exact Av.Sub.nil|refine Av.Sub.cons rfl ?_|refine Av.Sub.cons ?_ ?_)
  have e:=congrArg (fun x:Int=>D.sl (.own 0) [E.int .u8 x]) (Gn h.1 (YK h.2.1) (HR hr) (by have:=Gd h.2.1;omega))
  exact e
 rintro k tm bx fr ⟨i,c,L,hk,hc,hi,hL,rfl,rfl,rfl⟩
 have hU:Uni 1 L:=hL ▸ YH _
 repeat'(first|(apply YB;exact Z;exact Z;rotate_left;exact Z)|(apply Zi Za;exact Z)|(apply Zg Za;exact Z)|(apply WZ;exact Z;all_goals intro hb)|refine Oj Za Z Z Z Z Z Z Z Z Z Z Z Z ?_|(apply Z4 Za;(iterate 6 exact Z);(first|with_reducible assumption|exact Z|rotate_left);exact Z;exact Z;(first|exact Zm rfl|with_reducible assumption|rotate_left);(first|exact Zm rfl|with_reducible assumption|rotate_left);(first|exact Qb|rotate_left);(first|exact Qb|rotate_left);(first|exact Qb|rotate_left);exact Z;exact Z))
 ·have hlt:i<ZH h.2.1:=by have:=of_decide_eq_true hb;omega
  have hx:IntKind.i64.wrap (IntKind.i64.wrap (↑(ZH h.2.1)-1) - ↑i)=((ZH h.2.1-1-i:Nat):Int):=by
   rw[IntWalk.i64_in ((ZH h.2.1:Int)-1) (by omega),IntWalk.i64_in _ (by omega)];omega
  refine Lands.mk' (m:=k-1) (by omega) ⟨i+1,L.length+1,L++[E.byte (UInt8.ofNat (h.2.1/256 ^ (ZH h.2.1-1-i)))],by omega,by simp,by omega,?_,rfl,rfl,rfl⟩ ?_ rfl rfl rfl rfl rfl rfl
  ·rw[hL,hw,List.take_succ_cons,List.take_succ_cons,Q4 _ _ _ hlt]
   simp
  ·refine .cons ?_ (.cons rfl (.cons rfl (.cons ?_ (.cons rfl (.cons rfl .nil)))))
   ·exact congrArg (D.int .i64) (IntWalk.i64_in _ (by omega))
   ·have e:=congrArg (fun x=>D.sl (.own 0) (L++[x])) (LJ h.2.1 (ZH h.2.1-1-i) (by omega))
    rw[<- hx]at e
    exact e
 ·have:=of_decide_eq_true hb;show L.length+1<=maxLen;unfold maxLen;omega
 ·have:=of_decide_eq_true hb;show(L.length+1)*1<=140737488355328;omega
 ·have:=of_decide_eq_true hb
  have hx:IntKind.i64.wrap (IntKind.i64.wrap (↑(ZH h.2.1)-1) - ↑i)=((ZH h.2.1-1-i:Nat):Int):=by
   rw[IntWalk.i64_in ((ZH h.2.1:Int)-1) (by omega),IntWalk.i64_in _ (by omega)];omega
  rw[hx,IntWalk.i64_in _ (by omega)];omega
 ·refine R8 (.cons _ _ _ _ (.tmp _ _ rfl) (.cons _ _ _ _ (.tmp _ _ rfl) .nil)) rfl ?_
  rw[if_pos hr,if_pos hr,hL]
  have:=of_decide_eq_false hb
  rw[List.take_of_length_le (by rw[hw,List.length_cons,hlen];omega)]
def rdD (r:Hd × Nat × Nat):D:=.tup [hd r.1,.int .i64 (r.2.1:Int),.int .i64 (r.2.2:Int)]
theorem Mf (b:List UInt8)(p:Int)(h0:0<=p)(h1:p<(b.length:Int)):∃ c r,b.drop p.toNat=c::r/\r.length+p.toNat+1=b.length/\(b.map E.byte)[p.toNat]?=some (E.byte c)/\∀ j:Nat,j<r.length->(b.map E.byte)[p.toNat+1+j]?=(r.map E.byte)[j]? := by
 have h:p.toNat<b.length:=by omega
 refine⟨b[p.toNat],b.drop (p.toNat+1),List.drop_eq_getElem_cons h,by rw[List.length_drop];omega,by simp[h],fun j hj=>by simp[List.getElem?_drop]⟩
theorem BT (c:UInt8):((c.toNat:Int)).fdiv (2 ^ min (Int.toNat 5) IntKind.u8.bits)=((c.toNat/32:Nat):Int):=by
 rw[show min (Int.toNat 5) IntKind.u8.bits=5 from rfl,Int.fdiv_eq_ediv_of_nonneg _ (by decide)]
 omega
theorem Io {b:List UInt8}{p:Nat}{c:UInt8}{r:List UInt8}(h:b.drop p=c::r)(h1:c.toNat % 32<24):YT b p=((((c.toNat/32:Nat):Int),c.toNat % 32,false),p+1,0):=by
 unfold YT;rw[h];simp only;rw[if_pos h1]
theorem Hj {b:List UInt8}{p:Nat}{c:UInt8}{r:List UInt8}(h:b.drop p=c::r)(h1:c.toNat % 32=31)(h2:J6 (c.toNat/32:Nat)=true):YT b p=((((c.toNat/32:Nat):Int),0,true),p+1,0):=by
 unfold YT;rw[h];simp only;rw[if_neg (by omega),if_pos ⟨h1,h2⟩]
theorem T5 {b:List UInt8}{p:Nat}{c:UInt8}{r:List UInt8}(h:b.drop p=c::r)(h1:27<c.toNat % 32)(h2:c.toNat % 32=31->J6 (c.toNat/32:Nat)=false):YT b p=((0,0,false),0,3):=by
 unfold YT;rw[h];simp only;rw[if_neg (by omega),if_neg (fun hh=>by have:=h2 hh.1;rw[hh.2]at this;cases this),if_pos h1]
theorem Gq {b:List UInt8}{p:Nat}{c:UInt8}{r:List UInt8}(h:b.drop p=c::r)(h1:¬ c.toNat % 32<24)(h2:¬ 27<c.toNat % 32)(h3:r.length<2 ^ (c.toNat % 32-24)):YT b p=((0,0,false),0,8):=by
 unfold YT;rw[h];simp only;rw[if_neg h1,if_neg (by omega),if_neg h2,if_pos h3]
theorem Hk {b:List UInt8}{p:Nat}{c:UInt8}{r:List UInt8}(h:b.drop p=c::r)(h1:¬ c.toNat % 32<24)(h2:¬ 27<c.toNat % 32)(h3:¬ r.length<2 ^ (c.toNat % 32-24)):YT b p=((((c.toNat/32:Nat):Int),WO (r.take (2 ^ (c.toNat % 32-24))),false),p+1+2 ^ (c.toNat % 32-24),0):=by
 unfold YT;rw[h];simp only;rw[if_neg h1,if_neg (by omega),if_neg h2,if_neg h3]
theorem Mg (v:Nat)(h:¬ v<24)(h':¬ 27<v):IntKind.i64.wrap (1*2 ^ min (IntKind.u8.wrap ((v:Int)-24)).toNat IntKind.i64.bits)=((2 ^ (v-24):Nat):Int)/\2 ^ (v-24)<=8:=by
 obtain rfl|rfl|rfl|rfl:v=24\/v=25\/v=26\/v=27:=by omega
 all_goals decide
theorem LK [Known](b:List UInt8)(p:Int)(hb:b.length<=4611686018427387904):AP Tryz.prog 193 [byE b,.int .i64 p] (rdD (Kn b p)) []:=by
 have HB:=hid hb
 clear hb
 have HU:=YH b
 refine Zl Tryz.func193 rfl Tryz.ntmps193 rfl rfl ?_
 repeat'(first|(apply Zi Za;exact Z)|(apply Zg Za;exact Z)|(apply Zu Za;exact Z)|(apply Ze;(iterate 3 exact Z);(first|with_reducible assumption|(solve|simp only[bn])))|(apply Zp;(iterate 3 exact Z);(first|with_reducible assumption|(solve|simp only[bn])))|(apply YF;exact Z;exact Z;all_goals intro hb)|(apply Zk;exact Z;(first|with_reducible assumption|(solve|simp only[bn]));exact Z;exact Z)|(apply Zj;exact Z;(first|with_reducible assumption|(solve|simp only[bn]));exact Z;exact Z)|(apply Zd;exact Z;(first|with_reducible assumption|(solve|simp only[bn])))|(apply WZ;exact Z;all_goals intro hb)|refine Zt Za Z Z Z Z ?_)
 ·(apply XP (ts:=[]);(apply Zc Za;exact Z);exact ZI _;exact Z;rotate_left;exact Z)
  have:p<0:=of_decide_eq_true hb
  rw[show Kn b p=_ from if_pos (.inl this)];rfl
 ·(apply XP (ts:=[]);(apply Zc Za;exact Z);exact ZI _;exact Z;rotate_left;exact Z)
  have:p>((b.map E.byte).length:Int):=of_decide_eq_true hb
  rw[List.length_map]at this
  rw[show Kn b p=_ from if_pos (.inr this)];rfl
 ·(apply XP (ts:=[]);(apply Zc Za;exact Z);exact ZI _;exact Z;rotate_left;exact Z)
  have:p=((b.map E.byte).length:Int):=by simpa using hb
  rw[List.length_map]at this
  have hd:b.drop p.toNat=[]:=by rw[List.drop_eq_nil_iff];omega
  rw[show Kn b p=YT b p.toNat from if_neg (by omega)]
  unfold YT
  rw[hd];rfl
 rename_i g1 g2
 have h0:0<=p:=by have:=of_decide_eq_false g1;omega
 have h1:p<(b.length:Int):=by
  have a1:=of_decide_eq_false g2
  rw[List.length_map]at a1 hb
  have a2:p ≠ (b.length:Int):=by simpa using hb
  omega
 obtain⟨c,r,hd,hl,hv,hr⟩:=Mf b p h0 h1
 have HH:=hid (show Kn b p=YT b p.toNat from if_neg (by omega))
 have HD:=hid hd
 have HL:=hid hl
 have HR:=hid hr
 have e1:IntKind.i64.wrap ((c.toNat/32:Nat):Int)=((c.toNat/32:Nat):Int):=IntWalk.i64_in _ (by have:=c.toNat_lt;omega)
 have e2:IntKind.u64.wrap ((c.toNat % 32:Nat):Int)=((c.toNat % 32:Nat):Int):=by rw[IntKind.wrap_u64];omega
 have e3:IntKind.i64.wrap (p+1)=((p.toNat+1:Nat):Int):=by have:=HB.out;rw[IntWalk.i64_in _ (by omega)];omega
 clear hb g1 g2 hd hl hr
 repeat'(first|rw[SX c]|rw[BT c]|rw[e1]|rw[e2]|rw[e3]|(apply VX (Md _);kernel_rfl;(iterate 4 exact Z))|(apply Zi Za;exact Z)|(apply Zg Za;exact Z)|(apply Zu Za;exact Z)|(apply Ze;(iterate 3 exact Z);(first|with_reducible assumption|(solve|simp only[bn])))|(apply Zv;(iterate 3 exact Z);(first|with_reducible assumption|(solve|simp only[bn])))|(apply YF;exact Z;exact Z;all_goals intro hb)|(apply Zk;exact Z;(first|with_reducible assumption|(solve|simp only[bn]));exact Z;exact Z)|(apply Zj;exact Z;(first|with_reducible assumption|(solve|simp only[bn]));exact Z;exact Z)|(apply Zf;exact Z;(first|with_reducible assumption|(solve|simp only[bn])))|(apply WZ;exact Z;all_goals intro hb)|refine Zt Za Z Z Z Z ?_|(apply ZC Za;(iterate 6 exact Z);(first|exact Qb|rotate_left);(first|with_reducible assumption|exact Z);(first|exact Zm rfl|with_reducible assumption|rotate_left))|(apply YB;exact Z;exact Z;(first|exact Qb|rotate_left);exact Z)|(apply Qc;exact Z;exact Z;(first|exact Qb|rotate_left);exact Z))
 ·(apply XP (ts:=[]);(apply Zc Za;exact Z);exact ZI _;exact Z;rotate_left;exact Z)
  rw[HH.out,Io HD.out (by have:=of_decide_eq_true hb;omega)];rfl
 ·(apply XP (ts:=[]);(apply Zc Za;exact Z);exact ZI _;exact Z;rotate_left;exact Z)
  rw[HH.out,Hj HD.out (by have:=of_decide_eq_false (‹decide _=false›);simp at *;omega) hb];rfl
 iterate 2
  ·(apply XP (ts:=[]);(apply Zc Za;exact Z);exact ZI _;exact Z;rotate_left;exact Z)
   rw[HH.out,T5 HD.out (by have:=of_decide_eq_true hb;omega) (by intro hh;first|assumption|simp_all)];rfl
  ·(apply XP (ts:=[]);(apply Zc Za;exact Z);exact ZI _;exact Z;rotate_left;exact Z)
   have g1:=of_decide_eq_true hb
   have g2:=of_decide_eq_false (‹decide (((c.toNat % 32:Nat):Int)>27)=false›)
   have g3:=of_decide_eq_false (‹decide (((c.toNat % 32:Nat):Int)<24)=false›)
   have g4:=Mg (c.toNat % 32) (by omega) (by omega)
   have g5:=HL.out
   have g6:=HB.out
   rw[g4.1,List.length_map,IntWalk.i64_in _ (by omega)]at g1
   rw[HH.out,Gq HD.out (by omega) (by omega) (by omega)];rfl
  ·have g1:=of_decide_eq_false hb
   have g2:=of_decide_eq_false (‹decide (((c.toNat % 32:Nat):Int)>27)=false›)
   have g3:=of_decide_eq_false (‹decide (((c.toNat % 32:Nat):Int)<24)=false›)
   have g4:=Mg (c.toNat % 32) (by omega) (by omega)
   have g5:=HL.out
   have g6:=HB.out
   rw[g4.1,List.length_map,IntWalk.i64_in _ (by omega)]at g1
   rw[g4.1]
   have g7:=HH.out.trans (Hk HD.out (by omega) (by omega) (by omega))
   generalize 2 ^ (c.toNat % 32-24)=m at g1 g4 g7 ⊢
   have g8:=g4.2
   have G7:=hid g7
   clear hb g2 g3 g4 g7
   refine Yb (fun k tm bx fr=>∃ i,k+i=m/\tm=[(75,.int .i64 (i:Int)),(74,.int .i64 (m:Int)),(9,.int .i64 (m:Int)),(7,.ptr 1 0),(1,.int .i64 ((p.toNat+1:Nat):Int)),(0,byE b),(4,.ptr 0 0)]/\bx=[[.int .i64 0,.int .u64 0,.bool false],[.int .i64 ((c.toNat/32:Nat):Int),.int .u64 (WO (r.take i):Nat),.bool false]]/\fr=[]) (m+1) (Lands.mk' (m:=m) (Nat.lt_succ_self _) ⟨0,rfl,rfl,rfl,rfl⟩ ?_ rfl rfl rfl rfl rfl rfl) ?_
   ·repeat'(first|exact Av.Sub.nil|refine Av.Sub.cons rfl ?_)
   rintro k tm bx fr ⟨i,hk,rfl,rfl,rfl⟩
   rcases Nat.lt_or_ge i m with hlt|hge
   ·have hd:decide ((i:Int)<(m:Int))=true:=by simp;omega
    have hir:i<r.length:=by omega
    have hv':(b.map E.byte)[((p.toNat+1+i:Nat):Int).toNat]?=some (E.byte r[i]):=by
     rw[Int.toNat_natCast,HR.out i hir];simp[hir]
    have e4:IntKind.i64.wrap (((p.toNat+1:Nat):Int)+(i:Int))=((p.toNat+1+i:Nat):Int):=by rw[IntWalk.i64_in _ (by omega)];omega
    have e7:IntKind.i64.wrap ((i:Int)+1)=((i+1:Nat):Int):=by rw[IntWalk.i64_in _ (by omega)];omega
    have e6:IntKind.u64.wrap ((r[i].toNat:Nat):Int)=((r[i].toNat:Nat):Int):=by have:=r[i].toNat_lt;rw[IntKind.wrap_u64];omega
    have e5:bits .or .u64 (IntKind.u64.wrap (((WO (r.take i):Nat):Int)*2 ^ min (Int.toNat 8) IntKind.u64.bits)) ((r[i].toNat:Nat):Int)=((WO (r.take (i+1)):Nat):Int):=by
     have h9:=Hc (WO (r.take i)) r[i] (K5 r i (by omega))
     rw[show((2:Int) ^ min (Int.toNat 8) IntKind.u64.bits)=256 from rfl,h9.1,h9.2,TX r i hir]
    repeat'(first|rw[e4]|rw[e5]|rw[e6]|rw[e7]|(apply Zi Za;exact Z)|(apply Zg Za;exact Z)|(apply Zd;exact Z;(first|with_reducible assumption|(solve|simp only[bn])))|(apply Z2 10 ZF;decide +kernel;kernel_rfl;kernel_rfl;exact Z;exact Z)|(apply Yi;(iterate 3 exact Z))|refine AD.nil _|exact YE rfl|(apply ZC Za;(iterate 6 exact Z);(first|exact Qb|rotate_left);(first|with_reducible assumption|exact Z);(first|exact Zm rfl|with_reducible assumption|rotate_left))|(apply Qc;exact Z;exact Z;(first|exact Qb|rotate_left);exact Z))
    refine Lands.mk' (m:=k-1) (by omega) ⟨i+1,by omega,rfl,rfl,rfl⟩ ?_ rfl rfl rfl rfl rfl rfl
    repeat'(first|exact Av.Sub.nil|refine Av.Sub.cons rfl ?_)
   ·have hd:decide ((i:Int)<(m:Int))=false:=by simp;omega
    repeat'(first|(apply Zg Za;exact Z)|(apply Zf;exact Z;(first|with_reducible assumption|(solve|simp only[bn]))))
    (apply XP (ts:=[]);(apply Zc Za;exact Z);exact ZI _;exact Z;rotate_left;exact Z)
    have h9:i=m:=by omega
    subst h9
    rw[G7.out,IntWalk.i64_in _ (by omega)]
    rfl
  ·have g2:=of_decide_eq_false hb
   have g3:=of_decide_eq_false (‹decide (((c.toNat % 32:Nat):Int)<24)=false›)
   rw[IntKind.wrap_u8'];omega
abbrev V2 (e:Nat):D:=.iface 215 (.agg [.int .i64 (e:Int)])
abbrev rdC (b:List UInt8)(p m:Nat):List D:=[byE b,.int .i64 (p:Int),.int .i64 (m:Int)]
theorem Z1 [Known](e:Int):AP Tryz.prog 161 [.bool true,.int .i64 e] (.tup []) []:=by
 refine AP.ofA (Zl Tryz.func161 Z Tryz.ntmps161 Z Z ?_)
 repeat'(first|(apply Zg Za;exact Z)|(apply Zf;exact Z;(first|with_reducible assumption|(solve|simp only[bn]))))
 all_goals refine RD [] ResL.nil Z Z Z Z ?_ ?_
 all_goals rfl
theorem W7 [Known](e:Nat):AX Tryz.prog 161 [.bool false,.int .i64 (e:Int)] [] (V2 e):=by
 refine Zl Tryz.func161 rfl Tryz.ntmps161 rfl rfl ?_
 repeat'(first|(apply Zg Za;exact Z)|refine TV Z Z ?_|(apply Zd;exact Z;(first|with_reducible assumption|(solve|simp only[bn])))|refine Ic Za Z Z Z Z ?_)
 all_goals exact⟨[],[],ZI _,ZI _,fun i h=>by simp at h,fun i h=>by simp at h,rfl,Nat.zero_le _⟩
theorem LM {s:List UInt8}{e:Nat}(h:rdS s=.error e):e=8\/e=3:=by
 cases s with
 | nil=>simp[rdS]at h;exact .inl h.symm
 | cons c t=>
  simp only[rdS]at h
  split at h
  ·cases h
  split at h
  ·cases h
  split at h
  ·injection h with h;exact .inr h.symm
  split at h
  ·injection h with h;exact .inl h.symm
  ·cases h
theorem T6 (b:List UInt8)(p:Nat)(hp:p<=b.length):Kn b (p:Int)=match rdS (b.drop p) with
  | .error e=>((0,0,false),0,e)
  | .ok (h,r)=>(h,b.length-r.length,0):=by
 have h:=J7 b p hp
 rw[Kn,if_neg (by omega),Int.toNat_natCast]
 exact h
theorem Gr [Known](b:List UInt8)(p m:Nat)(hb:b.length<=140737488351232)(hp:p<=b.length):AR Tryz.prog 160 [.ptr 0 0] [rdC b p m] (match rdS (b.drop p) with
  | .error e=>.error (V2 e)
  | .ok (h,r)=>.ok (hd h,[rdC b (b.length-r.length) m])):=by
 have hR:=LK b (p:Int) (by omega)
 rw[T6 b p hp]at hR
 cases hr:rdS (b.drop p) with
 | error e=>
  rw[hr]at hR
  dsimp only at hR ⊢
  have he:((e:Int)==0)=false:=by rcases LM hr with rfl|rfl<;>rfl
  refine Zl Tryz.func160 rfl Tryz.ntmps160 rfl rfl ?_
  repeat'(first|(apply Zb (hR);kernel_rfl;(iterate 4 exact Z))|rw[he]|(apply Ym [] (W7 e);kernel_rfl;(iterate 6 exact Z);intro bx2 fr2 hle2)|(apply Zi Za;exact Z)|(apply Zg Za;exact Z)|(apply Zu Za;exact Z)|(apply Zn 16 ZF;decide +kernel;kernel_rfl;kernel_rfl;kernel_rfl;exact Z;exact Z)|(apply Zr;(iterate 4 exact Z))|exact AE.nil _ _ _ _|(apply Zw;exact Z)|(apply ZS;exact Z)|(apply Ih;exact Z)|(apply ZA;exact Z;exact Z;decide +kernel;exact Z)|(apply ZB;exact Z)|(apply Ya;exact Z)|(apply H5;exact Z)|exact AO.nil _ _ _|(apply Zq;(decide +kernel))|(apply ZM;(iterate 3 exact Z))|exact AOs.nil|exact ZG rfl rfl|exact Ii rfl|exact Yw rfl rfl)
  all_goals first|(apply VP;exact Z;(first|exact Nat.zero_le _|exact Nat.le_trans (Nat.le_of_ble_eq_true rfl) (by assumption));exact Z)
 | ok y=>
  obtain⟨h,r⟩:=y
  rw[hr]at hR
  dsimp only at hR ⊢
  refine Zl Tryz.func160 rfl Tryz.ntmps160 rfl rfl ?_
  repeat'(first|(apply Zb (hR);kernel_rfl;(iterate 4 exact Z))|(apply Zb (Z1 0);kernel_rfl;(iterate 4 exact Z))|(apply Zi Za;exact Z)|(apply Zg Za;exact Z)|(apply Zn 16 ZF;decide +kernel;kernel_rfl;kernel_rfl;kernel_rfl;exact Z;exact Z)|(apply Zr;(iterate 4 exact Z))|exact AE.nil _ _ _ _|(apply Zw;exact Z)|(apply ZS;exact Z)|(apply Wv;exact Z)|(apply ZA;exact Z;exact Z;decide +kernel;exact Z)|(apply ZB;exact Z)|(apply Ya;exact Z)|(apply Vf;exact Z)|exact AO.nil _ _ _|(apply Zq;(decide +kernel))|(apply ZM;(iterate 3 exact Z))|exact AOs.nil|exact ZG rfl rfl|exact Yw rfl rfl|exact WC rfl)
  all_goals first|(apply Jp (rfl) [0];(apply Zc Za;exact Z);(iterate 4 exact Z))
  all_goals rfl
theorem LN (c:UInt8):((c.toNat:Int)==255)=(c==255):=by
 rw[Bool.eq_iff_iff,beq_iff_eq,beq_iff_eq]
 constructor
 ·intro h
  have:c.toNat=(255:UInt8).toNat:=by show c.toNat=255;omega
  exact UInt8.toNat_inj.1 this
 ·rintro rfl;rfl
theorem LO {b:List UInt8}{p:Nat}(h:p<b.length):∃ c t,b.drop p=c::t/\(b.map E.byte)[((p:Nat):Int).toNat]?=some (E.byte c)/\t=b.drop (p+1):=by
 refine⟨b[p],b.drop (p+1),List.drop_eq_getElem_cons h,?_,rfl⟩
 rw[Int.toNat_natCast,List.getElem?_map,List.getElem?_eq_getElem h];rfl
theorem Th [Known](b:List UInt8)(p m:Nat)(hb:b.length<=140737488351232)(hp:p<=b.length):AQ Tryz.prog 194 [.ptr 0 0] [rdC b p m] (.bool (QY (b.drop p))) [rdC b (if QY (b.drop p)=true then p+1 else p) m]:=by
 have hU:=YH b
 rcases Nat.lt_or_ge p b.length with hlt|hge
 ·obtain⟨c,t,hd,hv,_⟩:=LO hlt
  have d1:decide ((p:Int)<((b.map E.byte).length:Int))=true:=by simp;omega
  have e1:IntKind.i64.wrap ((p:Int)+1)=((p+1:Nat):Int):=by rw[IntWalk.i64_in _ (by omega)];omega
  have e2:=LN c
  rw[hd]
  cases hc:c==255 with
  | true=>
   rw[hc]at e2
   have he:QY (c::t)=true:=hc
   rw[he,if_pos rfl]
   refine AQ.weak (Zl Tryz.func194 Z Tryz.ntmps194 Z Z ?_)
   repeat'(first|rw[e1]|rw[e2]|(apply Zi Za;exact Z)|(apply Zg Za;exact Z)|(apply Zu Za;exact Z)|refine Ze Z Z Z Qt ?_|refine Zk Z Qt Z Z ?_|refine Zd Z Qt ?_|refine Zt Za Z Z Z Z ?_|(apply Zn 19 ZF;decide +kernel;kernel_rfl;kernel_rfl;kernel_rfl;exact Z;exact Z)|(apply Zr;(iterate 4 exact Z))|exact AE.nil _ _ _ _|(apply Zw;exact Z)|(apply ZA;exact Z;exact Z;decide +kernel;exact Z)|(apply ZB;exact Z)|exact AO.nil _ _ _|(apply Zq;(decide +kernel))|exact AOs.nil|exact ZG rfl rfl|(apply ZC Za;(iterate 6 exact Z);(first|exact Qt|rotate_left);(first|with_reducible assumption|decide +kernel|exact Z);(first|exact Zm rfl|with_reducible assumption|decide +kernel|rotate_left)))
   all_goals(apply Zs [0];(apply Zc Za;exact Z);(iterate 4 exact Z))
   all_goals rfl
  | false=>
   rw[hc]at e2
   have he:QY (c::t)=false:=hc
   rw[he,if_neg (by simp)]
   refine AQ.weak (Zl Tryz.func194 Z Tryz.ntmps194 Z Z ?_)
   repeat'(first|rw[e2]|(apply Zi Za;exact Z)|(apply Zg Za;exact Z)|(apply Zu Za;exact Z)|refine Yf ?_|refine Ze Z Z Z Qt ?_|refine Zk Z Qt Z Z ?_|refine Zf Z Qt ?_|refine Zt Za Z Z Z Z ?_|(apply Zn 19 ZF;decide +kernel;kernel_rfl;kernel_rfl;kernel_rfl;exact Z;exact Z)|(apply Zr;(iterate 4 exact Z))|exact AE.nil _ _ _ _|(apply Zw;exact Z)|(apply ZA;exact Z;exact Z;decide +kernel;exact Z)|(apply ZB;exact Z)|exact AO.nil _ _ _|(apply Zq;(decide +kernel))|exact AOs.nil|exact ZG rfl rfl|(apply ZC Za;(iterate 6 exact Z);(first|exact Qt|rotate_left);(first|with_reducible assumption|decide +kernel|exact Z);(first|exact Zm rfl|with_reducible assumption|decide +kernel|rotate_left)))
   all_goals(apply Zs [0];(apply Zc Za;exact Z);(iterate 4 exact Z))
   all_goals rfl
 ·have d1:decide ((p:Int)<((b.map E.byte).length:Int))=false:=by simp;omega
  have hd:b.drop p=[]:=List.drop_eq_nil_of_le hge
  rw[hd,if_neg (by simp[QY])]
  refine AQ.weak (Zl Tryz.func194 Z Tryz.ntmps194 Z Z ?_)
  repeat'(first|(apply Zi Za;exact Z)|(apply Zg Za;exact Z)|(apply Zu Za;exact Z)|refine Yf ?_|refine Zv Z Z Z Qt ?_|refine Zj Z Qt Z Z ?_|refine Zf Z Qt ?_|refine Zt Za Z Z Z Z ?_|(apply Zn 19 ZF;decide +kernel;kernel_rfl;kernel_rfl;kernel_rfl;exact Z;exact Z)|(apply Zr;(iterate 4 exact Z))|exact AE.nil _ _ _ _|(apply Zw;exact Z)|(apply ZA;exact Z;exact Z;decide +kernel;exact Z)|(apply ZB;exact Z)|exact AO.nil _ _ _|(apply Zq;(decide +kernel))|exact AOs.nil|exact ZG rfl rfl)
  all_goals(apply Zs [0];(apply Zc Za;exact Z);(iterate 4 exact Z))
  all_goals rfl
theorem Gs [Known][KnownU8](h:Hd)(b:List UInt8)(p m:Nat)(hb:b.length<=140737488351232)(hp:p<=b.length)(hn:h.2.1<18446744073709551616):AR Tryz.prog 195 [.ptr 0 0,hd h] [rdC b p m] (match WJ h (b.drop p) with
  | .error e=>.error (V2 e)
  | .ok (c,r)=>.ok (byE c,[rdC b (b.length-r.length) m])):=by
 obtain⟨k,n,o⟩:=h
 dsimp only at hn
 show AR Tryz.prog _ [.ptr 0 0,.agg [.int .i64 k,.int .u64 (n:Int),.bool o]] _ _
 have e1:IntKind.i64.wrap (((b.map E.byte).length:Int)-(p:Int))=((b.length-p:Nat):Int):=by rw[List.length_map,IntWalk.i64_in _ (by omega)];omega
 have e2:IntKind.u64.wrap ((b.length-p:Nat):Int)=((b.length-p:Nat):Int):=by rw[IntKind.wrap_u64];omega
 unfold WJ
 dsimp only
 have hl:(b.drop p).length=b.length-p:=List.length_drop ..
 rw[hl]
 by_cases hle:n<=b.length-p
 ·rw[if_pos hle]
  have d1:decide ((n:Int)<=((b.length-p:Nat):Int))=true:=by simp;omega
  have e3:IntKind.i64.wrap (n:Int)=(n:Int):=IntWalk.i64_in _ (by omega)
  have e4:IntKind.i64.wrap ((p:Int)+(n:Int))=((p+n:Nat):Int):=by rw[IntWalk.i64_in _ (by omega)];omega
  have hs:(b.take (((p+n:Nat):Int)).toNat).drop ((p:Nat):Int).toNat=(b.drop p).take n:=by
   rw[Int.toNat_natCast,Int.toNat_natCast,List.drop_take];congr 1;omega
  have hij:((p:Nat):Int)<=((p+n:Nat):Int):=by omega
  have hj:(((p+n:Nat):Int)).toNat<=b.length:=by omega
  have hcl:((b.drop p).take n).length<=140737488351232:=by rw[List.length_take,hl];omega
  have hU:=YH b
  have c1:=Vp _ hcl
  have c2:=Gl _ hcl
  have eR:b.length-((b.drop p).drop n).length=p+n:=by rw[List.length_drop,hl];omega
  by_cases h3:k=3
  ·subst h3
   cases hv:ZJ ((b.drop p).take n) with
   | true=>
    rw[hv]at c2
    rw[if_neg (by simp)]
    dsimp only
    rw[eR]
    refine Zl Tryz.func195 rfl Tryz.ntmps195 rfl rfl ?_
    repeat'(first|rw[d1]|rw[e1]|rw[e2]|rw[e3]|rw[e4]|(apply Zb (Z1 8);kernel_rfl;(iterate 4 exact Z))|(apply Zb (Z1 3);kernel_rfl;(iterate 4 exact Z))|(apply Zb (c1);kernel_rfl;(iterate 4 exact Z))|(apply Zb (c2);kernel_rfl;(iterate 4 exact Z))|(apply Ij Za;(iterate 9 exact Z);exact Qb;(first|with_reducible assumption|decide|(simp only[List.length_cons,List.length_drop,List.length_take,List.length_append,Int.toNat_natCast]at *;omega));(first|with_reducible assumption|decide|(simp only[List.length_cons,List.length_drop,List.length_take,List.length_append,Int.toNat_natCast]at *;omega));(first|with_reducible assumption|exact Z))|(apply Zi Za;exact Z)|(apply Zg Za;exact Z)|refine Yf ?_|refine Ze Z Z Z Qt ?_|refine Zj Z Qt Z Z ?_|refine Zt Za Z Z Z Z ?_|(apply Zn 7 ZF;decide +kernel;kernel_rfl;kernel_rfl;kernel_rfl;exact Z;exact Z)|(apply Zn 13 ZF;decide +kernel;kernel_rfl;kernel_rfl;kernel_rfl;exact Z;exact Z)|(apply Zn 16 ZF;decide +kernel;kernel_rfl;kernel_rfl;kernel_rfl;exact Z;exact Z)|(apply Zr;(iterate 4 exact Z))|exact AE.nil _ _ _ _|(apply Zw;exact Z)|(apply ZA;exact Z;exact Z;decide +kernel;exact Z)|(apply ZB;exact Z)|exact AO.nil _ _ _|(apply Zq;(decide +kernel))|exact AOs.nil|exact ZG rfl rfl)
    all_goals(apply Jp (rfl) [0];(apply Zc Za;exact Z);(iterate 4 exact Z))
    all_goals rfl
   | false=>
    rw[hv]at c2
    rw[if_pos ⟨rfl,rfl⟩]
    dsimp only
    refine Zl Tryz.func195 rfl Tryz.ntmps195 rfl rfl ?_
    repeat'(first|rw[d1]|rw[e1]|rw[e2]|rw[e3]|rw[e4]|(apply Zb (Z1 8);kernel_rfl;(iterate 4 exact Z))|(apply Ym [] (W7 3);kernel_rfl;(iterate 6 exact Z);intro bx2 fr2 hle2)|(apply Zb (c1);kernel_rfl;(iterate 4 exact Z))|(apply Zb (c2);kernel_rfl;(iterate 4 exact Z))|(apply Ij Za;(iterate 9 exact Z);exact Qb;(first|with_reducible assumption|decide|(simp only[List.length_cons,List.length_drop,List.length_take,List.length_append,Int.toNat_natCast]at *;omega));(first|with_reducible assumption|decide|(simp only[List.length_cons,List.length_drop,List.length_take,List.length_append,Int.toNat_natCast]at *;omega));(first|with_reducible assumption|exact Z))|(apply Zi Za;exact Z)|(apply Zg Za;exact Z)|(apply Zu Za;exact Z)|refine Yf ?_|refine Ze Z Z Z Qt ?_|refine Zj Z Qt Z Z ?_|refine Zt Za Z Z Z Z ?_|(apply Zn 13 ZF;decide +kernel;kernel_rfl;kernel_rfl;kernel_rfl;exact Z;exact Z)|(apply Zn 16 ZF;decide +kernel;kernel_rfl;kernel_rfl;kernel_rfl;exact Z;exact Z)|(apply Zr;(iterate 4 exact Z))|exact AE.nil _ _ _ _|(apply Zw;exact Z)|(apply ZA;exact Z;exact Z;decide +kernel;exact Z)|(apply ZB;exact Z)|exact AO.nil _ _ _|(apply Zq;(decide +kernel))|exact AOs.nil|exact ZG rfl rfl)
    all_goals(apply VP;exact Z;(first|exact Nat.zero_le _|exact Nat.le_trans (Nat.le_of_ble_eq_true rfl) (by assumption));exact Z)
  ·have k3:(k != 3)=true:=by simpa using h3
   rw[if_neg (by rintro⟨h,_⟩;exact h3 h)]
   dsimp only
   rw[eR]
   refine Zl Tryz.func195 rfl Tryz.ntmps195 rfl rfl ?_
   repeat'(first|rw[d1]|rw[e1]|rw[e2]|rw[e3]|rw[e4]|(apply Zb (Z1 8);kernel_rfl;(iterate 4 exact Z))|(apply Zb (Z1 3);kernel_rfl;(iterate 4 exact Z))|(apply Zb (c1);kernel_rfl;(iterate 4 exact Z))|(apply Ij Za;(iterate 9 exact Z);exact Qb;(first|with_reducible assumption|decide|(simp only[List.length_cons,List.length_drop,List.length_take,List.length_append,Int.toNat_natCast]at *;omega));(first|with_reducible assumption|decide|(simp only[List.length_cons,List.length_drop,List.length_take,List.length_append,Int.toNat_natCast]at *;omega));(first|with_reducible assumption|exact Z))|(apply Zi Za;exact Z)|(apply Zg Za;exact Z)|refine Yf ?_|refine Zp Z Z Z Qt ?_|refine Zk Z Qt Z Z ?_|refine Zt Za Z Z Z Z ?_|(apply Zn 7 ZF;decide +kernel;kernel_rfl;kernel_rfl;kernel_rfl;exact Z;exact Z)|(apply Zn 13 ZF;decide +kernel;kernel_rfl;kernel_rfl;kernel_rfl;exact Z;exact Z)|(apply Zn 16 ZF;decide +kernel;kernel_rfl;kernel_rfl;kernel_rfl;exact Z;exact Z)|(apply Zr;(iterate 4 exact Z))|exact AE.nil _ _ _ _|(apply Zw;exact Z)|(apply ZA;exact Z;exact Z;decide +kernel;exact Z)|(apply ZB;exact Z)|exact AO.nil _ _ _|(apply Zq;(decide +kernel))|exact AOs.nil|exact ZG rfl rfl)
   all_goals(apply Jp (rfl) [0];(apply Zc Za;exact Z);(iterate 4 exact Z))
   all_goals rfl
 ·rw[if_neg hle]
  dsimp only
  have d1:decide ((n:Int)<=((b.length-p:Nat):Int))=false:=by simp;omega
  refine Zl Tryz.func195 rfl Tryz.ntmps195 rfl rfl ?_
  repeat'(first|rw[d1]|rw[e1]|rw[e2]|(apply Ym [] (W7 8);kernel_rfl;(iterate 6 exact Z);intro bx2 fr2 hle2)|(apply Zi Za;exact Z)|(apply Zg Za;exact Z)|(apply Zu Za;exact Z)|refine Zt Za Z Z Z Z ?_|(apply Zn 13 ZF;decide +kernel;kernel_rfl;kernel_rfl;kernel_rfl;exact Z;exact Z)|(apply Zr;(iterate 4 exact Z))|exact AE.nil _ _ _ _|(apply Zw;exact Z)|(apply ZA;exact Z;exact Z;decide +kernel;exact Z)|(apply ZB;exact Z)|exact AO.nil _ _ _|(apply Zq;(decide +kernel))|exact AOs.nil|exact ZG rfl rfl)
  all_goals(apply VP;exact Z;(first|exact Nat.zero_le _|exact Nat.le_trans (Nat.le_of_ble_eq_true rfl) (by assumption));exact Z)
end Go.Proofs.YtkdpfkjlheajhaaGreatDoor
end
