/- Package head over abstract states. -/
import Derived.Test.YtmljabhmajehnaaGreatDoorO12
import Derived.Test.YtmljabhmajehnaaGreatDoorO11
import Derived.Test.YtmljabhmajehnaaGreatDoorO10
import Derived.Test.YtmljabhmajehnaaGreatDoorO13
import Derived.Test.YtmljabhmajehnaaGreatDoorO16
set_option linter.unusedVariables false
set_option linter.unusedSimpArgs false
section
open Go.RowKit Go.Pl Go.Av
namespace Go.Proofs.YtmljabhmajehnaaGreatDoor
set_option maxHeartbeats 4000000
theorem OP [Known](n:Nat):AP Tryz.prog 174 [.int .u64 (n:Int)] (.int .i64 (ZG n)) []:=by
 refine Zl Tryz.func174 rfl Tryz.ntmps174 rfl rfl ?_
 repeat'(first|(apply Zg Za;exact U)|(apply Zo Za;exact U)|(apply YJ;exact U;all_goals intro hb))
 all_goals refine Ud (.cons _ _ _ _ (.tmp _ _ rfl) .nil) (ZD _) rfl ?_ rfl
 all_goals simp only[decide_eq_true_eq,decide_eq_false_iff_not]at *
 all_goals(congr 1;unfold ZG;(repeat' split)<;>omega)
theorem LB [Known](m:Int):AP Tryz.prog 186 [.int .i64 m] (.bool (Jj m)) []:=by
 refine Zl Tryz.func186 rfl Tryz.ntmps186 rfl rfl ?_
 repeat'(first|(apply Zh Za;exact U)|(apply Zg Za;exact U)|(apply Ze;(iterate 3 exact U);(first|with_reducible assumption|(solve|simp only[bn])))|(apply Zr;(iterate 3 exact U);(first|with_reducible assumption|(solve|simp only[bn])))|(apply Zn;(iterate 3 exact U);(first|with_reducible assumption|(solve|simp only[bn])))|(apply Ys;exact U;exact U;all_goals intro hb)|(apply Zk;exact U;(first|with_reducible assumption|(solve|simp only[bn]));exact U;exact U)|(apply Zi;exact U;(first|with_reducible assumption|(solve|simp only[bn]));exact U;exact U))
 all_goals refine Ud (.cons _ _ _ _ (.tmp _ _ rfl) .nil) (ZD _) rfl ?_ rfl
 all_goals(congr 1;rw[Bool.eq_iff_iff];simp[Jj]at *;omega)
def hd (h:Hd):D:=.agg [.int .i64 h.1,.int .u64 (h.2.1:Int),.bool h.2.2]
theorem LC [Known](h:Hd):AP Tryz.prog 172 [hd h] (.bool (Z3 h)) []:=by
 refine Zl Tryz.func172 rfl Tryz.ntmps172 rfl rfl ?_
 repeat'(first|(apply VP (LB _);kernel_rfl;(iterate 4 exact U))|(apply Zh Za;exact U)|(apply Zg Za;exact U)|(apply Ze;(iterate 3 exact U);(first|with_reducible assumption|(solve|simp only[bn])))|(apply Zr;(iterate 3 exact U);(first|with_reducible assumption|(solve|simp only[bn])))|(apply Ys;exact U;exact U;all_goals intro hb)|(apply Zk;exact U;(first|with_reducible assumption|(solve|simp only[bn]));exact U;exact U)|(apply Zi;exact U;(first|with_reducible assumption|(solve|simp only[bn]));exact U;exact U)|(apply YJ;exact U;all_goals intro hb)|refine W1 Za U U U U Qk Qk U U U ?_)
 all_goals refine Ud (.cons _ _ _ _ (.tmp _ _ rfl) .nil) (ZD _) rfl ?_ rfl
 all_goals(obtain⟨m,n,o⟩:=h;congr 1;rw[Bool.eq_iff_iff];simp_all [Z3,Jj];try omega)
theorem Sw (n:Nat):(ZG n=0/\Yq n=n/\n<24)\/(ZG n=1/\Yq n=24)\/(ZG n=2/\Yq n=25)\/(ZG n=4/\Yq n=26)\/(ZG n=8/\Yq n=27):=by
 unfold ZG Yq
 by_cases h1:n<24
 ·simp[h1]
 by_cases h2:n<256
 ·simp[h1,h2]
 by_cases h3:n<65536
 ·simp[h1,h2,h3]
 by_cases h4:n<4294967296
 ·simp[h1,h2,h3,h4]
 ·simp[h1,h2,h3,h4]
theorem Sx [Known](n:Nat):AP Tryz.prog 173 [.int .u64 (n:Int)] (.int .u8 (Yq n)) []:=by
 refine Zl Tryz.func173 rfl Tryz.ntmps173 rfl rfl ?_
 repeat'(first|(apply VP (OP _);kernel_rfl;(iterate 4 exact U))|(apply Zh Za;exact U)|(apply Zg Za;exact U)|(apply Zo Za;exact U)|(apply YJ;exact U;all_goals intro hb))
 all_goals refine Ud (.cons _ _ _ _ (.tmp _ _ rfl) .nil) (ZD _) rfl ?_ rfl
 all_goals(rcases Sw n with⟨h1,h2,h3⟩ | ⟨h1,h2⟩ | ⟨h1,h2⟩ | ⟨h1,h2⟩ | ⟨h1,h2⟩<;>simp_all)
 all_goals(rw[IntKind.wrap_u8'];omega)
theorem GJ (m:Int)(i:Nat)(hm:0<=m/\m<=7)(hi:i<32):bits .or .u8 (IntKind.u8.wrap (IntKind.u8.wrap m*2 ^ min (Int.toNat 5) IntKind.u8.bits)) (i:Int)=((Wp m.toNat i).toNat:Int):=by
 have e2:IntKind.u8.wrap (IntKind.u8.wrap m*2 ^ min (Int.toNat 5) IntKind.u8.bits)=(m.toNat:Int)*32:=by
  rw[show min (Int.toNat 5) IntKind.u8.bits=5 from rfl,IntKind.wrap_u8',IntKind.wrap_u8'];omega
 rw[e2,Fk m.toNat i (by omega) hi]
 unfold Wp
 rw[UInt8.toNat_ofNat']
 omega
theorem Nd {h:Hd}(hr:Z3 h=true):0<=h.1/\h.1<=7:=by
 obtain⟨m,n,o⟩:=h
 cases o<;>simp[Z3,Jj]at hr<;>omega
theorem Sy (n q:Nat)(hq:q<8):E.int .u8 (IntKind.u8.wrap ((n:Int).fdiv (2 ^ min (IntKind.i64.wrap (8*(q:Int))).toNat IntKind.u64.bits)))=E.byte (UInt8.ofNat (n/256 ^ q)):=by
 have e:IntKind.i64.wrap (8*(q:Int))=((8*q:Nat):Int):=by rw[IntWalk.i64_in _ (by omega)];omega
 rw[e,Int.toNat_natCast,show min (8*q) IntKind.u64.bits=8*q from Nat.min_eq_left (by show 8*q<=64;omega)]
 rw[show((n:Int).fdiv (2 ^ (8*q)))=((n/256 ^ q:Nat):Int) from by
  have e:(2:Int) ^ (8*q)=((256 ^ q:Nat):Int):=by
   rw[show(256:Nat)=2 ^ 8 from rfl,<- Nat.pow_mul]
   simp
  rw[e,Int.fdiv_eq_ediv_of_nonneg _ (Int.natCast_nonneg _),<- Int.natCast_ediv]]
 rw[IntKind.wrap_u8']
 unfold E.byte
 rw[UInt8.toNat_ofNat']
 congr 1
theorem GK [Known](h:Hd)(hn:h.2.1<18446744073709551616):AP Tryz.prog 150 [hd h] (.tup [byE (if Z3 h then ZU h else []),.int .i64 (if Z3 h then 0 else 3)]) []:=by
 refine AP.weak ?_
 have HR:=@Nd h
 have HN:=hid hn
 clear hn
 refine Zl Tryz.func150 rfl Tryz.ntmps150 rfl rfl ?_
 repeat'(first|(apply VP (LC h);kernel_rfl;(iterate 4 exact U))|(apply VP (Sx _);kernel_rfl;(iterate 4 exact U))|(apply VP (OP _);kernel_rfl;(iterate 4 exact U))|refine Iw U U (by decide) U ?_|(apply Zh Za;exact U)|(apply Zg Za;exact U)|(apply Zo Za;exact U)|(apply YJ;exact U;all_goals intro hb)|refine QE Za U U U U U U U U U U U U ?_|(apply ZY 7 ZF;decide +kernel;kernel_rfl;kernel_rfl;exact U;exact U)|(apply Z8;(iterate 3 exact U))|refine AD.nil _|exact Yu rfl)
 ·refine Se (.cons _ _ _ _ (.tmp _ _ rfl) (.cons _ _ _ _ (.tmp _ _ rfl) .nil)) rfl ?_
  simp_all [byE]
 ·refine Se (.cons _ _ _ _ (.tmp _ _ rfl) (.cons _ _ _ _ (.tmp _ _ rfl) .nil)) rfl ?_
  have hr:Z3 h=true:=by simpa using(‹(!Z3 h)=false›)
  rw[if_pos hr,if_pos hr,show ZU h=[Wp h.1.toNat 31] by simp[ZU,hb],show E.int IntKind.u8 (bits .or .u8 (IntKind.u8.wrap (IntKind.u8.wrap h.1*2 ^ min (Int.toNat 5) IntKind.u8.bits)) 31)=E.byte (Wp h.1.toNat 31) from congrArg _ (GJ h.1 31 (HR hr) (by omega))]
  rfl
 rename_i hb1
 have hr:Z3 h=true:=by simpa using hb1
 have hw:ZU h=Wp h.1.toNat (Yq h.2.1)::beN h.2.1 (ZG h.2.1):=by simp[ZU,hb]
 have hlen:(beN h.2.1 (ZG h.2.1)).length=ZG h.2.1:=Yg _ _
 have hf8:=Ky h.2.1
 refine ZJ (fun k tm bx fr=>∃(i c:Nat) (L:List E),k+i=ZG h.2.1/\c=L.length/\c=i+1/\L=((ZU h).take (i+1)).map E.byte/\tm=[(33,.int .i64 (i:Int)),(32,.int .i64 (ZG h.2.1:Int)),(5,.int .i64 (ZG h.2.1:Int)),(4,.sl (.own 0) L),(3,.int .i64 0),(1,.ptr 0 0)]/\bx=[[.int .i64 h.1,.int .u64 (h.2.1:Int),.bool h.2.2]]/\fr=[⟨c,1,5⟩]) (ZG h.2.1+1) (Lands.mk' (m:=ZG h.2.1) (Nat.lt_succ_self _) ⟨0,1,[E.byte (Wp h.1.toNat (Yq h.2.1))],rfl,rfl,rfl,by rw[hw];rfl,rfl,rfl,rfl⟩ ?_ rfl rfl rfl rfl rfl rfl) ?_
 ·repeat'(first|exact Av.Sub.nil|refine Av.Sub.cons rfl ?_|refine Av.Sub.cons ?_ ?_)
  have e:=congrArg (fun x:Int=>D.sl (.own 0) [E.int .u8 x]) (GJ h.1 (Yq h.2.1) (HR hr) (by have:=GA h.2.1;omega))
  exact e
 rintro k tm bx fr ⟨i,c,L,hk,hc,hi,hL,rfl,rfl,rfl⟩
 have hU:Uni 1 L:=hL ▸ Ym _
 repeat'(first|(apply YI;exact U;exact U;rotate_left;exact U)|(apply Zh Za;exact U)|(apply Zg Za;exact U)|(apply YJ;exact U;all_goals intro hb)|refine QE Za U U U U U U U U U U U U ?_|(apply ZR Za;(iterate 6 exact U);(first|with_reducible assumption|exact U|rotate_left);exact U;exact U;(first|exact Zj rfl|with_reducible assumption|rotate_left);(first|exact Zj rfl|with_reducible assumption|rotate_left);(first|exact Qb|rotate_left);(first|exact Qb|rotate_left);(first|exact Qb|rotate_left);exact U;exact U))
 ·have hlt:i<ZG h.2.1:=by have:=of_decide_eq_true hb;omega
  have hx:IntKind.i64.wrap (IntKind.i64.wrap (↑(ZG h.2.1)-1) - ↑i)=((ZG h.2.1-1-i:Nat):Int):=by
   rw[IntWalk.i64_in ((ZG h.2.1:Int)-1) (by omega),IntWalk.i64_in _ (by omega)];omega
  refine Lands.mk' (m:=k-1) (by omega) ⟨i+1,L.length+1,L++[E.byte (UInt8.ofNat (h.2.1/256 ^ (ZG h.2.1-1-i)))],by omega,by simp,by omega,?_,rfl,rfl,rfl⟩ ?_ rfl rfl rfl rfl rfl rfl
  ·rw[hL,hw,List.take_succ_cons,List.take_succ_cons,Jp _ _ _ hlt]
   simp
  ·refine .cons ?_ (.cons rfl (.cons rfl (.cons ?_ (.cons rfl (.cons rfl .nil)))))
   ·exact congrArg (D.int .i64) (IntWalk.i64_in _ (by omega))
   ·have e:=congrArg (fun x=>D.sl (.own 0) (L++[x])) (Sy h.2.1 (ZG h.2.1-1-i) (by omega))
    rw[<- hx]at e
    exact e
 ·have:=of_decide_eq_true hb;show L.length+1<=maxLen;unfold maxLen;omega
 ·have:=of_decide_eq_true hb;show(L.length+1)*1<=140737488355328;omega
 ·have:=of_decide_eq_true hb
  have hx:IntKind.i64.wrap (IntKind.i64.wrap (↑(ZG h.2.1)-1) - ↑i)=((ZG h.2.1-1-i:Nat):Int):=by
   rw[IntWalk.i64_in ((ZG h.2.1:Int)-1) (by omega),IntWalk.i64_in _ (by omega)];omega
  rw[hx,IntWalk.i64_in _ (by omega)];omega
 ·refine Se (.cons _ _ _ _ (.tmp _ _ rfl) (.cons _ _ _ _ (.tmp _ _ rfl) .nil)) rfl ?_
  rw[if_pos hr,if_pos hr,hL]
  have:=of_decide_eq_false hb
  rw[List.take_of_length_le (by rw[hw,List.length_cons,hlen];omega)]
def rdD (r:Hd × Nat × Nat):D:=.tup [hd r.1,.int .i64 (r.2.1:Int),.int .i64 (r.2.2:Int)]
theorem GL (b:List UInt8)(p:Int)(h0:0<=p)(h1:p<(b.length:Int)):∃ c r,b.drop p.toNat=c::r/\r.length+p.toNat+1=b.length/\(b.map E.byte)[p.toNat]?=some (E.byte c)/\∀ j:Nat,j<r.length->(b.map E.byte)[p.toNat+1+j]?=(r.map E.byte)[j]? := by
 have h:p.toNat<b.length:=by omega
 refine⟨b[p.toNat],b.drop (p.toNat+1),List.drop_eq_getElem_cons h,by rw[List.length_drop];omega,by simp[h],fun j hj=>by simp[List.getElem?_drop]⟩
theorem Fq (c:UInt8):((c.toNat:Int)).fdiv (2 ^ min (Int.toNat 5) IntKind.u8.bits)=((c.toNat/32:Nat):Int):=by
 rw[show min (Int.toNat 5) IntKind.u8.bits=5 from rfl,Int.fdiv_eq_ediv_of_nonneg _ (by decide)]
 omega
theorem J3 {b:List UInt8}{p:Nat}{c:UInt8}{r:List UInt8}(h:b.drop p=c::r)(h1:c.toNat % 32<24):YF b p=((((c.toNat/32:Nat):Int),c.toNat % 32,false),p+1,0):=by
 unfold YF;rw[h];simp only;rw[if_pos h1]
theorem KH {b:List UInt8}{p:Nat}{c:UInt8}{r:List UInt8}(h:b.drop p=c::r)(h1:c.toNat % 32=31)(h2:Jj (c.toNat/32:Nat)=true):YF b p=((((c.toNat/32:Nat):Int),0,true),p+1,0):=by
 unfold YF;rw[h];simp only;rw[if_neg (by omega),if_pos ⟨h1,h2⟩]
theorem Xt {b:List UInt8}{p:Nat}{c:UInt8}{r:List UInt8}(h:b.drop p=c::r)(h1:27<c.toNat % 32)(h2:c.toNat % 32=31->Jj (c.toNat/32:Nat)=false):YF b p=((0,0,false),0,3):=by
 unfold YF;rw[h];simp only;rw[if_neg (by omega),if_neg (fun hh=>by have:=h2 hh.1;rw[hh.2]at this;cases this),if_pos h1]
theorem XV {b:List UInt8}{p:Nat}{c:UInt8}{r:List UInt8}(h:b.drop p=c::r)(h1:¬ c.toNat % 32<24)(h2:¬ 27<c.toNat % 32)(h3:r.length<2 ^ (c.toNat % 32-24)):YF b p=((0,0,false),0,8):=by
 unfold YF;rw[h];simp only;rw[if_neg h1,if_neg (by omega),if_neg h2,if_pos h3]
theorem KI {b:List UInt8}{p:Nat}{c:UInt8}{r:List UInt8}(h:b.drop p=c::r)(h1:¬ c.toNat % 32<24)(h2:¬ 27<c.toNat % 32)(h3:¬ r.length<2 ^ (c.toNat % 32-24)):YF b p=((((c.toNat/32:Nat):Int),WK (r.take (2 ^ (c.toNat % 32-24))),false),p+1+2 ^ (c.toNat % 32-24),0):=by
 unfold YF;rw[h];simp only;rw[if_neg h1,if_neg (by omega),if_neg h2,if_neg h3]
theorem Tb (v:Nat)(h:¬ v<24)(h':¬ 27<v):IntKind.i64.wrap (1*2 ^ min (IntKind.u8.wrap ((v:Int)-24)).toNat IntKind.i64.bits)=((2 ^ (v-24):Nat):Int)/\2 ^ (v-24)<=8:=by
 obtain rfl|rfl|rfl|rfl:v=24\/v=25\/v=26\/v=27:=by omega
 all_goals decide
theorem Sz [Known](b:List UInt8)(p:Int)(hb:b.length<=4611686018427387904):AP Tryz.prog 163 [byE b,.int .i64 p] (rdD (Qs b p)) []:=by
 have HB:=hid hb
 clear hb
 have HU:=Ym b
 refine Zl Tryz.func163 rfl Tryz.ntmps163 rfl rfl ?_
 repeat'(first|(apply Zh Za;exact U)|(apply Zg Za;exact U)|(apply Zo Za;exact U)|(apply Ze;(iterate 3 exact U);(first|with_reducible assumption|(solve|simp only[bn])))|(apply Zn;(iterate 3 exact U);(first|with_reducible assumption|(solve|simp only[bn])))|(apply Ys;exact U;exact U;all_goals intro hb)|(apply Zk;exact U;(first|with_reducible assumption|(solve|simp only[bn]));exact U;exact U)|(apply Zi;exact U;(first|with_reducible assumption|(solve|simp only[bn]));exact U;exact U)|(apply Zd;exact U;(first|with_reducible assumption|(solve|simp only[bn])))|(apply YJ;exact U;all_goals intro hb)|refine Zm Za U U U U ?_)
 ·(apply Ud (ts:=[]);(apply Zc Za;exact U);exact ZD _;exact U;rotate_left;exact U)
  have:p<0:=of_decide_eq_true hb
  rw[show Qs b p=_ from if_pos (.inl this)];rfl
 ·(apply Ud (ts:=[]);(apply Zc Za;exact U);exact ZD _;exact U;rotate_left;exact U)
  have:p>((b.map E.byte).length:Int):=of_decide_eq_true hb
  rw[List.length_map]at this
  rw[show Qs b p=_ from if_pos (.inr this)];rfl
 ·(apply Ud (ts:=[]);(apply Zc Za;exact U);exact ZD _;exact U;rotate_left;exact U)
  have:p=((b.map E.byte).length:Int):=by simpa using hb
  rw[List.length_map]at this
  have hd:b.drop p.toNat=[]:=by rw[List.drop_eq_nil_iff];omega
  rw[show Qs b p=YF b p.toNat from if_neg (by omega)]
  unfold YF
  rw[hd];rfl
 rename_i g1 g2
 have h0:0<=p:=by have:=of_decide_eq_false g1;omega
 have h1:p<(b.length:Int):=by
  have a1:=of_decide_eq_false g2
  rw[List.length_map]at a1 hb
  have a2:p ≠ (b.length:Int):=by simpa using hb
  omega
 obtain⟨c,r,hd,hl,hv,hr⟩:=GL b p h0 h1
 have HH:=hid (show Qs b p=YF b p.toNat from if_neg (by omega))
 have HD:=hid hd
 have HL:=hid hl
 have HR:=hid hr
 have e1:IntKind.i64.wrap ((c.toNat/32:Nat):Int)=((c.toNat/32:Nat):Int):=IntWalk.i64_in _ (by have:=c.toNat_lt;omega)
 have e2:IntKind.u64.wrap ((c.toNat % 32:Nat):Int)=((c.toNat % 32:Nat):Int):=by rw[IntKind.wrap_u64];omega
 have e3:IntKind.i64.wrap (p+1)=((p.toNat+1:Nat):Int):=by have:=HB.out;rw[IntWalk.i64_in _ (by omega)];omega
 clear hb g1 g2 hd hl hr
 repeat'(first|rw[DC c]|rw[Fq c]|rw[e1]|rw[e2]|rw[e3]|(apply VP (LB _);kernel_rfl;(iterate 4 exact U))|(apply Zh Za;exact U)|(apply Zg Za;exact U)|(apply Zo Za;exact U)|(apply Ze;(iterate 3 exact U);(first|with_reducible assumption|(solve|simp only[bn])))|(apply Zr;(iterate 3 exact U);(first|with_reducible assumption|(solve|simp only[bn])))|(apply Ys;exact U;exact U;all_goals intro hb)|(apply Zk;exact U;(first|with_reducible assumption|(solve|simp only[bn]));exact U;exact U)|(apply Zi;exact U;(first|with_reducible assumption|(solve|simp only[bn]));exact U;exact U)|(apply Zf;exact U;(first|with_reducible assumption|(solve|simp only[bn])))|(apply YJ;exact U;all_goals intro hb)|refine Zm Za U U U U ?_|(apply Zu Za;(iterate 6 exact U);(first|exact Qb|rotate_left);(first|with_reducible assumption|exact U);(first|exact Zj rfl|with_reducible assumption|rotate_left))|(apply YI;exact U;exact U;(first|exact Qb|rotate_left);exact U)|(apply Iw;exact U;exact U;(first|exact Qb|rotate_left);exact U))
 ·(apply Ud (ts:=[]);(apply Zc Za;exact U);exact ZD _;exact U;rotate_left;exact U)
  rw[HH.out,J3 HD.out (by have:=of_decide_eq_true hb;omega)];rfl
 ·(apply Ud (ts:=[]);(apply Zc Za;exact U);exact ZD _;exact U;rotate_left;exact U)
  rw[HH.out,KH HD.out (by have:=of_decide_eq_false (‹decide _=false›);simp at *;omega) hb];rfl
 iterate 2
  ·(apply Ud (ts:=[]);(apply Zc Za;exact U);exact ZD _;exact U;rotate_left;exact U)
   rw[HH.out,Xt HD.out (by have:=of_decide_eq_true hb;omega) (by intro hh;first|assumption|simp_all)];rfl
  ·(apply Ud (ts:=[]);(apply Zc Za;exact U);exact ZD _;exact U;rotate_left;exact U)
   have g1:=of_decide_eq_true hb
   have g2:=of_decide_eq_false (‹decide (((c.toNat % 32:Nat):Int)>27)=false›)
   have g3:=of_decide_eq_false (‹decide (((c.toNat % 32:Nat):Int)<24)=false›)
   have g4:=Tb (c.toNat % 32) (by omega) (by omega)
   have g5:=HL.out
   have g6:=HB.out
   rw[g4.1,List.length_map,IntWalk.i64_in _ (by omega)]at g1
   rw[HH.out,XV HD.out (by omega) (by omega) (by omega)];rfl
  ·have g1:=of_decide_eq_false hb
   have g2:=of_decide_eq_false (‹decide (((c.toNat % 32:Nat):Int)>27)=false›)
   have g3:=of_decide_eq_false (‹decide (((c.toNat % 32:Nat):Int)<24)=false›)
   have g4:=Tb (c.toNat % 32) (by omega) (by omega)
   have g5:=HL.out
   have g6:=HB.out
   rw[g4.1,List.length_map,IntWalk.i64_in _ (by omega)]at g1
   rw[g4.1]
   have g7:=HH.out.trans (KI HD.out (by omega) (by omega) (by omega))
   generalize 2 ^ (c.toNat % 32-24)=m at g1 g4 g7 ⊢
   have g8:=g4.2
   have G7:=hid g7
   clear hb g2 g3 g4 g7
   refine ZJ (fun k tm bx fr=>∃ i,k+i=m/\tm=[(75,.int .i64 (i:Int)),(74,.int .i64 (m:Int)),(9,.int .i64 (m:Int)),(7,.ptr 1 0),(1,.int .i64 ((p.toNat+1:Nat):Int)),(0,byE b),(4,.ptr 0 0)]/\bx=[[.int .i64 0,.int .u64 0,.bool false],[.int .i64 ((c.toNat/32:Nat):Int),.int .u64 (WK (r.take i):Nat),.bool false]]/\fr=[]) (m+1) (Lands.mk' (m:=m) (Nat.lt_succ_self _) ⟨0,rfl,rfl,rfl,rfl⟩ ?_ rfl rfl rfl rfl rfl rfl) ?_
   ·repeat'(first|exact Av.Sub.nil|refine Av.Sub.cons rfl ?_)
   rintro k tm bx fr ⟨i,hk,rfl,rfl,rfl⟩
   rcases Nat.lt_or_ge i m with hlt|hge
   ·have hd:decide ((i:Int)<(m:Int))=true:=by simp;omega
    have hir:i<r.length:=by omega
    have hv':(b.map E.byte)[((p.toNat+1+i:Nat):Int).toNat]?=some (E.byte r[i]):=by
     rw[Int.toNat_natCast,HR.out i hir];simp[hir]
    have e4:IntKind.i64.wrap (((p.toNat+1:Nat):Int)+(i:Int))=((p.toNat+1+i:Nat):Int):=by rw[IntWalk.i64_in _ (by omega)];omega
    have e7:IntKind.i64.wrap ((i:Int)+1)=((i+1:Nat):Int):=by rw[IntWalk.i64_in _ (by omega)];omega
    have e6:IntKind.u64.wrap ((r[i].toNat:Nat):Int)=((r[i].toNat:Nat):Int):=by have:=r[i].toNat_lt;rw[IntKind.wrap_u64];omega
    have e5:bits .or .u64 (IntKind.u64.wrap (((WK (r.take i):Nat):Int)*2 ^ min (Int.toNat 8) IntKind.u64.bits)) ((r[i].toNat:Nat):Int)=((WK (r.take (i+1)):Nat):Int):=by
     have h9:=H7 (WK (r.take i)) r[i] (Jq r i (by omega))
     rw[show((2:Int) ^ min (Int.toNat 8) IntKind.u64.bits)=256 from rfl,h9.1,h9.2,OJ r i hir]
    repeat'(first|rw[e4]|rw[e5]|rw[e6]|rw[e7]|(apply Zh Za;exact U)|(apply Zg Za;exact U)|(apply Zd;exact U;(first|with_reducible assumption|(solve|simp only[bn])))|(apply ZY 10 ZF;decide +kernel;kernel_rfl;kernel_rfl;exact U;exact U)|(apply Z8;(iterate 3 exact U))|refine AD.nil _|exact Yu rfl|(apply Zu Za;(iterate 6 exact U);(first|exact Qb|rotate_left);(first|with_reducible assumption|exact U);(first|exact Zj rfl|with_reducible assumption|rotate_left))|(apply Iw;exact U;exact U;(first|exact Qb|rotate_left);exact U))
    refine Lands.mk' (m:=k-1) (by omega) ⟨i+1,by omega,rfl,rfl,rfl⟩ ?_ rfl rfl rfl rfl rfl rfl
    repeat'(first|exact Av.Sub.nil|refine Av.Sub.cons rfl ?_)
   ·have hd:decide ((i:Int)<(m:Int))=false:=by simp;omega
    repeat'(first|(apply Zg Za;exact U)|(apply Zf;exact U;(first|with_reducible assumption|(solve|simp only[bn]))))
    (apply Ud (ts:=[]);(apply Zc Za;exact U);exact ZD _;exact U;rotate_left;exact U)
    have h9:i=m:=by omega
    subst h9
    rw[G7.out,IntWalk.i64_in _ (by omega)]
    rfl
  ·have g2:=of_decide_eq_false hb
   have g3:=of_decide_eq_false (‹decide (((c.toNat % 32:Nat):Int)<24)=false›)
   rw[IntKind.wrap_u8'];omega
abbrev Ug (e:Nat):D:=.iface 175 (.agg [.int .i64 (e:Int)])
abbrev rdC (b:List UInt8)(p m:Nat):List D:=[byE b,.int .i64 (p:Int),.int .i64 (m:Int)]
theorem Z2 [Known](e:Int):AP Tryz.prog 141 [.bool true,.int .i64 e] (.tup []) []:=by
 refine AP.ofA (Zl Tryz.func141 U Tryz.ntmps141 U U ?_)
 repeat'(first|(apply Zg Za;exact U)|(apply Zf;exact U;(first|with_reducible assumption|(solve|simp only[bn]))))
 all_goals refine DB [] ResL.nil U U U U ?_ ?_
 all_goals rfl
theorem Vu [Known](e:Nat):AX Tryz.prog 141 [.bool false,.int .i64 (e:Int)] [] (Ug e):=by
 refine Zl Tryz.func141 rfl Tryz.ntmps141 rfl rfl ?_
 repeat'(first|(apply Zg Za;exact U)|refine N2 U U ?_|(apply Zd;exact U;(first|with_reducible assumption|(solve|simp only[bn])))|refine IC Za U U U U ?_)
 all_goals exact⟨[],[],ZD _,ZD _,fun i h=>by simp at h,fun i h=>by simp at h,rfl,Nat.zero_le _⟩
theorem IJ {s:List UInt8}{e:Nat}(h:rdS s=.error e):e=8\/e=3:=by
 cases s with
 | nil=>simp[rdS]at h;exact .inl h.symm
 | cons c t=>
  simp only[rdS]at h
  split at h
  ·cases h
  split at h
  ·cases h
  split at h
  ·injection h with h;exact .inr h.symm
  split at h
  ·injection h with h;exact .inl h.symm
  ·cases h
theorem Xu (b:List UInt8)(p:Nat)(hp:p<=b.length):Qs b (p:Int)=match rdS (b.drop p) with
  | .error e=>((0,0,false),0,e)
  | .ok (h,r)=>(h,b.length-r.length,0):=by
 have h:=Xp b p hp
 rw[Qs,if_neg (by omega),Int.toNat_natCast]
 exact h
theorem GM [Known](b:List UInt8)(p m:Nat)(hb:b.length<=1099511627776)(hp:p<=b.length):AR Tryz.prog 140 [.ptr 0 0] [rdC b p m] (match rdS (b.drop p) with
  | .error e=>.error (Ug e)
  | .ok (h,r)=>.ok (hd h,[rdC b (b.length-r.length) m])):=by
 have hR:=Sz b (p:Int) (by omega)
 rw[Xu b p hp]at hR
 cases hr:rdS (b.drop p) with
 | error e=>
  rw[hr]at hR
  dsimp only at hR ⊢
  have he:((e:Int)==0)=false:=by rcases IJ hr with rfl|rfl<;>rfl
  refine Zl Tryz.func140 rfl Tryz.ntmps140 rfl rfl ?_
  repeat'(first|(apply Zb (hR);kernel_rfl;(iterate 4 exact U))|rw[he]|(apply Yi [] (Vu e);kernel_rfl;(iterate 6 exact U);intro bx2 fr2 hle2)|(apply Zh Za;exact U)|(apply Zg Za;exact U)|(apply Zo Za;exact U)|(apply Zq 16 ZF;decide +kernel;kernel_rfl;kernel_rfl;kernel_rfl;exact U;exact U)|(apply Zt;(iterate 4 exact U))|exact AE.nil _ _ _ _|(apply Zw;exact U)|(apply Yp;exact U)|(apply IF;exact U)|(apply Zz;exact U;exact U;decide +kernel;exact U)|(apply ZA;exact U)|(apply YQ;exact U)|(apply T4;exact U)|exact AO.nil _ _ _|(apply Zs;(decide +kernel))|(apply Yf;(iterate 3 exact U))|exact AOs.nil|exact ZI rfl rfl|exact IG rfl|exact WB rfl rfl)
  all_goals first|(apply V2;exact U;(first|exact Nat.zero_le _|exact Nat.le_trans (Nat.le_of_ble_eq_true rfl) (by assumption));exact U)
 | ok y=>
  obtain⟨h,r⟩:=y
  rw[hr]at hR
  dsimp only at hR ⊢
  refine Zl Tryz.func140 rfl Tryz.ntmps140 rfl rfl ?_
  repeat'(first|(apply Zb (hR);kernel_rfl;(iterate 4 exact U))|(apply Zb (Z2 0);kernel_rfl;(iterate 4 exact U))|(apply Zh Za;exact U)|(apply Zg Za;exact U)|(apply Zq 16 ZF;decide +kernel;kernel_rfl;kernel_rfl;kernel_rfl;exact U;exact U)|(apply Zt;(iterate 4 exact U))|exact AE.nil _ _ _ _|(apply Zw;exact U)|(apply Yp;exact U)|(apply WI;exact U)|(apply Zz;exact U;exact U;decide +kernel;exact U)|(apply ZA;exact U)|(apply YQ;exact U)|(apply VA;exact U)|exact AO.nil _ _ _|(apply Zs;(decide +kernel))|(apply Yf;(iterate 3 exact U))|exact AOs.nil|exact ZI rfl rfl|exact WB rfl rfl|exact WP rfl)
  all_goals first|(apply JW (rfl) [0];(apply Zc Za;exact U);(iterate 4 exact U))
  all_goals rfl
theorem Nf (c:UInt8):((c.toNat:Int)==255)=(c==255):=by
 rw[Bool.eq_iff_iff,beq_iff_eq,beq_iff_eq]
 constructor
 ·intro h
  have:c.toNat=(255:UInt8).toNat:=by show c.toNat=255;omega
  exact UInt8.toNat_inj.1 this
 ·rintro rfl;rfl
theorem IK {b:List UInt8}{p:Nat}(h:p<b.length):∃ c t,b.drop p=c::t/\(b.map E.byte)[((p:Nat):Int).toNat]?=some (E.byte c)/\t=b.drop (p+1):=by
 refine⟨b[p],b.drop (p+1),List.drop_eq_getElem_cons h,?_,rfl⟩
 rw[Int.toNat_natCast,List.getElem?_map,List.getElem?_eq_getElem h];rfl
theorem Ng [Known](b:List UInt8)(p m:Nat)(hb:b.length<=1099511627776)(hp:p<=b.length):AQ Tryz.prog 164 [.ptr 0 0] [rdC b p m] (.bool (UJ (b.drop p))) [rdC b (if UJ (b.drop p)=true then p+1 else p) m]:=by
 have hU:=Ym b
 rcases Nat.lt_or_ge p b.length with hlt|hge
 ·obtain⟨c,t,hd,hv,_⟩:=IK hlt
  have d1:decide ((p:Int)<((b.map E.byte).length:Int))=true:=by simp;omega
  have e1:IntKind.i64.wrap ((p:Int)+1)=((p+1:Nat):Int):=by rw[IntWalk.i64_in _ (by omega)];omega
  have e2:=Nf c
  rw[hd]
  cases hc:c==255 with
  | true=>
   rw[hc]at e2
   have he:UJ (c::t)=true:=hc
   rw[he,if_pos rfl]
   refine AQ.weak (Zl Tryz.func164 U Tryz.ntmps164 U U ?_)
   repeat'(first|rw[e1]|rw[e2]|(apply Zh Za;exact U)|(apply Zg Za;exact U)|(apply Zo Za;exact U)|refine Ze U U U Qt ?_|refine Zk U Qt U U ?_|refine Zd U Qt ?_|refine Zm Za U U U U ?_|(apply Zq 19 ZF;decide +kernel;kernel_rfl;kernel_rfl;kernel_rfl;exact U;exact U)|(apply Zt;(iterate 4 exact U))|exact AE.nil _ _ _ _|(apply Zw;exact U)|(apply Zz;exact U;exact U;decide +kernel;exact U)|(apply ZA;exact U)|exact AO.nil _ _ _|(apply Zs;(decide +kernel))|exact AOs.nil|exact ZI rfl rfl|(apply Zu Za;(iterate 6 exact U);(first|exact Qt|rotate_left);(first|with_reducible assumption|decide +kernel|exact U);(first|exact Zj rfl|with_reducible assumption|decide +kernel|rotate_left)))
   all_goals(apply Zp [0];(apply Zc Za;exact U);(iterate 4 exact U))
   all_goals rfl
  | false=>
   rw[hc]at e2
   have he:UJ (c::t)=false:=hc
   rw[he,if_neg (by simp)]
   refine AQ.weak (Zl Tryz.func164 U Tryz.ntmps164 U U ?_)
   repeat'(first|rw[e2]|(apply Zh Za;exact U)|(apply Zg Za;exact U)|(apply Zo Za;exact U)|refine Ya ?_|refine Ze U U U Qt ?_|refine Zk U Qt U U ?_|refine Zf U Qt ?_|refine Zm Za U U U U ?_|(apply Zq 19 ZF;decide +kernel;kernel_rfl;kernel_rfl;kernel_rfl;exact U;exact U)|(apply Zt;(iterate 4 exact U))|exact AE.nil _ _ _ _|(apply Zw;exact U)|(apply Zz;exact U;exact U;decide +kernel;exact U)|(apply ZA;exact U)|exact AO.nil _ _ _|(apply Zs;(decide +kernel))|exact AOs.nil|exact ZI rfl rfl|(apply Zu Za;(iterate 6 exact U);(first|exact Qt|rotate_left);(first|with_reducible assumption|decide +kernel|exact U);(first|exact Zj rfl|with_reducible assumption|decide +kernel|rotate_left)))
   all_goals(apply Zp [0];(apply Zc Za;exact U);(iterate 4 exact U))
   all_goals rfl
 ·have d1:decide ((p:Int)<((b.map E.byte).length:Int))=false:=by simp;omega
  have hd:b.drop p=[]:=List.drop_eq_nil_of_le hge
  rw[hd,if_neg (by simp[UJ])]
  refine AQ.weak (Zl Tryz.func164 U Tryz.ntmps164 U U ?_)
  repeat'(first|(apply Zh Za;exact U)|(apply Zg Za;exact U)|(apply Zo Za;exact U)|refine Ya ?_|refine Zr U U U Qt ?_|refine Zi U Qt U U ?_|refine Zf U Qt ?_|refine Zm Za U U U U ?_|(apply Zq 19 ZF;decide +kernel;kernel_rfl;kernel_rfl;kernel_rfl;exact U;exact U)|(apply Zt;(iterate 4 exact U))|exact AE.nil _ _ _ _|(apply Zw;exact U)|(apply Zz;exact U;exact U;decide +kernel;exact U)|(apply ZA;exact U)|exact AO.nil _ _ _|(apply Zs;(decide +kernel))|exact AOs.nil|exact ZI rfl rfl)
  all_goals(apply Zp [0];(apply Zc Za;exact U);(iterate 4 exact U))
  all_goals rfl
theorem GN [Known][KnownU8](h:Hd)(b:List UInt8)(p m:Nat)(hb:b.length<=1099511627776)(hp:p<=b.length)(hn:h.2.1<18446744073709551616):AR Tryz.prog 165 [.ptr 0 0,hd h] [rdC b p m] (match Y3 h (b.drop p) with
  | .error e=>.error (Ug e)
  | .ok (c,r)=>.ok (byE c,[rdC b (b.length-r.length) m])):=by
 obtain⟨k,n,o⟩:=h
 dsimp only at hn
 show AR Tryz.prog _ [.ptr 0 0,.agg [.int .i64 k,.int .u64 (n:Int),.bool o]] _ _
 have e1:IntKind.i64.wrap (((b.map E.byte).length:Int)-(p:Int))=((b.length-p:Nat):Int):=by rw[List.length_map,IntWalk.i64_in _ (by omega)];omega
 have e2:IntKind.u64.wrap ((b.length-p:Nat):Int)=((b.length-p:Nat):Int):=by rw[IntKind.wrap_u64];omega
 unfold Y3
 dsimp only
 have hl:(b.drop p).length=b.length-p:=List.length_drop ..
 rw[hl]
 by_cases hle:n<=b.length-p
 ·rw[if_pos hle]
  have d1:decide ((n:Int)<=((b.length-p:Nat):Int))=true:=by simp;omega
  have e3:IntKind.i64.wrap (n:Int)=(n:Int):=IntWalk.i64_in _ (by omega)
  have e4:IntKind.i64.wrap ((p:Int)+(n:Int))=((p+n:Nat):Int):=by rw[IntWalk.i64_in _ (by omega)];omega
  have hs:(b.take (((p+n:Nat):Int)).toNat).drop ((p:Nat):Int).toNat=(b.drop p).take n:=by
   rw[Int.toNat_natCast,Int.toNat_natCast,List.drop_take];congr 1;omega
  have hij:((p:Nat):Int)<=((p+n:Nat):Int):=by omega
  have hj:(((p+n:Nat):Int)).toNat<=b.length:=by omega
  have hcl:((b.drop p).take n).length<=140737488351232:=by rw[List.length_take,hl];omega
  have hU:=Ym b
  have c1:=UL _ hcl
  have c2:=GI _ hcl
  have eR:b.length-((b.drop p).drop n).length=p+n:=by rw[List.length_drop,hl];omega
  by_cases h3:k=3
  ·subst h3
   cases hv:ZM ((b.drop p).take n) with
   | true=>
    rw[hv]at c2
    rw[if_neg (by simp)]
    dsimp only
    rw[eR]
    refine Zl Tryz.func165 rfl Tryz.ntmps165 rfl rfl ?_
    repeat'(first|rw[d1]|rw[e1]|rw[e2]|rw[e3]|rw[e4]|(apply Zb (Z2 8);kernel_rfl;(iterate 4 exact U))|(apply Zb (Z2 3);kernel_rfl;(iterate 4 exact U))|(apply Zb (c1);kernel_rfl;(iterate 4 exact U))|(apply Zb (c2);kernel_rfl;(iterate 4 exact U))|(apply QZ Za;(iterate 9 exact U);exact Qb;(first|with_reducible assumption|decide|(simp only[List.length_cons,List.length_drop,List.length_take,List.length_append,Int.toNat_natCast]at *;omega));(first|with_reducible assumption|decide|(simp only[List.length_cons,List.length_drop,List.length_take,List.length_append,Int.toNat_natCast]at *;omega));(first|with_reducible assumption|exact U))|(apply Zh Za;exact U)|(apply Zg Za;exact U)|refine Ya ?_|refine Ze U U U Qt ?_|refine Zi U Qt U U ?_|refine Zm Za U U U U ?_|(apply Zq 7 ZF;decide +kernel;kernel_rfl;kernel_rfl;kernel_rfl;exact U;exact U)|(apply Zq 13 ZF;decide +kernel;kernel_rfl;kernel_rfl;kernel_rfl;exact U;exact U)|(apply Zq 16 ZF;decide +kernel;kernel_rfl;kernel_rfl;kernel_rfl;exact U;exact U)|(apply Zt;(iterate 4 exact U))|exact AE.nil _ _ _ _|(apply Zw;exact U)|(apply Zz;exact U;exact U;decide +kernel;exact U)|(apply ZA;exact U)|exact AO.nil _ _ _|(apply Zs;(decide +kernel))|exact AOs.nil|exact ZI rfl rfl)
    all_goals(apply JW (rfl) [0];(apply Zc Za;exact U);(iterate 4 exact U))
    all_goals rfl
   | false=>
    rw[hv]at c2
    rw[if_pos ⟨rfl,rfl⟩]
    dsimp only
    refine Zl Tryz.func165 rfl Tryz.ntmps165 rfl rfl ?_
    repeat'(first|rw[d1]|rw[e1]|rw[e2]|rw[e3]|rw[e4]|(apply Zb (Z2 8);kernel_rfl;(iterate 4 exact U))|(apply Yi [] (Vu 3);kernel_rfl;(iterate 6 exact U);intro bx2 fr2 hle2)|(apply Zb (c1);kernel_rfl;(iterate 4 exact U))|(apply Zb (c2);kernel_rfl;(iterate 4 exact U))|(apply QZ Za;(iterate 9 exact U);exact Qb;(first|with_reducible assumption|decide|(simp only[List.length_cons,List.length_drop,List.length_take,List.length_append,Int.toNat_natCast]at *;omega));(first|with_reducible assumption|decide|(simp only[List.length_cons,List.length_drop,List.length_take,List.length_append,Int.toNat_natCast]at *;omega));(first|with_reducible assumption|exact U))|(apply Zh Za;exact U)|(apply Zg Za;exact U)|(apply Zo Za;exact U)|refine Ya ?_|refine Ze U U U Qt ?_|refine Zi U Qt U U ?_|refine Zm Za U U U U ?_|(apply Zq 13 ZF;decide +kernel;kernel_rfl;kernel_rfl;kernel_rfl;exact U;exact U)|(apply Zq 16 ZF;decide +kernel;kernel_rfl;kernel_rfl;kernel_rfl;exact U;exact U)|(apply Zt;(iterate 4 exact U))|exact AE.nil _ _ _ _|(apply Zw;exact U)|(apply Zz;exact U;exact U;decide +kernel;exact U)|(apply ZA;exact U)|exact AO.nil _ _ _|(apply Zs;(decide +kernel))|exact AOs.nil|exact ZI rfl rfl)
    all_goals(apply V2;exact U;(first|exact Nat.zero_le _|exact Nat.le_trans (Nat.le_of_ble_eq_true rfl) (by assumption));exact U)
  ·have k3:(k != 3)=true:=by simpa using h3
   rw[if_neg (by rintro⟨h,_⟩;exact h3 h)]
   dsimp only
   rw[eR]
   refine Zl Tryz.func165 rfl Tryz.ntmps165 rfl rfl ?_
   repeat'(first|rw[d1]|rw[e1]|rw[e2]|rw[e3]|rw[e4]|(apply Zb (Z2 8);kernel_rfl;(iterate 4 exact U))|(apply Zb (Z2 3);kernel_rfl;(iterate 4 exact U))|(apply Zb (c1);kernel_rfl;(iterate 4 exact U))|(apply QZ Za;(iterate 9 exact U);exact Qb;(first|with_reducible assumption|decide|(simp only[List.length_cons,List.length_drop,List.length_take,List.length_append,Int.toNat_natCast]at *;omega));(first|with_reducible assumption|decide|(simp only[List.length_cons,List.length_drop,List.length_take,List.length_append,Int.toNat_natCast]at *;omega));(first|with_reducible assumption|exact U))|(apply Zh Za;exact U)|(apply Zg Za;exact U)|refine Ya ?_|refine Zn U U U Qt ?_|refine Zk U Qt U U ?_|refine Zm Za U U U U ?_|(apply Zq 7 ZF;decide +kernel;kernel_rfl;kernel_rfl;kernel_rfl;exact U;exact U)|(apply Zq 13 ZF;decide +kernel;kernel_rfl;kernel_rfl;kernel_rfl;exact U;exact U)|(apply Zq 16 ZF;decide +kernel;kernel_rfl;kernel_rfl;kernel_rfl;exact U;exact U)|(apply Zt;(iterate 4 exact U))|exact AE.nil _ _ _ _|(apply Zw;exact U)|(apply Zz;exact U;exact U;decide +kernel;exact U)|(apply ZA;exact U)|exact AO.nil _ _ _|(apply Zs;(decide +kernel))|exact AOs.nil|exact ZI rfl rfl)
   all_goals(apply JW (rfl) [0];(apply Zc Za;exact U);(iterate 4 exact U))
   all_goals rfl
 ·rw[if_neg hle]
  dsimp only
  have d1:decide ((n:Int)<=((b.length-p:Nat):Int))=false:=by simp;omega
  refine Zl Tryz.func165 rfl Tryz.ntmps165 rfl rfl ?_
  repeat'(first|rw[d1]|rw[e1]|rw[e2]|(apply Yi [] (Vu 8);kernel_rfl;(iterate 6 exact U);intro bx2 fr2 hle2)|(apply Zh Za;exact U)|(apply Zg Za;exact U)|(apply Zo Za;exact U)|refine Zm Za U U U U ?_|(apply Zq 13 ZF;decide +kernel;kernel_rfl;kernel_rfl;kernel_rfl;exact U;exact U)|(apply Zt;(iterate 4 exact U))|exact AE.nil _ _ _ _|(apply Zw;exact U)|(apply Zz;exact U;exact U;decide +kernel;exact U)|(apply ZA;exact U)|exact AO.nil _ _ _|(apply Zs;(decide +kernel))|exact AOs.nil|exact ZI rfl rfl)
  all_goals(apply V2;exact U;(first|exact Nat.zero_le _|exact Nat.le_trans (Nat.le_of_ble_eq_true rfl) (by assumption));exact U)
end Go.Proofs.YtmljabhmajehnaaGreatDoor
end
