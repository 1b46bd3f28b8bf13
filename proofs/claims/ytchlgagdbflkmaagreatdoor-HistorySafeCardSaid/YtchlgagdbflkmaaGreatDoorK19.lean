/- Package head over abstract states. -/
import Derived.Test.YtchlgagdbflkmaaGreatDoorK14
import Derived.Test.YtchlgagdbflkmaaGreatDoorK12
import Derived.Test.YtchlgagdbflkmaaGreatDoorK10
import Derived.Test.YtchlgagdbflkmaaGreatDoorK15
import Derived.Test.YtchlgagdbflkmaaGreatDoorK18
set_option linter.unusedVariables false
set_option linter.unusedSimpArgs false
section
open Go.RowKit Go.Pl Go.Av
namespace Go.Proofs.YtchlgagdbflkmaaGreatDoor
set_option maxHeartbeats 4000000
theorem Og [Known](n:Nat):AP Tryz.prog 277 [.int .u64 (n:Int)] (.int .i64 (ZF n)) []:=by
 refine Zl Tryz.func277 rfl Tryz.ntmps277 rfl rfl ?_
 repeat'(first|(apply Zh Za;exact Z)|(apply Zs Za;exact Z)|(apply WW;exact Z;all_goals intro hb))
 all_goals refine Xr (.cons _ _ _ _ (.tmp _ _ rfl) .nil) (ZH _) rfl ?_ rfl
 all_goals simp only[decide_eq_true_eq,decide_eq_false_iff_not]at *
 all_goals(congr 1;unfold ZF;(repeat' split)<;>omega)
theorem N0 [Known](m:Int):AP Tryz.prog 268 [.int .i64 m] (.bool (JV m)) []:=by
 refine Zl Tryz.func268 rfl Tryz.ntmps268 rfl rfl ?_
 repeat'(first|(apply Zg Za;exact Z)|(apply Zh Za;exact Z)|(apply Zd;(iterate 3 exact Z);(first|with_reducible assumption|(solve|simp only[bn])))|(apply Zr;(iterate 3 exact Z);(first|with_reducible assumption|(solve|simp only[bn])))|(apply Zo;(iterate 3 exact Z);(first|with_reducible assumption|(solve|simp only[bn])))|(apply Ym;exact Z;exact Z;all_goals intro hb)|(apply Zj;exact Z;(first|with_reducible assumption|(solve|simp only[bn]));exact Z;exact Z)|(apply Zi;exact Z;(first|with_reducible assumption|(solve|simp only[bn]));exact Z;exact Z))
 all_goals refine Xr (.cons _ _ _ _ (.tmp _ _ rfl) .nil) (ZH _) rfl ?_ rfl
 all_goals(congr 1;rw[Bool.eq_iff_iff];simp[JV]at *;omega)
def hd (h:Hd):D:=.agg [.int .i64 h.1,.int .u64 (h.2.1:Int),.bool h.2.2]
set_option maxRecDepth 2000 in
theorem N1 [Known](h:Hd):AP Tryz.prog 275 [hd h] (.bool (Z6 h)) []:=by
 refine Zl Tryz.func275 rfl Tryz.ntmps275 rfl rfl ?_
 repeat'(first|(apply VP (N0 _);kernel_rfl;(iterate 4 exact Z))|(apply Zg Za;exact Z)|(apply Zh Za;exact Z)|(apply Zd;(iterate 3 exact Z);(first|with_reducible assumption|(solve|simp only[bn])))|(apply Zr;(iterate 3 exact Z);(first|with_reducible assumption|(solve|simp only[bn])))|(apply Ym;exact Z;exact Z;all_goals intro hb)|(apply Zj;exact Z;(first|with_reducible assumption|(solve|simp only[bn]));exact Z;exact Z)|(apply Zi;exact Z;(first|with_reducible assumption|(solve|simp only[bn]));exact Z;exact Z)|(apply WW;exact Z;all_goals intro hb)|refine UG Za Z Z Z Z Qk Qk Z Z Z ?_)
 all_goals refine Xr (.cons _ _ _ _ (.tmp _ _ rfl) .nil) (ZH _) rfl ?_ rfl
 all_goals(obtain⟨m,n,o⟩:=h;congr 1;rw[Bool.eq_iff_iff];simp_all [Z6,JV];try omega)
theorem Ls (n:Nat):(ZF n=0/\YB n=n/\n<24)\/(ZF n=1/\YB n=24)\/(ZF n=2/\YB n=25)\/(ZF n=4/\YB n=26)\/(ZF n=8/\YB n=27):=by
 unfold ZF YB
 by_cases h1:n<24
 ·simp[h1]
 by_cases h2:n<256
 ·simp[h1,h2]
 by_cases h3:n<65536
 ·simp[h1,h2,h3]
 by_cases h4:n<4294967296
 ·simp[h1,h2,h3,h4]
 ·simp[h1,h2,h3,h4]
theorem Lt [Known](n:Nat):AP Tryz.prog 276 [.int .u64 (n:Int)] (.int .u8 (YB n)) []:=by
 refine Zl Tryz.func276 rfl Tryz.ntmps276 rfl rfl ?_
 repeat'(first|(apply VP (Og _);kernel_rfl;(iterate 4 exact Z))|(apply Zg Za;exact Z)|(apply Zh Za;exact Z)|(apply Zs Za;exact Z)|(apply WW;exact Z;all_goals intro hb))
 all_goals refine Xr (.cons _ _ _ _ (.tmp _ _ rfl) .nil) (ZH _) rfl ?_ rfl
 all_goals(rcases Ls n with⟨h1,h2,h3⟩ | ⟨h1,h2⟩ | ⟨h1,h2⟩ | ⟨h1,h2⟩ | ⟨h1,h2⟩<;>simp_all)
 all_goals(rw[IntKind.wrap_u8'];omega)
theorem I0 (m:Int)(i:Nat)(hm:0<=m/\m<=7)(hi:i<32):bits .or .u8 (IntKind.u8.wrap (IntKind.u8.wrap m*2 ^ min (Int.toNat 5) IntKind.u8.bits)) (i:Int)=((Vj m.toNat i).toNat:Int):=by
 have e2:IntKind.u8.wrap (IntKind.u8.wrap m*2 ^ min (Int.toNat 5) IntKind.u8.bits)=(m.toNat:Int)*32:=by
  rw[show min (Int.toNat 5) IntKind.u8.bits=5 from rfl,IntKind.wrap_u8',IntKind.wrap_u8'];omega
 rw[e2,BY m.toNat i (by omega) hi]
 unfold Vj
 rw[UInt8.toNat_ofNat']
 omega
theorem Lu {h:Hd}(hr:Z6 h=true):0<=h.1/\h.1<=7:=by
 obtain⟨m,n,o⟩:=h
 cases o<;>simp[Z6,JV]at hr<;>omega
theorem Lv (n q:Nat)(hq:q<8):E.int .u8 (IntKind.u8.wrap ((n:Int).fdiv (2 ^ min (IntKind.i64.wrap (8*(q:Int))).toNat IntKind.u64.bits)))=E.byte (UInt8.ofNat (n/256 ^ q)):=by
 have e:IntKind.i64.wrap (8*(q:Int))=((8*q:Nat):Int):=by rw[IntWalk.i64_in _ (by omega)];omega
 rw[e,Int.toNat_natCast,show min (8*q) IntKind.u64.bits=8*q from Nat.min_eq_left (by show 8*q<=64;omega)]
 rw[show((n:Int).fdiv (2 ^ (8*q)))=((n/256 ^ q:Nat):Int) from by
  have e:(2:Int) ^ (8*q)=((256 ^ q:Nat):Int):=by
   rw[show(256:Nat)=2 ^ 8 from rfl,<- Nat.pow_mul]
   simp
  rw[e,Int.fdiv_eq_ediv_of_nonneg _ (Int.natCast_nonneg _),<- Int.natCast_ediv]]
 rw[IntKind.wrap_u8']
 unfold E.byte
 rw[UInt8.toNat_ofNat']
 congr 1
theorem I4 [Known](h:Hd)(hn:h.2.1<18446744073709551616):AP Tryz.prog 257 [hd h] (.tup [byE (if Z6 h then ZY h else []),.int .i64 (if Z6 h then 0 else 3)]) []:=by
 refine AP.weak ?_
 have HR:=@Lu h
 have HN:=hid hn
 clear hn
 refine Zl Tryz.func257 rfl Tryz.ntmps257 rfl rfl ?_
 repeat'(first|(apply VP (N1 h);kernel_rfl;(iterate 4 exact Z))|(apply VP (Lt _);kernel_rfl;(iterate 4 exact Z))|(apply VP (Og _);kernel_rfl;(iterate 4 exact Z))|refine OW Z Z (by decide) Z ?_|(apply Zg Za;exact Z)|(apply Zh Za;exact Z)|(apply Zs Za;exact Z)|(apply WW;exact Z;all_goals intro hb)|refine K4 Za Z Z Z Z Z Z Z Z Z Z Z Z ?_|(apply ZW 7 ZG;decide +kernel;kernel_rfl;kernel_rfl;exact Z;exact Z)|(apply Yb;(iterate 3 exact Z))|refine AD.nil _|exact Yv rfl)
 ·refine RR (.cons _ _ _ _ (.tmp _ _ rfl) (.cons _ _ _ _ (.tmp _ _ rfl) .nil)) rfl ?_
  simp_all [byE]
 ·refine RR (.cons _ _ _ _ (.tmp _ _ rfl) (.cons _ _ _ _ (.tmp _ _ rfl) .nil)) rfl ?_
  have hr:Z6 h=true:=by simpa using(‹(!Z6 h)=false›)
  rw[if_pos hr,if_pos hr,show ZY h=[Vj h.1.toNat 31] by simp[ZY,hb],show E.int IntKind.u8 (bits .or .u8 (IntKind.u8.wrap (IntKind.u8.wrap h.1*2 ^ min (Int.toNat 5) IntKind.u8.bits)) 31)=E.byte (Vj h.1.toNat 31) from congrArg _ (I0 h.1 31 (HR hr) (by omega))]
  rfl
 rename_i hb1
 have hr:Z6 h=true:=by simpa using hb1
 have hw:ZY h=Vj h.1.toNat (YB h.2.1)::beN h.2.1 (ZF h.2.1):=by simp[ZY,hb]
 have hlen:(beN h.2.1 (ZF h.2.1)).length=ZF h.2.1:=YG _ _
 have hf8:=X3 h.2.1
 refine Yf (fun k tm bx fr=>∃(i c:Nat) (L:List E),k+i=ZF h.2.1/\c=L.length/\c=i+1/\L=((ZY h).take (i+1)).map E.byte/\tm=[(33,.int .i64 (i:Int)),(32,.int .i64 (ZF h.2.1:Int)),(5,.int .i64 (ZF h.2.1:Int)),(4,.sl (.own 0) L),(3,.int .i64 0),(1,.ptr 0 0)]/\bx=[[.int .i64 h.1,.int .u64 (h.2.1:Int),.bool h.2.2]]/\fr=[⟨c,1,5⟩]) (ZF h.2.1+1) (Lands.mk' (m:=ZF h.2.1) (Nat.lt_succ_self _) ⟨0,1,[E.byte (Vj h.1.toNat (YB h.2.1))],rfl,rfl,rfl,by rw[hw];rfl,rfl,rfl,rfl⟩ ?_ rfl rfl rfl rfl rfl rfl) ?_
 ·repeat'(first|exact Av.Sub.nil|refine Av.Sub.cons rfl ?_|refine Av.Sub.cons ?_ ?_)
  have e:=congrArg (fun x:Int=>D.sl (.own 0) [E.int .u8 x]) (I0 h.1 (YB h.2.1) (HR hr) (by have:=IQ h.2.1;omega))
  exact e
 rintro k tm bx fr ⟨i,c,L,hk,hc,hi,hL,rfl,rfl,rfl⟩
 have hU:Uni 1 L:=hL ▸ Y7 _
 repeat'(first|(apply Yy;exact Z;exact Z;rotate_left;exact Z)|(apply Zg Za;exact Z)|(apply Zh Za;exact Z)|(apply WW;exact Z;all_goals intro hb)|refine K4 Za Z Z Z Z Z Z Z Z Z Z Z Z ?_|(apply Z3 Za;(iterate 6 exact Z);(first|with_reducible assumption|exact Z|rotate_left);exact Z;exact Z;(first|exact Zk rfl|with_reducible assumption|rotate_left);(first|exact Zk rfl|with_reducible assumption|rotate_left);(first|exact Qb|rotate_left);(first|exact Qb|rotate_left);(first|exact Qb|rotate_left);exact Z;exact Z))
 ·have hlt:i<ZF h.2.1:=by have:=of_decide_eq_true hb;omega
  have hx:IntKind.i64.wrap (IntKind.i64.wrap (↑(ZF h.2.1)-1) - ↑i)=((ZF h.2.1-1-i:Nat):Int):=by
   rw[IntWalk.i64_in ((ZF h.2.1:Int)-1) (by omega),IntWalk.i64_in _ (by omega)];omega
  refine Lands.mk' (m:=k-1) (by omega) ⟨i+1,L.length+1,L++[E.byte (UInt8.ofNat (h.2.1/256 ^ (ZF h.2.1-1-i)))],by omega,by simp,by omega,?_,rfl,rfl,rfl⟩ ?_ rfl rfl rfl rfl rfl rfl
  ·rw[hL,hw,List.take_succ_cons,List.take_succ_cons,QX _ _ _ hlt]
   simp
  ·refine .cons ?_ (.cons rfl (.cons rfl (.cons ?_ (.cons rfl (.cons rfl .nil)))))
   ·exact congrArg (D.int .i64) (IntWalk.i64_in _ (by omega))
   ·have e:=congrArg (fun x=>D.sl (.own 0) (L++[x])) (Lv h.2.1 (ZF h.2.1-1-i) (by omega))
    rw[<- hx]at e
    exact e
 ·have:=of_decide_eq_true hb;show L.length+1<=maxLen;unfold maxLen;omega
 ·have:=of_decide_eq_true hb;show(L.length+1)*1<=140737488355328;omega
 ·have:=of_decide_eq_true hb
  have hx:IntKind.i64.wrap (IntKind.i64.wrap (↑(ZF h.2.1)-1) - ↑i)=((ZF h.2.1-1-i:Nat):Int):=by
   rw[IntWalk.i64_in ((ZF h.2.1:Int)-1) (by omega),IntWalk.i64_in _ (by omega)];omega
  rw[hx,IntWalk.i64_in _ (by omega)];omega
 ·refine RR (.cons _ _ _ _ (.tmp _ _ rfl) (.cons _ _ _ _ (.tmp _ _ rfl) .nil)) rfl ?_
  rw[if_pos hr,if_pos hr,hL]
  have:=of_decide_eq_false hb
  rw[List.take_of_length_le (by rw[hw,List.length_cons,hlen];omega)]
def rdD (r:Hd × Nat × Nat):D:=.tup [hd r.1,.int .i64 (r.2.1:Int),.int .i64 (r.2.2:Int)]
theorem N2 (b:List UInt8)(p:Int)(h0:0<=p)(h1:p<(b.length:Int)):∃ c r,b.drop p.toNat=c::r/\r.length+p.toNat+1=b.length/\(b.map E.byte)[p.toNat]?=some (E.byte c)/\∀ j:Nat,j<r.length->(b.map E.byte)[p.toNat+1+j]?=(r.map E.byte)[j]? := by
 have h:p.toNat<b.length:=by omega
 refine⟨b[p.toNat],b.drop (p.toNat+1),List.drop_eq_getElem_cons h,by rw[List.length_drop];omega,by simp[h],fun j hj=>by simp[List.getElem?_drop]⟩
theorem B4 (c:UInt8):((c.toNat:Int)).fdiv (2 ^ min (Int.toNat 5) IntKind.u8.bits)=((c.toNat/32:Nat):Int):=by
 rw[show min (Int.toNat 5) IntKind.u8.bits=5 from rfl,Int.fdiv_eq_ediv_of_nonneg _ (by decide)]
 omega
theorem O7 {b:List UInt8}{p:Nat}{c:UInt8}{r:List UInt8}(h:b.drop p=c::r)(h1:c.toNat % 32<24):YH b p=((((c.toNat/32:Nat):Int),c.toNat % 32,false),p+1,0):=by
 unfold YH;rw[h];simp only;rw[if_pos h1]
theorem G1 {b:List UInt8}{p:Nat}{c:UInt8}{r:List UInt8}(h:b.drop p=c::r)(h1:c.toNat % 32=31)(h2:JV (c.toNat/32:Nat)=true):YH b p=((((c.toNat/32:Nat):Int),0,true),p+1,0):=by
 unfold YH;rw[h];simp only;rw[if_neg (by omega),if_pos ⟨h1,h2⟩]
theorem TM {b:List UInt8}{p:Nat}{c:UInt8}{r:List UInt8}(h:b.drop p=c::r)(h1:27<c.toNat % 32)(h2:c.toNat % 32=31->JV (c.toNat/32:Nat)=false):YH b p=((0,0,false),0,3):=by
 unfold YH;rw[h];simp only;rw[if_neg (by omega),if_neg (fun hh=>by have:=h2 hh.1;rw[hh.2]at this;cases this),if_pos h1]
theorem I5 {b:List UInt8}{p:Nat}{c:UInt8}{r:List UInt8}(h:b.drop p=c::r)(h1:¬ c.toNat % 32<24)(h2:¬ 27<c.toNat % 32)(h3:r.length<2 ^ (c.toNat % 32-24)):YH b p=((0,0,false),0,8):=by
 unfold YH;rw[h];simp only;rw[if_neg h1,if_neg (by omega),if_neg h2,if_pos h3]
theorem G2 {b:List UInt8}{p:Nat}{c:UInt8}{r:List UInt8}(h:b.drop p=c::r)(h1:¬ c.toNat % 32<24)(h2:¬ 27<c.toNat % 32)(h3:¬ r.length<2 ^ (c.toNat % 32-24)):YH b p=((((c.toNat/32:Nat):Int),WJ (r.take (2 ^ (c.toNat % 32-24))),false),p+1+2 ^ (c.toNat % 32-24),0):=by
 unfold YH;rw[h];simp only;rw[if_neg h1,if_neg (by omega),if_neg h2,if_neg h3]
theorem N3 (v:Nat)(h:¬ v<24)(h':¬ 27<v):IntKind.i64.wrap (1*2 ^ min (IntKind.u8.wrap ((v:Int)-24)).toNat IntKind.i64.bits)=((2 ^ (v-24):Nat):Int)/\2 ^ (v-24)<=8:=by
 obtain rfl|rfl|rfl|rfl:v=24\/v=25\/v=26\/v=27:=by omega
 all_goals decide
theorem Lw [Known](b:List UInt8)(p:Int)(hb:b.length<=4611686018427387904):AP Tryz.prog 241 [byE b,.int .i64 p] (rdD (X5 b p)) []:=by
 have HB:=hid hb
 clear hb
 have HU:=Y7 b
 refine Zl Tryz.func241 rfl Tryz.ntmps241 rfl rfl ?_
 repeat'(first|(apply Zg Za;exact Z)|(apply Zh Za;exact Z)|(apply Zs Za;exact Z)|(apply Zd;(iterate 3 exact Z);(first|with_reducible assumption|(solve|simp only[bn])))|(apply Zo;(iterate 3 exact Z);(first|with_reducible assumption|(solve|simp only[bn])))|(apply Ym;exact Z;exact Z;all_goals intro hb)|(apply Zj;exact Z;(first|with_reducible assumption|(solve|simp only[bn]));exact Z;exact Z)|(apply Zi;exact Z;(first|with_reducible assumption|(solve|simp only[bn]));exact Z;exact Z)|(apply Ze;exact Z;(first|with_reducible assumption|(solve|simp only[bn])))|(apply WW;exact Z;all_goals intro hb)|refine Zn Za Z Z Z Z ?_)
 ·(apply Xr (ts:=[]);(apply Zc Za;exact Z);exact ZH _;exact Z;rotate_left;exact Z)
  have:p<0:=of_decide_eq_true hb
  rw[show X5 b p=_ from if_pos (.inl this)];rfl
 ·(apply Xr (ts:=[]);(apply Zc Za;exact Z);exact ZH _;exact Z;rotate_left;exact Z)
  have:p>((b.map E.byte).length:Int):=of_decide_eq_true hb
  rw[List.length_map]at this
  rw[show X5 b p=_ from if_pos (.inr this)];rfl
 ·(apply Xr (ts:=[]);(apply Zc Za;exact Z);exact ZH _;exact Z;rotate_left;exact Z)
  have:p=((b.map E.byte).length:Int):=by simpa using hb
  rw[List.length_map]at this
  have hd:b.drop p.toNat=[]:=by rw[List.drop_eq_nil_iff];omega
  rw[show X5 b p=YH b p.toNat from if_neg (by omega)]
  unfold YH
  rw[hd];rfl
 rename_i g1 g2
 have h0:0<=p:=by have:=of_decide_eq_false g1;omega
 have h1:p<(b.length:Int):=by
  have a1:=of_decide_eq_false g2
  rw[List.length_map]at a1 hb
  have a2:p ≠ (b.length:Int):=by simpa using hb
  omega
 obtain⟨c,r,hd,hl,hv,hr⟩:=N2 b p h0 h1
 have HH:=hid (show X5 b p=YH b p.toNat from if_neg (by omega))
 have HD:=hid hd
 have HL:=hid hl
 have HR:=hid hr
 have e1:IntKind.i64.wrap ((c.toNat/32:Nat):Int)=((c.toNat/32:Nat):Int):=IntWalk.i64_in _ (by have:=c.toNat_lt;omega)
 have e2:IntKind.u64.wrap ((c.toNat % 32:Nat):Int)=((c.toNat % 32:Nat):Int):=by rw[IntKind.wrap_u64];omega
 have e3:IntKind.i64.wrap (p+1)=((p.toNat+1:Nat):Int):=by have:=HB.out;rw[IntWalk.i64_in _ (by omega)];omega
 clear hb g1 g2 hd hl hr
 repeat'(first|rw[Bd c]|rw[B4 c]|rw[e1]|rw[e2]|rw[e3]|(apply VP (N0 _);kernel_rfl;(iterate 4 exact Z))|(apply Zg Za;exact Z)|(apply Zh Za;exact Z)|(apply Zs Za;exact Z)|(apply Zd;(iterate 3 exact Z);(first|with_reducible assumption|(solve|simp only[bn])))|(apply Zr;(iterate 3 exact Z);(first|with_reducible assumption|(solve|simp only[bn])))|(apply Ym;exact Z;exact Z;all_goals intro hb)|(apply Zj;exact Z;(first|with_reducible assumption|(solve|simp only[bn]));exact Z;exact Z)|(apply Zi;exact Z;(first|with_reducible assumption|(solve|simp only[bn]));exact Z;exact Z)|(apply Zf;exact Z;(first|with_reducible assumption|(solve|simp only[bn])))|(apply WW;exact Z;all_goals intro hb)|refine Zn Za Z Z Z Z ?_|(apply Zw Za;(iterate 6 exact Z);(first|exact Qb|rotate_left);(first|with_reducible assumption|exact Z);(first|exact Zk rfl|with_reducible assumption|rotate_left))|(apply Yy;exact Z;exact Z;(first|exact Qb|rotate_left);exact Z)|(apply OW;exact Z;exact Z;(first|exact Qb|rotate_left);exact Z))
 ·(apply Xr (ts:=[]);(apply Zc Za;exact Z);exact ZH _;exact Z;rotate_left;exact Z)
  rw[HH.out,O7 HD.out (by have:=of_decide_eq_true hb;omega)];rfl
 ·(apply Xr (ts:=[]);(apply Zc Za;exact Z);exact ZH _;exact Z;rotate_left;exact Z)
  rw[HH.out,G1 HD.out (by have:=of_decide_eq_false (‹decide _=false›);simp at *;omega) hb];rfl
 iterate 2
  ·(apply Xr (ts:=[]);(apply Zc Za;exact Z);exact ZH _;exact Z;rotate_left;exact Z)
   rw[HH.out,TM HD.out (by have:=of_decide_eq_true hb;omega) (by intro hh;first|assumption|simp_all)];rfl
  ·(apply Xr (ts:=[]);(apply Zc Za;exact Z);exact ZH _;exact Z;rotate_left;exact Z)
   have g1:=of_decide_eq_true hb
   have g2:=of_decide_eq_false (‹decide (((c.toNat % 32:Nat):Int)>27)=false›)
   have g3:=of_decide_eq_false (‹decide (((c.toNat % 32:Nat):Int)<24)=false›)
   have g4:=N3 (c.toNat % 32) (by omega) (by omega)
   have g5:=HL.out
   have g6:=HB.out
   rw[g4.1,List.length_map,IntWalk.i64_in _ (by omega)]at g1
   rw[HH.out,I5 HD.out (by omega) (by omega) (by omega)];rfl
  ·have g1:=of_decide_eq_false hb
   have g2:=of_decide_eq_false (‹decide (((c.toNat % 32:Nat):Int)>27)=false›)
   have g3:=of_decide_eq_false (‹decide (((c.toNat % 32:Nat):Int)<24)=false›)
   have g4:=N3 (c.toNat % 32) (by omega) (by omega)
   have g5:=HL.out
   have g6:=HB.out
   rw[g4.1,List.length_map,IntWalk.i64_in _ (by omega)]at g1
   rw[g4.1]
   have g7:=HH.out.trans (G2 HD.out (by omega) (by omega) (by omega))
   generalize 2 ^ (c.toNat % 32-24)=m at g1 g4 g7 ⊢
   have g8:=g4.2
   have G7:=hid g7
   clear hb g2 g3 g4 g7
   refine Yf (fun k tm bx fr=>∃ i,k+i=m/\tm=[(75,.int .i64 (i:Int)),(74,.int .i64 (m:Int)),(9,.int .i64 (m:Int)),(7,.ptr 1 0),(1,.int .i64 ((p.toNat+1:Nat):Int)),(0,byE b),(4,.ptr 0 0)]/\bx=[[.int .i64 0,.int .u64 0,.bool false],[.int .i64 ((c.toNat/32:Nat):Int),.int .u64 (WJ (r.take i):Nat),.bool false]]/\fr=[]) (m+1) (Lands.mk' (m:=m) (Nat.lt_succ_self _) ⟨0,rfl,rfl,rfl,rfl⟩ ?_ rfl rfl rfl rfl rfl rfl) ?_
   ·repeat'(first|exact Av.Sub.nil|refine Av.Sub.cons rfl ?_)
   rintro k tm bx fr ⟨i,hk,rfl,rfl,rfl⟩
   rcases Nat.lt_or_ge i m with hlt|hge
   ·have hd:decide ((i:Int)<(m:Int))=true:=by simp;omega
    have hir:i<r.length:=by omega
    have hv':(b.map E.byte)[((p.toNat+1+i:Nat):Int).toNat]?=some (E.byte r[i]):=by
     rw[Int.toNat_natCast,HR.out i hir];simp[hir]
    have e4:IntKind.i64.wrap (((p.toNat+1:Nat):Int)+(i:Int))=((p.toNat+1+i:Nat):Int):=by rw[IntWalk.i64_in _ (by omega)];omega
    have e7:IntKind.i64.wrap ((i:Int)+1)=((i+1:Nat):Int):=by rw[IntWalk.i64_in _ (by omega)];omega
    have e6:IntKind.u64.wrap ((r[i].toNat:Nat):Int)=((r[i].toNat:Nat):Int):=by have:=r[i].toNat_lt;rw[IntKind.wrap_u64];omega
    have e5:bits .or .u64 (IntKind.u64.wrap (((WJ (r.take i):Nat):Int)*2 ^ min (Int.toNat 8) IntKind.u64.bits)) ((r[i].toNat:Nat):Int)=((WJ (r.take (i+1)):Nat):Int):=by
     have h9:=GX (WJ (r.take i)) r[i] (KO r i (by omega))
     rw[show((2:Int) ^ min (Int.toNat 8) IntKind.u64.bits)=256 from rfl,h9.1,h9.2,TG r i hir]
    repeat'(first|rw[e4]|rw[e5]|rw[e6]|rw[e7]|(apply Zg Za;exact Z)|(apply Zh Za;exact Z)|(apply Ze;exact Z;(first|with_reducible assumption|(solve|simp only[bn])))|(apply ZW 10 ZG;decide +kernel;kernel_rfl;kernel_rfl;exact Z;exact Z)|(apply Yb;(iterate 3 exact Z))|refine AD.nil _|exact Yv rfl|(apply Zw Za;(iterate 6 exact Z);(first|exact Qb|rotate_left);(first|with_reducible assumption|exact Z);(first|exact Zk rfl|with_reducible assumption|rotate_left))|(apply OW;exact Z;exact Z;(first|exact Qb|rotate_left);exact Z))
    refine Lands.mk' (m:=k-1) (by omega) ⟨i+1,by omega,rfl,rfl,rfl⟩ ?_ rfl rfl rfl rfl rfl rfl
    repeat'(first|exact Av.Sub.nil|refine Av.Sub.cons rfl ?_)
   ·have hd:decide ((i:Int)<(m:Int))=false:=by simp;omega
    repeat'(first|(apply Zh Za;exact Z)|(apply Zf;exact Z;(first|with_reducible assumption|(solve|simp only[bn]))))
    (apply Xr (ts:=[]);(apply Zc Za;exact Z);exact ZH _;exact Z;rotate_left;exact Z)
    have h9:i=m:=by omega
    subst h9
    rw[G7.out,IntWalk.i64_in _ (by omega)]
    rfl
  ·have g2:=of_decide_eq_false hb
   have g3:=of_decide_eq_false (‹decide (((c.toNat % 32:Nat):Int)<24)=false›)
   rw[IntKind.wrap_u8'];omega
abbrev VV (e:Nat):D:=.iface 268 (.agg [.int .i64 (e:Int)])
abbrev rdC (b:List UInt8)(p m:Nat):List D:=[byE b,.int .i64 (p:Int),.int .i64 (m:Int)]
theorem ZV [Known](e:Int):AP Tryz.prog 203 [.bool true,.int .i64 e] (.tup []) []:=by
 refine AP.ofA (Zl Tryz.func203 Z Tryz.ntmps203 Z Z ?_)
 repeat'(first|(apply Zh Za;exact Z)|(apply Zf;exact Z;(first|with_reducible assumption|(solve|simp only[bn]))))
 all_goals refine Bb [] ResL.nil Z Z Z Z ?_ ?_
 all_goals rfl
theorem W6 [Known](e:Nat):AX Tryz.prog 203 [.bool false,.int .i64 (e:Int)] [] (VV e):=by
 refine Zl Tryz.func203 rfl Tryz.ntmps203 rfl rfl ?_
 repeat'(first|(apply Zh Za;exact Z)|refine TC Z Z ?_|(apply Ze;exact Z;(first|with_reducible assumption|(solve|simp only[bn])))|refine OZ Za Z Z Z Z ?_)
 all_goals exact⟨[],[],ZH _,ZH _,fun i h=>by simp at h,fun i h=>by simp at h,rfl,Nat.zero_le _⟩
theorem Lx {s:List UInt8}{e:Nat}(h:rdS s=.error e):e=8\/e=3:=by
 cases s with
 | nil=>simp[rdS]at h;exact .inl h.symm
 | cons c t=>
  simp only[rdS]at h
  split at h
  ·cases h
  split at h
  ·cases h
  split at h
  ·injection h with h;exact .inr h.symm
  split at h
  ·injection h with h;exact .inl h.symm
  ·cases h
theorem TN (b:List UInt8)(p:Nat)(hp:p<=b.length):X5 b (p:Int)=match rdS (b.drop p) with
  | .error e=>((0,0,false),0,e)
  | .ok (h,r)=>(h,b.length-r.length,0):=by
 have h:=JW b p hp
 rw[X5,if_neg (by omega),Int.toNat_natCast]
 exact h
theorem I6 [Known](b:List UInt8)(p m:Nat)(hb:b.length<=140737488351232)(hp:p<=b.length):AR Tryz.prog 202 [.ptr 0 0] [rdC b p m] (match rdS (b.drop p) with
  | .error e=>.error (VV e)
  | .ok (h,r)=>.ok (hd h,[rdC b (b.length-r.length) m])):=by
 have hR:=Lw b (p:Int) (by omega)
 rw[TN b p hp]at hR
 cases hr:rdS (b.drop p) with
 | error e=>
  rw[hr]at hR
  dsimp only at hR ⊢
  have he:((e:Int)==0)=false:=by rcases Lx hr with rfl|rfl<;>rfl
  refine Zl Tryz.func202 rfl Tryz.ntmps202 rfl rfl ?_
  repeat'(first|(apply Zb (hR);kernel_rfl;(iterate 4 exact Z))|rw[he]|(apply Yd [] (W6 e);kernel_rfl;(iterate 6 exact Z);intro bx2 fr2 hle2)|(apply Zg Za;exact Z)|(apply Zh Za;exact Z)|(apply Zs Za;exact Z)|(apply Zm 16 ZG;decide +kernel;kernel_rfl;kernel_rfl;kernel_rfl;exact Z;exact Z)|(apply Zq;(iterate 4 exact Z))|exact AE.nil _ _ _ _|(apply Zv;exact Z)|(apply Yj;exact Z)|(apply O1;exact Z)|(apply ZA;exact Z;exact Z;decide +kernel;exact Z)|(apply ZB;exact Z)|(apply Yr;exact Z)|(apply HV;exact Z)|exact AO.nil _ _ _|(apply Zp;(decide +kernel))|(apply ZZ;(iterate 3 exact Z))|exact AOs.nil|exact ZJ rfl rfl|exact O2 rfl|exact Y2 rfl rfl)
  all_goals first|(apply VC;exact Z;(first|exact Nat.zero_le _|exact Nat.le_trans (Nat.le_of_ble_eq_true rfl) (by assumption));exact Z)
 | ok y=>
  obtain⟨h,r⟩:=y
  rw[hr]at hR
  dsimp only at hR ⊢
  refine Zl Tryz.func202 rfl Tryz.ntmps202 rfl rfl ?_
  repeat'(first|(apply Zb (hR);kernel_rfl;(iterate 4 exact Z))|(apply Zb (ZV 0);kernel_rfl;(iterate 4 exact Z))|(apply Zg Za;exact Z)|(apply Zh Za;exact Z)|(apply Zm 16 ZG;decide +kernel;kernel_rfl;kernel_rfl;kernel_rfl;exact Z;exact Z)|(apply Zq;(iterate 4 exact Z))|exact AE.nil _ _ _ _|(apply Zv;exact Z)|(apply Yj;exact Z)|(apply Vv;exact Z)|(apply ZA;exact Z;exact Z;decide +kernel;exact Z)|(apply ZB;exact Z)|(apply Yr;exact Z)|(apply UZ;exact Z)|exact AO.nil _ _ _|(apply Zp;(decide +kernel))|(apply ZZ;(iterate 3 exact Z))|exact AOs.nil|exact ZJ rfl rfl|exact Y2 rfl rfl|exact VS rfl)
  all_goals first|(apply Jo (rfl) [0];(apply Zc Za;exact Z);(iterate 4 exact Z))
  all_goals rfl
theorem Ly (c:UInt8):((c.toNat:Int)==255)=(c==255):=by
 rw[Bool.eq_iff_iff,beq_iff_eq,beq_iff_eq]
 constructor
 ·intro h
  have:c.toNat=(255:UInt8).toNat:=by show c.toNat=255;omega
  exact UInt8.toNat_inj.1 this
 ·rintro rfl;rfl
theorem Lz {b:List UInt8}{p:Nat}(h:p<b.length):∃ c t,b.drop p=c::t/\(b.map E.byte)[((p:Nat):Int).toNat]?=some (E.byte c)/\t=b.drop (p+1):=by
 refine⟨b[p],b.drop (p+1),List.drop_eq_getElem_cons h,?_,rfl⟩
 rw[Int.toNat_natCast,List.getElem?_map,List.getElem?_eq_getElem h];rfl
theorem H5 [Known](b:List UInt8)(p m:Nat)(hb:b.length<=140737488351232)(hp:p<=b.length):AQ Tryz.prog 242 [.ptr 0 0] [rdC b p m] (.bool (QR (b.drop p))) [rdC b (if QR (b.drop p)=true then p+1 else p) m]:=by
 have hU:=Y7 b
 rcases Nat.lt_or_ge p b.length with hlt|hge
 ·obtain⟨c,t,hd,hv,_⟩:=Lz hlt
  have d1:decide ((p:Int)<((b.map E.byte).length:Int))=true:=by simp;omega
  have e1:IntKind.i64.wrap ((p:Int)+1)=((p+1:Nat):Int):=by rw[IntWalk.i64_in _ (by omega)];omega
  have e2:=Ly c
  rw[hd]
  cases hc:c==255 with
  | true=>
   rw[hc]at e2
   have he:QR (c::t)=true:=hc
   rw[he,if_pos rfl]
   refine AQ.weak (Zl Tryz.func242 Z Tryz.ntmps242 Z Z ?_)
   repeat'(first|rw[e1]|rw[e2]|(apply Zg Za;exact Z)|(apply Zh Za;exact Z)|(apply Zs Za;exact Z)|refine Zd Z Z Z Qt ?_|refine Zj Z Qt Z Z ?_|refine Ze Z Qt ?_|refine Zn Za Z Z Z Z ?_|(apply Zm 19 ZG;decide +kernel;kernel_rfl;kernel_rfl;kernel_rfl;exact Z;exact Z)|(apply Zq;(iterate 4 exact Z))|exact AE.nil _ _ _ _|(apply Zv;exact Z)|(apply ZA;exact Z;exact Z;decide +kernel;exact Z)|(apply ZB;exact Z)|exact AO.nil _ _ _|(apply Zp;(decide +kernel))|exact AOs.nil|exact ZJ rfl rfl|(apply Zw Za;(iterate 6 exact Z);(first|exact Qt|rotate_left);(first|with_reducible assumption|decide +kernel|exact Z);(first|exact Zk rfl|with_reducible assumption|decide +kernel|rotate_left)))
   all_goals(apply Zt [0];(apply Zc Za;exact Z);(iterate 4 exact Z))
   all_goals rfl
  | false=>
   rw[hc]at e2
   have he:QR (c::t)=false:=hc
   rw[he,if_neg (by simp)]
   refine AQ.weak (Zl Tryz.func242 Z Tryz.ntmps242 Z Z ?_)
   repeat'(first|rw[e2]|(apply Zg Za;exact Z)|(apply Zh Za;exact Z)|(apply Zs Za;exact Z)|refine Z7 ?_|refine Zd Z Z Z Qt ?_|refine Zj Z Qt Z Z ?_|refine Zf Z Qt ?_|refine Zn Za Z Z Z Z ?_|(apply Zm 19 ZG;decide +kernel;kernel_rfl;kernel_rfl;kernel_rfl;exact Z;exact Z)|(apply Zq;(iterate 4 exact Z))|exact AE.nil _ _ _ _|(apply Zv;exact Z)|(apply ZA;exact Z;exact Z;decide +kernel;exact Z)|(apply ZB;exact Z)|exact AO.nil _ _ _|(apply Zp;(decide +kernel))|exact AOs.nil|exact ZJ rfl rfl|(apply Zw Za;(iterate 6 exact Z);(first|exact Qt|rotate_left);(first|with_reducible assumption|decide +kernel|exact Z);(first|exact Zk rfl|with_reducible assumption|decide +kernel|rotate_left)))
   all_goals(apply Zt [0];(apply Zc Za;exact Z);(iterate 4 exact Z))
   all_goals rfl
 ·have d1:decide ((p:Int)<((b.map E.byte).length:Int))=false:=by simp;omega
  have hd:b.drop p=[]:=List.drop_eq_nil_of_le hge
  rw[hd,if_neg (by simp[QR])]
  refine AQ.weak (Zl Tryz.func242 Z Tryz.ntmps242 Z Z ?_)
  repeat'(first|(apply Zg Za;exact Z)|(apply Zh Za;exact Z)|(apply Zs Za;exact Z)|refine Z7 ?_|refine Zr Z Z Z Qt ?_|refine Zi Z Qt Z Z ?_|refine Zf Z Qt ?_|refine Zn Za Z Z Z Z ?_|(apply Zm 19 ZG;decide +kernel;kernel_rfl;kernel_rfl;kernel_rfl;exact Z;exact Z)|(apply Zq;(iterate 4 exact Z))|exact AE.nil _ _ _ _|(apply Zv;exact Z)|(apply ZA;exact Z;exact Z;decide +kernel;exact Z)|(apply ZB;exact Z)|exact AO.nil _ _ _|(apply Zp;(decide +kernel))|exact AOs.nil|exact ZJ rfl rfl)
  all_goals(apply Zt [0];(apply Zc Za;exact Z);(iterate 4 exact Z))
  all_goals rfl
theorem I7 [Known][KnownU8](h:Hd)(b:List UInt8)(p m:Nat)(hb:b.length<=140737488351232)(hp:p<=b.length)(hn:h.2.1<18446744073709551616):AR Tryz.prog 243 [.ptr 0 0,hd h] [rdC b p m] (match WG h (b.drop p) with
  | .error e=>.error (VV e)
  | .ok (c,r)=>.ok (byE c,[rdC b (b.length-r.length) m])):=by
 obtain⟨k,n,o⟩:=h
 dsimp only at hn
 show AR Tryz.prog _ [.ptr 0 0,.agg [.int .i64 k,.int .u64 (n:Int),.bool o]] _ _
 have e1:IntKind.i64.wrap (((b.map E.byte).length:Int)-(p:Int))=((b.length-p:Nat):Int):=by rw[List.length_map,IntWalk.i64_in _ (by omega)];omega
 have e2:IntKind.u64.wrap ((b.length-p:Nat):Int)=((b.length-p:Nat):Int):=by rw[IntKind.wrap_u64];omega
 unfold WG
 dsimp only
 have hl:(b.drop p).length=b.length-p:=List.length_drop ..
 rw[hl]
 by_cases hle:n<=b.length-p
 ·rw[if_pos hle]
  have d1:decide ((n:Int)<=((b.length-p:Nat):Int))=true:=by simp;omega
  have e3:IntKind.i64.wrap (n:Int)=(n:Int):=IntWalk.i64_in _ (by omega)
  have e4:IntKind.i64.wrap ((p:Int)+(n:Int))=((p+n:Nat):Int):=by rw[IntWalk.i64_in _ (by omega)];omega
  have hs:(b.take (((p+n:Nat):Int)).toNat).drop ((p:Nat):Int).toNat=(b.drop p).take n:=by
   rw[Int.toNat_natCast,Int.toNat_natCast,List.drop_take];congr 1;omega
  have hij:((p:Nat):Int)<=((p+n:Nat):Int):=by omega
  have hj:(((p+n:Nat):Int)).toNat<=b.length:=by omega
  have hcl:((b.drop p).take n).length<=140737488351232:=by rw[List.length_take,hl];omega
  have hU:=Y7 b
  have c1:=Vh _ hcl
  have c2:=IY _ hcl
  have eR:b.length-((b.drop p).drop n).length=p+n:=by rw[List.length_drop,hl];omega
  by_cases h3:k=3
  ·subst h3
   cases hv:ZI ((b.drop p).take n) with
   | true=>
    rw[hv]at c2
    rw[if_neg (by simp)]
    dsimp only
    rw[eR]
    refine Zl Tryz.func243 rfl Tryz.ntmps243 rfl rfl ?_
    repeat'(first|rw[d1]|rw[e1]|rw[e2]|rw[e3]|rw[e4]|(apply Zb (ZV 8);kernel_rfl;(iterate 4 exact Z))|(apply Zb (ZV 3);kernel_rfl;(iterate 4 exact Z))|(apply Zb (c1);kernel_rfl;(iterate 4 exact Z))|(apply Zb (c2);kernel_rfl;(iterate 4 exact Z))|(apply O3 Za;(iterate 9 exact Z);exact Qb;(first|with_reducible assumption|decide|(simp only[List.length_cons,List.length_drop,List.length_take,List.length_append,Int.toNat_natCast]at *;omega));(first|with_reducible assumption|decide|(simp only[List.length_cons,List.length_drop,List.length_take,List.length_append,Int.toNat_natCast]at *;omega));(first|with_reducible assumption|exact Z))|(apply Zg Za;exact Z)|(apply Zh Za;exact Z)|refine Z7 ?_|refine Zd Z Z Z Qt ?_|refine Zi Z Qt Z Z ?_|refine Zn Za Z Z Z Z ?_|(apply Zm 7 ZG;decide +kernel;kernel_rfl;kernel_rfl;kernel_rfl;exact Z;exact Z)|(apply Zm 13 ZG;decide +kernel;kernel_rfl;kernel_rfl;kernel_rfl;exact Z;exact Z)|(apply Zm 16 ZG;decide +kernel;kernel_rfl;kernel_rfl;kernel_rfl;exact Z;exact Z)|(apply Zq;(iterate 4 exact Z))|exact AE.nil _ _ _ _|(apply Zv;exact Z)|(apply ZA;exact Z;exact Z;decide +kernel;exact Z)|(apply ZB;exact Z)|exact AO.nil _ _ _|(apply Zp;(decide +kernel))|exact AOs.nil|exact ZJ rfl rfl)
    all_goals(apply Jo (rfl) [0];(apply Zc Za;exact Z);(iterate 4 exact Z))
    all_goals rfl
   | false=>
    rw[hv]at c2
    rw[if_pos ⟨rfl,rfl⟩]
    dsimp only
    refine Zl Tryz.func243 rfl Tryz.ntmps243 rfl rfl ?_
    repeat'(first|rw[d1]|rw[e1]|rw[e2]|rw[e3]|rw[e4]|(apply Zb (ZV 8);kernel_rfl;(iterate 4 exact Z))|(apply Yd [] (W6 3);kernel_rfl;(iterate 6 exact Z);intro bx2 fr2 hle2)|(apply Zb (c1);kernel_rfl;(iterate 4 exact Z))|(apply Zb (c2);kernel_rfl;(iterate 4 exact Z))|(apply O3 Za;(iterate 9 exact Z);exact Qb;(first|with_reducible assumption|decide|(simp only[List.length_cons,List.length_drop,List.length_take,List.length_append,Int.toNat_natCast]at *;omega));(first|with_reducible assumption|decide|(simp only[List.length_cons,List.length_drop,List.length_take,List.length_append,Int.toNat_natCast]at *;omega));(first|with_reducible assumption|exact Z))|(apply Zg Za;exact Z)|(apply Zh Za;exact Z)|(apply Zs Za;exact Z)|refine Z7 ?_|refine Zd Z Z Z Qt ?_|refine Zi Z Qt Z Z ?_|refine Zn Za Z Z Z Z ?_|(apply Zm 13 ZG;decide +kernel;kernel_rfl;kernel_rfl;kernel_rfl;exact Z;exact Z)|(apply Zm 16 ZG;decide +kernel;kernel_rfl;kernel_rfl;kernel_rfl;exact Z;exact Z)|(apply Zq;(iterate 4 exact Z))|exact AE.nil _ _ _ _|(apply Zv;exact Z)|(apply ZA;exact Z;exact Z;decide +kernel;exact Z)|(apply ZB;exact Z)|exact AO.nil _ _ _|(apply Zp;(decide +kernel))|exact AOs.nil|exact ZJ rfl rfl)
    all_goals(apply VC;exact Z;(first|exact Nat.zero_le _|exact Nat.le_trans (Nat.le_of_ble_eq_true rfl) (by assumption));exact Z)
  ·have k3:(k != 3)=true:=by simpa using h3
   rw[if_neg (by rintro⟨h,_⟩;exact h3 h)]
   dsimp only
   rw[eR]
   refine Zl Tryz.func243 rfl Tryz.ntmps243 rfl rfl ?_
   repeat'(first|rw[d1]|rw[e1]|rw[e2]|rw[e3]|rw[e4]|(apply Zb (ZV 8);kernel_rfl;(iterate 4 exact Z))|(apply Zb (ZV 3);kernel_rfl;(iterate 4 exact Z))|(apply Zb (c1);kernel_rfl;(iterate 4 exact Z))|(apply O3 Za;(iterate 9 exact Z);exact Qb;(first|with_reducible assumption|decide|(simp only[List.length_cons,List.length_drop,List.length_take,List.length_append,Int.toNat_natCast]at *;omega));(first|with_reducible assumption|decide|(simp only[List.length_cons,List.length_drop,List.length_take,List.length_append,Int.toNat_natCast]at *;omega));(first|with_reducible assumption|exact Z))|(apply Zg Za;exact Z)|(apply Zh Za;exact Z)|refine Z7 ?_|refine Zo Z Z Z Qt ?_|refine Zj Z Qt Z Z ?_|refine Zn Za Z Z Z Z ?_|(apply Zm 7 ZG;decide +kernel;kernel_rfl;kernel_rfl;kernel_rfl;exact Z;exact Z)|(apply Zm 13 ZG;decide +kernel;kernel_rfl;kernel_rfl;kernel_rfl;exact Z;exact Z)|(apply Zm 16 ZG;decide +kernel;kernel_rfl;kernel_rfl;kernel_rfl;exact Z;exact Z)|(apply Zq;(iterate 4 exact Z))|exact AE.nil _ _ _ _|(apply Zv;exact Z)|(apply ZA;exact Z;exact Z;decide +kernel;exact Z)|(apply ZB;exact Z)|exact AO.nil _ _ _|(apply Zp;(decide +kernel))|exact AOs.nil|exact ZJ rfl rfl)
   all_goals(apply Jo (rfl) [0];(apply Zc Za;exact Z);(iterate 4 exact Z))
   all_goals rfl
 ·rw[if_neg hle]
  dsimp only
  have d1:decide ((n:Int)<=((b.length-p:Nat):Int))=false:=by simp;omega
  refine Zl Tryz.func243 rfl Tryz.ntmps243 rfl rfl ?_
  repeat'(first|rw[d1]|rw[e1]|rw[e2]|(apply Yd [] (W6 8);kernel_rfl;(iterate 6 exact Z);intro bx2 fr2 hle2)|(apply Zg Za;exact Z)|(apply Zh Za;exact Z)|(apply Zs Za;exact Z)|refine Zn Za Z Z Z Z ?_|(apply Zm 13 ZG;decide +kernel;kernel_rfl;kernel_rfl;kernel_rfl;exact Z;exact Z)|(apply Zq;(iterate 4 exact Z))|exact AE.nil _ _ _ _|(apply Zv;exact Z)|(apply ZA;exact Z;exact Z;decide +kernel;exact Z)|(apply ZB;exact Z)|exact AO.nil _ _ _|(apply Zp;(decide +kernel))|exact AOs.nil|exact ZJ rfl rfl)
  all_goals(apply VC;exact Z;(first|exact Nat.zero_le _|exact Nat.le_trans (Nat.le_of_ble_eq_true rfl) (by assumption));exact Z)
end Go.Proofs.YtchlgagdbflkmaaGreatDoor
end
