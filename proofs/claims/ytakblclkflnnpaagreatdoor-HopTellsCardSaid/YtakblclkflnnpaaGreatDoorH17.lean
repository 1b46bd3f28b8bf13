/- Package head over abstract states. -/
import Derived.Test.YtakblclkflnnpaaGreatDoorH12
import Derived.Test.YtakblclkflnnpaaGreatDoorH11
import Derived.Test.YtakblclkflnnpaaGreatDoorH10
import Derived.Test.YtakblclkflnnpaaGreatDoorH13
import Derived.Test.YtakblclkflnnpaaGreatDoorH16
set_option linter.unusedVariables false
set_option linter.unusedSimpArgs false
section
open Go.RowKit Go.Pl Go.Av
namespace Go.Proofs.YtakblclkflnnpaaGreatDoor
set_option maxHeartbeats 4000000
theorem Zix [Known](n:Nat):AP Tryz.prog 200 [.int .u64 (n:Int)] (.int .i64 (ZaE n)) []:=by
 refine Zam Tryz.func200 rfl Tryz.ntmps200 rfl rfl ?_
 repeat'(first|(apply Zag Zab;exact U)|(apply Zau Zab;exact U)|(apply Zby;exact U;all_goals intro hb))
 all_goals refine Zf4 (.cons _ _ _ _ (.tmp _ _ rfl) .nil) (ZaA _) rfl ?_ rfl
 all_goals simp only[decide_eq_true_eq,decide_eq_false_iff_not]at *
 all_goals(congr 1;unfold ZaE;(repeat' split)<;>omega)
theorem ZpO [Known](m:Int):AP Tryz.prog 211 [.int .i64 m] (.bool (Zjc m)) []:=by
 refine Zam Tryz.func211 rfl Tryz.ntmps211 rfl rfl ?_
 repeat'(first|(apply Zai Zab;exact U)|(apply Zag Zab;exact U)|(apply Zae;(iterate 3 exact U);(first|with_reducible assumption|(solve|simp only[bn])))|(apply Zap;(iterate 3 exact U);(first|with_reducible assumption|(solve|simp only[bn])))|(apply Zal;(iterate 3 exact U);(first|with_reducible assumption|(solve|simp only[bn])))|(apply Zbo;exact U;exact U;all_goals intro hb)|(apply Zak;exact U;(first|with_reducible assumption|(solve|simp only[bn]));exact U;exact U)|(apply Zah;exact U;(first|with_reducible assumption|(solve|simp only[bn]));exact U;exact U))
 all_goals refine Zf4 (.cons _ _ _ _ (.tmp _ _ rfl) .nil) (ZaA _) rfl ?_ rfl
 all_goals(congr 1;rw[Bool.eq_iff_iff];simp[Zjc]at *;omega)
def hd (h:Hd):D:=.agg [.int .i64 h.1,.int .u64 (h.2.1:Int),.bool h.2.2]
theorem ZoM [Known](h:Hd):AP Tryz.prog 198 [hd h] (.bool (Za1 h)) []:=by
 refine Zam Tryz.func198 rfl Tryz.ntmps198 rfl rfl ?_
 repeat'(first|(apply Zc8 (ZpO _);kernel_rfl;(iterate 4 exact U))|(apply Zai Zab;exact U)|(apply Zag Zab;exact U)|(apply Zae;(iterate 3 exact U);(first|with_reducible assumption|(solve|simp only[bn])))|(apply Zap;(iterate 3 exact U);(first|with_reducible assumption|(solve|simp only[bn])))|(apply Zbo;exact U;exact U;all_goals intro hb)|(apply Zak;exact U;(first|with_reducible assumption|(solve|simp only[bn]));exact U;exact U)|(apply Zah;exact U;(first|with_reducible assumption|(solve|simp only[bn]));exact U;exact U)|(apply Zby;exact U;all_goals intro hb)|refine Zdr Zab U U U U Qk Qk U U U ?_)
 all_goals refine Zf4 (.cons _ _ _ _ (.tmp _ _ rfl) .nil) (ZaA _) rfl ?_ rfl
 all_goals(obtain⟨m,n,o⟩:=h;congr 1;rw[Bool.eq_iff_iff];simp_all [Za1,Zjc];try omega)
theorem ZqA (n:Nat):(ZaE n=0/\ZbE n=n/\n<24)\/(ZaE n=1/\ZbE n=24)\/(ZaE n=2/\ZbE n=25)\/(ZaE n=4/\ZbE n=26)\/(ZaE n=8/\ZbE n=27):=by
 unfold ZaE ZbE
 by_cases h1:n<24
 ·simp[h1]
 by_cases h2:n<256
 ·simp[h1,h2]
 by_cases h3:n<65536
 ·simp[h1,h2,h3]
 by_cases h4:n<4294967296
 ·simp[h1,h2,h3,h4]
 ·simp[h1,h2,h3,h4]
theorem ZqB [Known](n:Nat):AP Tryz.prog 199 [.int .u64 (n:Int)] (.int .u8 (ZbE n)) []:=by
 refine Zam Tryz.func199 rfl Tryz.ntmps199 rfl rfl ?_
 repeat'(first|(apply Zc8 (Zix _);kernel_rfl;(iterate 4 exact U))|(apply Zai Zab;exact U)|(apply Zag Zab;exact U)|(apply Zau Zab;exact U)|(apply Zby;exact U;all_goals intro hb))
 all_goals refine Zf4 (.cons _ _ _ _ (.tmp _ _ rfl) .nil) (ZaA _) rfl ?_ rfl
 all_goals(rcases ZqA n with⟨h1,h2,h3⟩ | ⟨h1,h2⟩ | ⟨h1,h2⟩ | ⟨h1,h2⟩ | ⟨h1,h2⟩<;>simp_all)
 all_goals(rw[IntKind.wrap_u8'];omega)
theorem Zkw (m:Int)(i:Nat)(hm:0<=m/\m<=7)(hi:i<32):bits .or .u8 (IntKind.u8.wrap (IntKind.u8.wrap m*2 ^ min (Int.toNat 5) IntKind.u8.bits)) (i:Int)=((Zcm m.toNat i).toNat:Int):=by
 have e2:IntKind.u8.wrap (IntKind.u8.wrap m*2 ^ min (Int.toNat 5) IntKind.u8.bits)=(m.toNat:Int)*32:=by
  rw[show min (Int.toNat 5) IntKind.u8.bits=5 from rfl,IntKind.wrap_u8',IntKind.wrap_u8'];omega
 rw[e2,ZtB m.toNat i (by omega) hi]
 unfold Zcm
 rw[UInt8.toNat_ofNat']
 omega
theorem ZmU {h:Hd}(hr:Za1 h=true):0<=h.1/\h.1<=7:=by
 obtain⟨m,n,o⟩:=h
 cases o<;>simp[Za1,Zjc]at hr<;>omega
theorem ZqC (n q:Nat)(hq:q<8):E.int .u8 (IntKind.u8.wrap ((n:Int).fdiv (2 ^ min (IntKind.i64.wrap (8*(q:Int))).toNat IntKind.u64.bits)))=E.byte (UInt8.ofNat (n/256 ^ q)):=by
 have e:IntKind.i64.wrap (8*(q:Int))=((8*q:Nat):Int):=by rw[IntWalk.i64_in _ (by omega)];omega
 rw[e,Int.toNat_natCast,show min (8*q) IntKind.u64.bits=8*q from Nat.min_eq_left (by show 8*q<=64;omega)]
 rw[show((n:Int).fdiv (2 ^ (8*q)))=((n/256 ^ q:Nat):Int) from by
  have e:(2:Int) ^ (8*q)=((256 ^ q:Nat):Int):=by
   rw[show(256:Nat)=2 ^ 8 from rfl,<- Nat.pow_mul]
   simp
  rw[e,Int.fdiv_eq_ediv_of_nonneg _ (Int.natCast_nonneg _),<- Int.natCast_ediv]]
 rw[IntKind.wrap_u8']
 unfold E.byte
 rw[UInt8.toNat_ofNat']
 congr 1
theorem Zkx [Known](h:Hd)(hn:h.2.1<18446744073709551616):AP Tryz.prog 184 [hd h] (.tup [byE (if Za1 h then ZaS h else []),.int .i64 (if Za1 h then 0 else 3)]) []:=by
 refine AP.weak ?_
 have HR:=@ZmU h
 have HN:=hid hn
 clear hn
 refine Zam Tryz.func184 rfl Tryz.ntmps184 rfl rfl ?_
 repeat'(first|(apply Zc8 (ZoM h);kernel_rfl;(iterate 4 exact U))|(apply Zc8 (ZqB _);kernel_rfl;(iterate 4 exact U))|(apply Zc8 (Zix _);kernel_rfl;(iterate 4 exact U))|refine Zj2 U U (by decide) U ?_|(apply Zai Zab;exact U)|(apply Zag Zab;exact U)|(apply Zau Zab;exact U)|(apply Zby;exact U;all_goals intro hb)|refine Zge Zab U U U U U U U U U U U U ?_|(apply ZaT 7 ZaQ;decide +kernel;kernel_rfl;kernel_rfl;exact U;exact U)|(apply Za3;(iterate 3 exact U))|refine AD.nil _|exact ZbG rfl)
 ·refine Zsz (.cons _ _ _ _ (.tmp _ _ rfl) (.cons _ _ _ _ (.tmp _ _ rfl) .nil)) rfl ?_
  simp_all [byE]
 ·refine Zsz (.cons _ _ _ _ (.tmp _ _ rfl) (.cons _ _ _ _ (.tmp _ _ rfl) .nil)) rfl ?_
  have hr:Za1 h=true:=by simpa using(‹(!Za1 h)=false›)
  rw[if_pos hr,if_pos hr,show ZaS h=[Zcm h.1.toNat 31] by simp[ZaS,hb],show E.int IntKind.u8 (bits .or .u8 (IntKind.u8.wrap (IntKind.u8.wrap h.1*2 ^ min (Int.toNat 5) IntKind.u8.bits)) 31)=E.byte (Zcm h.1.toNat 31) from congrArg _ (Zkw h.1 31 (HR hr) (by omega))]
  rfl
 rename_i hb1
 have hr:Za1 h=true:=by simpa using hb1
 have hw:ZaS h=Zcm h.1.toNat (ZbE h.2.1)::beN h.2.1 (ZaE h.2.1):=by simp[ZaS,hb]
 have hlen:(beN h.2.1 (ZaE h.2.1)).length=ZaE h.2.1:=Za7 _ _
 have hf8:=Zg3 h.2.1
 refine ZaB (fun k tm bx fr=>∃(i c:Nat) (L:List E),k+i=ZaE h.2.1/\c=L.length/\c=i+1/\L=((ZaS h).take (i+1)).map E.byte/\tm=[(33,.int .i64 (i:Int)),(32,.int .i64 (ZaE h.2.1:Int)),(5,.int .i64 (ZaE h.2.1:Int)),(4,.sl (.own 0) L),(3,.int .i64 0),(1,.ptr 0 0)]/\bx=[[.int .i64 h.1,.int .u64 (h.2.1:Int),.bool h.2.2]]/\fr=[⟨c,1,5⟩]) (ZaE h.2.1+1) (Lands.mk' (m:=ZaE h.2.1) (Nat.lt_succ_self _) ⟨0,1,[E.byte (Zcm h.1.toNat (ZbE h.2.1))],rfl,rfl,rfl,by rw[hw];rfl,rfl,rfl,rfl⟩ ?_ rfl rfl rfl rfl rfl rfl) ?_
 ·repeat'(first|exact Av.Sub.nil|refine Av.Sub.cons rfl ?_|refine Av.Sub.cons ?_ ?_)
  have e:=congrArg (fun x:Int=>D.sl (.own 0) [E.int .u8 x]) (Zkw h.1 (ZbE h.2.1) (HR hr) (by have:=Zkl h.2.1;omega))
  exact e
 rintro k tm bx fr ⟨i,c,L,hk,hc,hi,hL,rfl,rfl,rfl⟩
 have hU:Uni 1 L:=hL ▸ Zbh _
 repeat'(first|(apply ZbK;exact U;exact U;rotate_left;exact U)|(apply Zai Zab;exact U)|(apply Zag Zab;exact U)|(apply Zby;exact U;all_goals intro hb)|refine Zge Zab U U U U U U U U U U U U ?_|(apply ZaF Zab;(iterate 6 exact U);(first|with_reducible assumption|exact U|rotate_left);exact U;exact U;(first|exact Zaj rfl|with_reducible assumption|rotate_left);(first|exact Zaj rfl|with_reducible assumption|rotate_left);(first|exact Qb|rotate_left);(first|exact Qb|rotate_left);(first|exact Qb|rotate_left);exact U;exact U))
 ·have hlt:i<ZaE h.2.1:=by have:=of_decide_eq_true hb;omega
  have hx:IntKind.i64.wrap (IntKind.i64.wrap (↑(ZaE h.2.1)-1) - ↑i)=((ZaE h.2.1-1-i:Nat):Int):=by
   rw[IntWalk.i64_in ((ZaE h.2.1:Int)-1) (by omega),IntWalk.i64_in _ (by omega)];omega
  refine Lands.mk' (m:=k-1) (by omega) ⟨i+1,L.length+1,L++[E.byte (UInt8.ofNat (h.2.1/256 ^ (ZaE h.2.1-1-i)))],by omega,by simp,by omega,?_,rfl,rfl,rfl⟩ ?_ rfl rfl rfl rfl rfl rfl
  ·rw[hL,hw,List.take_succ_cons,List.take_succ_cons,ZeM _ _ _ hlt]
   simp
  ·refine .cons ?_ (.cons rfl (.cons rfl (.cons ?_ (.cons rfl (.cons rfl .nil)))))
   ·exact congrArg (D.int .i64) (IntWalk.i64_in _ (by omega))
   ·have e:=congrArg (fun x=>D.sl (.own 0) (L++[x])) (ZqC h.2.1 (ZaE h.2.1-1-i) (by omega))
    rw[<- hx]at e
    exact e
 ·have:=of_decide_eq_true hb;show L.length+1<=maxLen;unfold maxLen;omega
 ·have:=of_decide_eq_true hb;show(L.length+1)*1<=140737488355328;omega
 ·have:=of_decide_eq_true hb
  have hx:IntKind.i64.wrap (IntKind.i64.wrap (↑(ZaE h.2.1)-1) - ↑i)=((ZaE h.2.1-1-i:Nat):Int):=by
   rw[IntWalk.i64_in ((ZaE h.2.1:Int)-1) (by omega),IntWalk.i64_in _ (by omega)];omega
  rw[hx,IntWalk.i64_in _ (by omega)];omega
 ·refine Zsz (.cons _ _ _ _ (.tmp _ _ rfl) (.cons _ _ _ _ (.tmp _ _ rfl) .nil)) rfl ?_
  rw[if_pos hr,if_pos hr,hL]
  have:=of_decide_eq_false hb
  rw[List.take_of_length_le (by rw[hw,List.length_cons,hlen];omega)]
def rdD (r:Hd × Nat × Nat):D:=.tup [hd r.1,.int .i64 (r.2.1:Int),.int .i64 (r.2.2:Int)]
theorem Zky (b:List UInt8)(p:Int)(h0:0<=p)(h1:p<(b.length:Int)):∃ c r,b.drop p.toNat=c::r/\r.length+p.toNat+1=b.length/\(b.map E.byte)[p.toNat]?=some (E.byte c)/\∀ j:Nat,j<r.length->(b.map E.byte)[p.toNat+1+j]?=(r.map E.byte)[j]? := by
 have h:p.toNat<b.length:=by omega
 refine⟨b[p.toNat],b.drop (p.toNat+1),List.drop_eq_getElem_cons h,by rw[List.length_drop];omega,by simp[h],fun j hj=>by simp[List.getElem?_drop]⟩
theorem ZtG (c:UInt8):((c.toNat:Int)).fdiv (2 ^ min (Int.toNat 5) IntKind.u8.bits)=((c.toNat/32:Nat):Int):=by
 rw[show min (Int.toNat 5) IntKind.u8.bits=5 from rfl,Int.fdiv_eq_ediv_of_nonneg _ (by decide)]
 omega
theorem ZfD {b:List UInt8}{p:Nat}{c:UInt8}{r:List UInt8}(h:b.drop p=c::r)(h1:c.toNat % 32<24):ZbU b p=((((c.toNat/32:Nat):Int),c.toNat % 32,false),p+1,0):=by
 unfold ZbU;rw[h];simp only;rw[if_pos h1]
theorem Zha {b:List UInt8}{p:Nat}{c:UInt8}{r:List UInt8}(h:b.drop p=c::r)(h1:c.toNat % 32=31)(h2:Zjc (c.toNat/32:Nat)=true):ZbU b p=((((c.toNat/32:Nat):Int),0,true),p+1,0):=by
 unfold ZbU;rw[h];simp only;rw[if_neg (by omega),if_pos ⟨h1,h2⟩]
theorem Zgl {b:List UInt8}{p:Nat}{c:UInt8}{r:List UInt8}(h:b.drop p=c::r)(h1:27<c.toNat % 32)(h2:c.toNat % 32=31->Zjc (c.toNat/32:Nat)=false):ZbU b p=((0,0,false),0,3):=by
 unfold ZbU;rw[h];simp only;rw[if_neg (by omega),if_neg (fun hh=>by have:=h2 hh.1;rw[hh.2]at this;cases this),if_pos h1]
theorem Zgm {b:List UInt8}{p:Nat}{c:UInt8}{r:List UInt8}(h:b.drop p=c::r)(h1:¬ c.toNat % 32<24)(h2:¬ 27<c.toNat % 32)(h3:r.length<2 ^ (c.toNat % 32-24)):ZbU b p=((0,0,false),0,8):=by
 unfold ZbU;rw[h];simp only;rw[if_neg h1,if_neg (by omega),if_neg h2,if_pos h3]
theorem Zhb {b:List UInt8}{p:Nat}{c:UInt8}{r:List UInt8}(h:b.drop p=c::r)(h1:¬ c.toNat % 32<24)(h2:¬ 27<c.toNat % 32)(h3:¬ r.length<2 ^ (c.toNat % 32-24)):ZbU b p=((((c.toNat/32:Nat):Int),ZcO (r.take (2 ^ (c.toNat % 32-24))),false),p+1+2 ^ (c.toNat % 32-24),0):=by
 unfold ZbU;rw[h];simp only;rw[if_neg h1,if_neg (by omega),if_neg h2,if_neg h3]
theorem ZmV (v:Nat)(h:¬ v<24)(h':¬ 27<v):IntKind.i64.wrap (1*2 ^ min (IntKind.u8.wrap ((v:Int)-24)).toNat IntKind.i64.bits)=((2 ^ (v-24):Nat):Int)/\2 ^ (v-24)<=8:=by
 obtain rfl|rfl|rfl|rfl:v=24\/v=25\/v=26\/v=27:=by omega
 all_goals decide
theorem ZqD [Known](b:List UInt8)(p:Int)(hb:b.length<=4611686018427387904):AP Tryz.prog 201 [byE b,.int .i64 p] (rdD (ZfK b p)) []:=by
 have HB:=hid hb
 clear hb
 have HU:=Zbh b
 refine Zam Tryz.func201 rfl Tryz.ntmps201 rfl rfl ?_
 repeat'(first|(apply Zai Zab;exact U)|(apply Zag Zab;exact U)|(apply Zau Zab;exact U)|(apply Zae;(iterate 3 exact U);(first|with_reducible assumption|(solve|simp only[bn])))|(apply Zal;(iterate 3 exact U);(first|with_reducible assumption|(solve|simp only[bn])))|(apply Zbo;exact U;exact U;all_goals intro hb)|(apply Zak;exact U;(first|with_reducible assumption|(solve|simp only[bn]));exact U;exact U)|(apply Zah;exact U;(first|with_reducible assumption|(solve|simp only[bn]));exact U;exact U)|(apply Zad;exact U;(first|with_reducible assumption|(solve|simp only[bn])))|(apply Zby;exact U;all_goals intro hb)|refine Zan Zab U U U U ?_)
 ·(apply Zf4 (ts:=[]);(apply Zac Zab;exact U);exact ZaA _;exact U;rotate_left;exact U)
  have:p<0:=of_decide_eq_true hb
  rw[show ZfK b p=_ from if_pos (.inl this)];rfl
 ·(apply Zf4 (ts:=[]);(apply Zac Zab;exact U);exact ZaA _;exact U;rotate_left;exact U)
  have:p>((b.map E.byte).length:Int):=of_decide_eq_true hb
  rw[List.length_map]at this
  rw[show ZfK b p=_ from if_pos (.inr this)];rfl
 ·(apply Zf4 (ts:=[]);(apply Zac Zab;exact U);exact ZaA _;exact U;rotate_left;exact U)
  have:p=((b.map E.byte).length:Int):=by simpa using hb
  rw[List.length_map]at this
  have hd:b.drop p.toNat=[]:=by rw[List.drop_eq_nil_iff];omega
  rw[show ZfK b p=ZbU b p.toNat from if_neg (by omega)]
  unfold ZbU
  rw[hd];rfl
 rename_i g1 g2
 have h0:0<=p:=by have:=of_decide_eq_false g1;omega
 have h1:p<(b.length:Int):=by
  have a1:=of_decide_eq_false g2
  rw[List.length_map]at a1 hb
  have a2:p ≠ (b.length:Int):=by simpa using hb
  omega
 obtain⟨c,r,hd,hl,hv,hr⟩:=Zky b p h0 h1
 have HH:=hid (show ZfK b p=ZbU b p.toNat from if_neg (by omega))
 have HD:=hid hd
 have HL:=hid hl
 have HR:=hid hr
 have e1:IntKind.i64.wrap ((c.toNat/32:Nat):Int)=((c.toNat/32:Nat):Int):=IntWalk.i64_in _ (by have:=c.toNat_lt;omega)
 have e2:IntKind.u64.wrap ((c.toNat % 32:Nat):Int)=((c.toNat % 32:Nat):Int):=by rw[IntKind.wrap_u64];omega
 have e3:IntKind.i64.wrap (p+1)=((p.toNat+1:Nat):Int):=by have:=HB.out;rw[IntWalk.i64_in _ (by omega)];omega
 clear hb g1 g2 hd hl hr
 repeat'(first|rw[ZsQ c]|rw[ZtG c]|rw[e1]|rw[e2]|rw[e3]|(apply Zc8 (ZpO _);kernel_rfl;(iterate 4 exact U))|(apply Zai Zab;exact U)|(apply Zag Zab;exact U)|(apply Zau Zab;exact U)|(apply Zae;(iterate 3 exact U);(first|with_reducible assumption|(solve|simp only[bn])))|(apply Zap;(iterate 3 exact U);(first|with_reducible assumption|(solve|simp only[bn])))|(apply Zbo;exact U;exact U;all_goals intro hb)|(apply Zak;exact U;(first|with_reducible assumption|(solve|simp only[bn]));exact U;exact U)|(apply Zah;exact U;(first|with_reducible assumption|(solve|simp only[bn]));exact U;exact U)|(apply Zaf;exact U;(first|with_reducible assumption|(solve|simp only[bn])))|(apply Zby;exact U;all_goals intro hb)|refine Zan Zab U U U U ?_|(apply Zat Zab;(iterate 6 exact U);(first|exact Qb|rotate_left);(first|with_reducible assumption|exact U);(first|exact Zaj rfl|with_reducible assumption|rotate_left))|(apply ZbK;exact U;exact U;(first|exact Qb|rotate_left);exact U)|(apply Zj2;exact U;exact U;(first|exact Qb|rotate_left);exact U))
 ·(apply Zf4 (ts:=[]);(apply Zac Zab;exact U);exact ZaA _;exact U;rotate_left;exact U)
  rw[HH.out,ZfD HD.out (by have:=of_decide_eq_true hb;omega)];rfl
 ·(apply Zf4 (ts:=[]);(apply Zac Zab;exact U);exact ZaA _;exact U;rotate_left;exact U)
  rw[HH.out,Zha HD.out (by have:=of_decide_eq_false (‹decide _=false›);simp at *;omega) hb];rfl
 iterate 2
  ·(apply Zf4 (ts:=[]);(apply Zac Zab;exact U);exact ZaA _;exact U;rotate_left;exact U)
   rw[HH.out,Zgl HD.out (by have:=of_decide_eq_true hb;omega) (by intro hh;first|assumption|simp_all)];rfl
  ·(apply Zf4 (ts:=[]);(apply Zac Zab;exact U);exact ZaA _;exact U;rotate_left;exact U)
   have g1:=of_decide_eq_true hb
   have g2:=of_decide_eq_false (‹decide (((c.toNat % 32:Nat):Int)>27)=false›)
   have g3:=of_decide_eq_false (‹decide (((c.toNat % 32:Nat):Int)<24)=false›)
   have g4:=ZmV (c.toNat % 32) (by omega) (by omega)
   have g5:=HL.out
   have g6:=HB.out
   rw[g4.1,List.length_map,IntWalk.i64_in _ (by omega)]at g1
   rw[HH.out,Zgm HD.out (by omega) (by omega) (by omega)];rfl
  ·have g1:=of_decide_eq_false hb
   have g2:=of_decide_eq_false (‹decide (((c.toNat % 32:Nat):Int)>27)=false›)
   have g3:=of_decide_eq_false (‹decide (((c.toNat % 32:Nat):Int)<24)=false›)
   have g4:=ZmV (c.toNat % 32) (by omega) (by omega)
   have g5:=HL.out
   have g6:=HB.out
   rw[g4.1,List.length_map,IntWalk.i64_in _ (by omega)]at g1
   rw[g4.1]
   have g7:=HH.out.trans (Zhb HD.out (by omega) (by omega) (by omega))
   generalize 2 ^ (c.toNat % 32-24)=m at g1 g4 g7 ⊢
   have g8:=g4.2
   have G7:=hid g7
   clear hb g2 g3 g4 g7
   refine ZaB (fun k tm bx fr=>∃ i,k+i=m/\tm=[(75,.int .i64 (i:Int)),(74,.int .i64 (m:Int)),(9,.int .i64 (m:Int)),(7,.ptr 1 0),(1,.int .i64 ((p.toNat+1:Nat):Int)),(0,byE b),(4,.ptr 0 0)]/\bx=[[.int .i64 0,.int .u64 0,.bool false],[.int .i64 ((c.toNat/32:Nat):Int),.int .u64 (ZcO (r.take i):Nat),.bool false]]/\fr=[]) (m+1) (Lands.mk' (m:=m) (Nat.lt_succ_self _) ⟨0,rfl,rfl,rfl,rfl⟩ ?_ rfl rfl rfl rfl rfl rfl) ?_
   ·repeat'(first|exact Av.Sub.nil|refine Av.Sub.cons rfl ?_)
   rintro k tm bx fr ⟨i,hk,rfl,rfl,rfl⟩
   rcases Nat.lt_or_ge i m with hlt|hge
   ·have hd:decide ((i:Int)<(m:Int))=true:=by simp;omega
    have hir:i<r.length:=by omega
    have hv':(b.map E.byte)[((p.toNat+1+i:Nat):Int).toNat]?=some (E.byte r[i]):=by
     rw[Int.toNat_natCast,HR.out i hir];simp[hir]
    have e4:IntKind.i64.wrap (((p.toNat+1:Nat):Int)+(i:Int))=((p.toNat+1+i:Nat):Int):=by rw[IntWalk.i64_in _ (by omega)];omega
    have e7:IntKind.i64.wrap ((i:Int)+1)=((i+1:Nat):Int):=by rw[IntWalk.i64_in _ (by omega)];omega
    have e6:IntKind.u64.wrap ((r[i].toNat:Nat):Int)=((r[i].toNat:Nat):Int):=by have:=r[i].toNat_lt;rw[IntKind.wrap_u64];omega
    have e5:bits .or .u64 (IntKind.u64.wrap (((ZcO (r.take i):Nat):Int)*2 ^ min (Int.toNat 8) IntKind.u64.bits)) ((r[i].toNat:Nat):Int)=((ZcO (r.take (i+1)):Nat):Int):=by
     have h9:=Zls (ZcO (r.take i)) r[i] (ZeN r i (by omega))
     rw[show((2:Int) ^ min (Int.toNat 8) IntKind.u64.bits)=256 from rfl,h9.1,h9.2,Zir r i hir]
    repeat'(first|rw[e4]|rw[e5]|rw[e6]|rw[e7]|(apply Zai Zab;exact U)|(apply Zag Zab;exact U)|(apply Zad;exact U;(first|with_reducible assumption|(solve|simp only[bn])))|(apply ZaT 10 ZaQ;decide +kernel;kernel_rfl;kernel_rfl;exact U;exact U)|(apply Za3;(iterate 3 exact U))|refine AD.nil _|exact ZbG rfl|(apply Zat Zab;(iterate 6 exact U);(first|exact Qb|rotate_left);(first|with_reducible assumption|exact U);(first|exact Zaj rfl|with_reducible assumption|rotate_left))|(apply Zj2;exact U;exact U;(first|exact Qb|rotate_left);exact U))
    refine Lands.mk' (m:=k-1) (by omega) ⟨i+1,by omega,rfl,rfl,rfl⟩ ?_ rfl rfl rfl rfl rfl rfl
    repeat'(first|exact Av.Sub.nil|refine Av.Sub.cons rfl ?_)
   ·have hd:decide ((i:Int)<(m:Int))=false:=by simp;omega
    repeat'(first|(apply Zag Zab;exact U)|(apply Zaf;exact U;(first|with_reducible assumption|(solve|simp only[bn]))))
    (apply Zf4 (ts:=[]);(apply Zac Zab;exact U);exact ZaA _;exact U;rotate_left;exact U)
    have h9:i=m:=by omega
    subst h9
    rw[G7.out,IntWalk.i64_in _ (by omega)]
    rfl
  ·have g2:=of_decide_eq_false hb
   have g3:=of_decide_eq_false (‹decide (((c.toNat % 32:Nat):Int)<24)=false›)
   rw[IntKind.wrap_u8'];omega
abbrev ZdX (e:Nat):D:=.iface 235 (.agg [.int .i64 (e:Int)])
abbrev rdC (b:List UInt8)(p m:Nat):List D:=[byE b,.int .i64 (p:Int),.int .i64 (m:Int)]
theorem ZaY [Known](e:Int):AP Tryz.prog 186 [.bool true,.int .i64 e] (.tup []) []:=by
 refine AP.ofA (Zam Tryz.func186 U Tryz.ntmps186 U U ?_)
 repeat'(first|(apply Zag Zab;exact U)|(apply Zaf;exact U;(first|with_reducible assumption|(solve|simp only[bn]))))
 all_goals refine ZsN [] ResL.nil U U U U ?_ ?_
 all_goals rfl
theorem Zc1 [Known](e:Nat):AX Tryz.prog 186 [.bool false,.int .i64 (e:Int)] [] (ZdX e):=by
 refine Zam Tryz.func186 rfl Tryz.ntmps186 rfl rfl ?_
 repeat'(first|(apply Zag Zab;exact U)|refine ZmE U U ?_|(apply Zad;exact U;(first|with_reducible assumption|(solve|simp only[bn])))|refine Zih Zab U U U U ?_)
 all_goals exact⟨[],[],ZaA _,ZaA _,fun i h=>by simp at h,fun i h=>by simp at h,rfl,Nat.zero_le _⟩
theorem Zjw {s:List UInt8}{e:Nat}(h:rdS s=.error e):e=8\/e=3:=by
 cases s with
 | nil=>simp[rdS]at h;exact .inl h.symm
 | cons c t=>
  simp only[rdS]at h
  split at h
  ·cases h
  split at h
  ·cases h
  split at h
  ·injection h with h;exact .inr h.symm
  split at h
  ·injection h with h;exact .inl h.symm
  ·cases h
theorem Zgn (b:List UInt8)(p:Nat)(hp:p<=b.length):ZfK b (p:Int)=match rdS (b.drop p) with
  | .error e=>((0,0,false),0,e)
  | .ok (h,r)=>(h,b.length-r.length,0):=by
 have h:=Zgj b p hp
 rw[ZfK,if_neg (by omega),Int.toNat_natCast]
 exact h
theorem Zkz [Known](b:List UInt8)(p m:Nat)(hb:b.length<=1099511627776)(hp:p<=b.length):AR Tryz.prog 185 [.ptr 0 0] [rdC b p m] (match rdS (b.drop p) with
  | .error e=>.error (ZdX e)
  | .ok (h,r)=>.ok (hd h,[rdC b (b.length-r.length) m])):=by
 have hR:=ZqD b (p:Int) (by omega)
 rw[Zgn b p hp]at hR
 cases hr:rdS (b.drop p) with
 | error e=>
  rw[hr]at hR
  dsimp only at hR ⊢
  have he:((e:Int)==0)=false:=by rcases Zjw hr with rfl|rfl<;>rfl
  refine Zam Tryz.func185 rfl Tryz.ntmps185 rfl rfl ?_
  repeat'(first|(apply Zaa (hR);kernel_rfl;(iterate 4 exact U))|rw[he]|(apply Zbb [] (Zc1 e);kernel_rfl;(iterate 6 exact U);intro bx2 fr2 hle2)|(apply Zai Zab;exact U)|(apply Zag Zab;exact U)|(apply Zau Zab;exact U)|(apply Zao 16 ZaQ;decide +kernel;kernel_rfl;kernel_rfl;kernel_rfl;exact U;exact U)|(apply Zas;(iterate 4 exact U))|exact AE.nil _ _ _ _|(apply Zaw;exact U)|(apply Zbl;exact U)|(apply Zkf;exact U)|(apply Zay;exact U;exact U;decide +kernel;exact U)|(apply Zaz;exact U)|(apply ZbH;exact U)|(apply ZoD;exact U)|exact AO.nil _ _ _|(apply Zar;(decide +kernel))|(apply Za6;(iterate 3 exact U))|exact AOs.nil|exact ZaJ rfl rfl|exact Zjs rfl|exact ZcD rfl rfl)
  all_goals first|(apply ZfP;exact U;(first|exact Nat.zero_le _|exact Nat.le_trans (Nat.le_of_ble_eq_true rfl) (by assumption));exact U)
 | ok y=>
  obtain⟨h,r⟩:=y
  rw[hr]at hR
  dsimp only at hR ⊢
  refine Zam Tryz.func185 rfl Tryz.ntmps185 rfl rfl ?_
  repeat'(first|(apply Zaa (hR);kernel_rfl;(iterate 4 exact U))|(apply Zaa (ZaY 0);kernel_rfl;(iterate 4 exact U))|(apply Zai Zab;exact U)|(apply Zag Zab;exact U)|(apply Zao 16 ZaQ;decide +kernel;kernel_rfl;kernel_rfl;kernel_rfl;exact U;exact U)|(apply Zas;(iterate 4 exact U))|exact AE.nil _ _ _ _|(apply Zaw;exact U)|(apply Zbl;exact U)|(apply ZeI;exact U)|(apply Zay;exact U;exact U;decide +kernel;exact U)|(apply Zaz;exact U)|(apply ZbH;exact U)|(apply ZhA;exact U)|exact AO.nil _ _ _|(apply Zar;(decide +kernel))|(apply Za6;(iterate 3 exact U))|exact AOs.nil|exact ZaJ rfl rfl|exact ZcD rfl rfl|exact Zfy rfl)
  all_goals first|(apply Zkh (rfl) [0];(apply Zac Zab;exact U);(iterate 4 exact U))
  all_goals rfl
theorem ZmW (c:UInt8):((c.toNat:Int)==255)=(c==255):=by
 rw[Bool.eq_iff_iff,beq_iff_eq,beq_iff_eq]
 constructor
 ·intro h
  have:c.toNat=(255:UInt8).toNat:=by show c.toNat=255;omega
  exact UInt8.toNat_inj.1 this
 ·rintro rfl;rfl
theorem Zjx {b:List UInt8}{p:Nat}(h:p<b.length):∃ c t,b.drop p=c::t/\(b.map E.byte)[((p:Nat):Int).toNat]?=some (E.byte c)/\t=b.drop (p+1):=by
 refine⟨b[p],b.drop (p+1),List.drop_eq_getElem_cons h,?_,rfl⟩
 rw[Int.toNat_natCast,List.getElem?_map,List.getElem?_eq_getElem h];rfl
theorem ZmX [Known](b:List UInt8)(p m:Nat)(hb:b.length<=1099511627776)(hp:p<=b.length):AQ Tryz.prog 202 [.ptr 0 0] [rdC b p m] (.bool (Zg4 (b.drop p))) [rdC b (if Zg4 (b.drop p)=true then p+1 else p) m]:=by
 have hU:=Zbh b
 rcases Nat.lt_or_ge p b.length with hlt|hge
 ·obtain⟨c,t,hd,hv,_⟩:=Zjx hlt
  have d1:decide ((p:Int)<((b.map E.byte).length:Int))=true:=by simp;omega
  have e1:IntKind.i64.wrap ((p:Int)+1)=((p+1:Nat):Int):=by rw[IntWalk.i64_in _ (by omega)];omega
  have e2:=ZmW c
  rw[hd]
  cases hc:c==255 with
  | true=>
   rw[hc]at e2
   have he:Zg4 (c::t)=true:=hc
   rw[he,if_pos rfl]
   refine AQ.weak (Zam Tryz.func202 U Tryz.ntmps202 U U ?_)
   repeat'(first|rw[e1]|rw[e2]|(apply Zai Zab;exact U)|(apply Zag Zab;exact U)|(apply Zau Zab;exact U)|refine Zae U U U Qt ?_|refine Zak U Qt U U ?_|refine Zad U Qt ?_|refine Zan Zab U U U U ?_|(apply Zao 19 ZaQ;decide +kernel;kernel_rfl;kernel_rfl;kernel_rfl;exact U;exact U)|(apply Zas;(iterate 4 exact U))|exact AE.nil _ _ _ _|(apply Zaw;exact U)|(apply Zay;exact U;exact U;decide +kernel;exact U)|(apply Zaz;exact U)|exact AO.nil _ _ _|(apply Zar;(decide +kernel))|exact AOs.nil|exact ZaJ rfl rfl|(apply Zat Zab;(iterate 6 exact U);(first|exact Qt|rotate_left);(first|with_reducible assumption|decide +kernel|exact U);(first|exact Zaj rfl|with_reducible assumption|decide +kernel|rotate_left)))
   all_goals(apply Zav [0];(apply Zac Zab;exact U);(iterate 4 exact U))
   all_goals rfl
  | false=>
   rw[hc]at e2
   have he:Zg4 (c::t)=false:=hc
   rw[he,if_neg (by simp)]
   refine AQ.weak (Zam Tryz.func202 U Tryz.ntmps202 U U ?_)
   repeat'(first|rw[e2]|(apply Zai Zab;exact U)|(apply Zag Zab;exact U)|(apply Zau Zab;exact U)|refine Zbm ?_|refine Zae U U U Qt ?_|refine Zak U Qt U U ?_|refine Zaf U Qt ?_|refine Zan Zab U U U U ?_|(apply Zao 19 ZaQ;decide +kernel;kernel_rfl;kernel_rfl;kernel_rfl;exact U;exact U)|(apply Zas;(iterate 4 exact U))|exact AE.nil _ _ _ _|(apply Zaw;exact U)|(apply Zay;exact U;exact U;decide +kernel;exact U)|(apply Zaz;exact U)|exact AO.nil _ _ _|(apply Zar;(decide +kernel))|exact AOs.nil|exact ZaJ rfl rfl|(apply Zat Zab;(iterate 6 exact U);(first|exact Qt|rotate_left);(first|with_reducible assumption|decide +kernel|exact U);(first|exact Zaj rfl|with_reducible assumption|decide +kernel|rotate_left)))
   all_goals(apply Zav [0];(apply Zac Zab;exact U);(iterate 4 exact U))
   all_goals rfl
 ·have d1:decide ((p:Int)<((b.map E.byte).length:Int))=false:=by simp;omega
  have hd:b.drop p=[]:=List.drop_eq_nil_of_le hge
  rw[hd,if_neg (by simp[Zg4])]
  refine AQ.weak (Zam Tryz.func202 U Tryz.ntmps202 U U ?_)
  repeat'(first|(apply Zai Zab;exact U)|(apply Zag Zab;exact U)|(apply Zau Zab;exact U)|refine Zbm ?_|refine Zap U U U Qt ?_|refine Zah U Qt U U ?_|refine Zaf U Qt ?_|refine Zan Zab U U U U ?_|(apply Zao 19 ZaQ;decide +kernel;kernel_rfl;kernel_rfl;kernel_rfl;exact U;exact U)|(apply Zas;(iterate 4 exact U))|exact AE.nil _ _ _ _|(apply Zaw;exact U)|(apply Zay;exact U;exact U;decide +kernel;exact U)|(apply Zaz;exact U)|exact AO.nil _ _ _|(apply Zar;(decide +kernel))|exact AOs.nil|exact ZaJ rfl rfl)
  all_goals(apply Zav [0];(apply Zac Zab;exact U);(iterate 4 exact U))
  all_goals rfl
theorem ZkA [Known][KnownU8](h:Hd)(b:List UInt8)(p m:Nat)(hb:b.length<=1099511627776)(hp:p<=b.length)(hn:h.2.1<18446744073709551616):AR Tryz.prog 203 [.ptr 0 0,hd h] [rdC b p m] (match Zb1 h (b.drop p) with
  | .error e=>.error (ZdX e)
  | .ok (c,r)=>.ok (byE c,[rdC b (b.length-r.length) m])):=by
 obtain⟨k,n,o⟩:=h
 dsimp only at hn
 show AR Tryz.prog _ [.ptr 0 0,.agg [.int .i64 k,.int .u64 (n:Int),.bool o]] _ _
 have e1:IntKind.i64.wrap (((b.map E.byte).length:Int)-(p:Int))=((b.length-p:Nat):Int):=by rw[List.length_map,IntWalk.i64_in _ (by omega)];omega
 have e2:IntKind.u64.wrap ((b.length-p:Nat):Int)=((b.length-p:Nat):Int):=by rw[IntKind.wrap_u64];omega
 unfold Zb1
 dsimp only
 have hl:(b.drop p).length=b.length-p:=List.length_drop ..
 rw[hl]
 by_cases hle:n<=b.length-p
 ·rw[if_pos hle]
  have d1:decide ((n:Int)<=((b.length-p:Nat):Int))=true:=by simp;omega
  have e3:IntKind.i64.wrap (n:Int)=(n:Int):=IntWalk.i64_in _ (by omega)
  have e4:IntKind.i64.wrap ((p:Int)+(n:Int))=((p+n:Nat):Int):=by rw[IntWalk.i64_in _ (by omega)];omega
  have hs:(b.take (((p+n:Nat):Int)).toNat).drop ((p:Nat):Int).toNat=(b.drop p).take n:=by
   rw[Int.toNat_natCast,Int.toNat_natCast,List.drop_take];congr 1;omega
  have hij:((p:Nat):Int)<=((p+n:Nat):Int):=by omega
  have hj:(((p+n:Nat):Int)).toNat<=b.length:=by omega
  have hcl:((b.drop p).take n).length<=140737488351232:=by rw[List.length_take,hl];omega
  have hU:=Zbh b
  have c1:=ZdT _ hcl
  have c2:=Zkv _ hcl
  have eR:b.length-((b.drop p).drop n).length=p+n:=by rw[List.length_drop,hl];omega
  by_cases h3:k=3
  ·subst h3
   cases hv:ZaG ((b.drop p).take n) with
   | true=>
    rw[hv]at c2
    rw[if_neg (by simp)]
    dsimp only
    rw[eR]
    refine Zam Tryz.func203 rfl Tryz.ntmps203 rfl rfl ?_
    repeat'(first|rw[d1]|rw[e1]|rw[e2]|rw[e3]|rw[e4]|(apply Zaa (ZaY 8);kernel_rfl;(iterate 4 exact U))|(apply Zaa (ZaY 3);kernel_rfl;(iterate 4 exact U))|(apply Zaa (c1);kernel_rfl;(iterate 4 exact U))|(apply Zaa (c2);kernel_rfl;(iterate 4 exact U))|(apply Zfc Zab;(iterate 9 exact U);exact Qb;(first|with_reducible assumption|decide|(simp only[List.length_cons,List.length_drop,List.length_take,List.length_append,Int.toNat_natCast]at *;omega));(first|with_reducible assumption|decide|(simp only[List.length_cons,List.length_drop,List.length_take,List.length_append,Int.toNat_natCast]at *;omega));(first|with_reducible assumption|exact U))|(apply Zai Zab;exact U)|(apply Zag Zab;exact U)|refine Zbm ?_|refine Zae U U U Qt ?_|refine Zah U Qt U U ?_|refine Zan Zab U U U U ?_|(apply Zao 7 ZaQ;decide +kernel;kernel_rfl;kernel_rfl;kernel_rfl;exact U;exact U)|(apply Zao 13 ZaQ;decide +kernel;kernel_rfl;kernel_rfl;kernel_rfl;exact U;exact U)|(apply Zao 16 ZaQ;decide +kernel;kernel_rfl;kernel_rfl;kernel_rfl;exact U;exact U)|(apply Zas;(iterate 4 exact U))|exact AE.nil _ _ _ _|(apply Zaw;exact U)|(apply Zay;exact U;exact U;decide +kernel;exact U)|(apply Zaz;exact U)|exact AO.nil _ _ _|(apply Zar;(decide +kernel))|exact AOs.nil|exact ZaJ rfl rfl)
    all_goals(apply Zkh (rfl) [0];(apply Zac Zab;exact U);(iterate 4 exact U))
    all_goals rfl
   | false=>
    rw[hv]at c2
    rw[if_pos ⟨rfl,rfl⟩]
    dsimp only
    refine Zam Tryz.func203 rfl Tryz.ntmps203 rfl rfl ?_
    repeat'(first|rw[d1]|rw[e1]|rw[e2]|rw[e3]|rw[e4]|(apply Zaa (ZaY 8);kernel_rfl;(iterate 4 exact U))|(apply Zbb [] (Zc1 3);kernel_rfl;(iterate 6 exact U);intro bx2 fr2 hle2)|(apply Zaa (c1);kernel_rfl;(iterate 4 exact U))|(apply Zaa (c2);kernel_rfl;(iterate 4 exact U))|(apply Zfc Zab;(iterate 9 exact U);exact Qb;(first|with_reducible assumption|decide|(simp only[List.length_cons,List.length_drop,List.length_take,List.length_append,Int.toNat_natCast]at *;omega));(first|with_reducible assumption|decide|(simp only[List.length_cons,List.length_drop,List.length_take,List.length_append,Int.toNat_natCast]at *;omega));(first|with_reducible assumption|exact U))|(apply Zai Zab;exact U)|(apply Zag Zab;exact U)|(apply Zau Zab;exact U)|refine Zbm ?_|refine Zae U U U Qt ?_|refine Zah U Qt U U ?_|refine Zan Zab U U U U ?_|(apply Zao 13 ZaQ;decide +kernel;kernel_rfl;kernel_rfl;kernel_rfl;exact U;exact U)|(apply Zao 16 ZaQ;decide +kernel;kernel_rfl;kernel_rfl;kernel_rfl;exact U;exact U)|(apply Zas;(iterate 4 exact U))|exact AE.nil _ _ _ _|(apply Zaw;exact U)|(apply Zay;exact U;exact U;decide +kernel;exact U)|(apply Zaz;exact U)|exact AO.nil _ _ _|(apply Zar;(decide +kernel))|exact AOs.nil|exact ZaJ rfl rfl)
    all_goals(apply ZfP;exact U;(first|exact Nat.zero_le _|exact Nat.le_trans (Nat.le_of_ble_eq_true rfl) (by assumption));exact U)
  ·have k3:(k != 3)=true:=by simpa using h3
   rw[if_neg (by rintro⟨h,_⟩;exact h3 h)]
   dsimp only
   rw[eR]
   refine Zam Tryz.func203 rfl Tryz.ntmps203 rfl rfl ?_
   repeat'(first|rw[d1]|rw[e1]|rw[e2]|rw[e3]|rw[e4]|(apply Zaa (ZaY 8);kernel_rfl;(iterate 4 exact U))|(apply Zaa (ZaY 3);kernel_rfl;(iterate 4 exact U))|(apply Zaa (c1);kernel_rfl;(iterate 4 exact U))|(apply Zfc Zab;(iterate 9 exact U);exact Qb;(first|with_reducible assumption|decide|(simp only[List.length_cons,List.length_drop,List.length_take,List.length_append,Int.toNat_natCast]at *;omega));(first|with_reducible assumption|decide|(simp only[List.length_cons,List.length_drop,List.length_take,List.length_append,Int.toNat_natCast]at *;omega));(first|with_reducible assumption|exact U))|(apply Zai Zab;exact U)|(apply Zag Zab;exact U)|refine Zbm ?_|refine Zal U U U Qt ?_|refine Zak U Qt U U ?_|refine Zan Zab U U U U ?_|(apply Zao 7 ZaQ;decide +kernel;kernel_rfl;kernel_rfl;kernel_rfl;exact U;exact U)|(apply Zao 13 ZaQ;decide +kernel;kernel_rfl;kernel_rfl;kernel_rfl;exact U;exact U)|(apply Zao 16 ZaQ;decide +kernel;kernel_rfl;kernel_rfl;kernel_rfl;exact U;exact U)|(apply Zas;(iterate 4 exact U))|exact AE.nil _ _ _ _|(apply Zaw;exact U)|(apply Zay;exact U;exact U;decide +kernel;exact U)|(apply Zaz;exact U)|exact AO.nil _ _ _|(apply Zar;(decide +kernel))|exact AOs.nil|exact ZaJ rfl rfl)
   all_goals(apply Zkh (rfl) [0];(apply Zac Zab;exact U);(iterate 4 exact U))
   all_goals rfl
 ·rw[if_neg hle]
  dsimp only
  have d1:decide ((n:Int)<=((b.length-p:Nat):Int))=false:=by simp;omega
  refine Zam Tryz.func203 rfl Tryz.ntmps203 rfl rfl ?_
  repeat'(first|rw[d1]|rw[e1]|rw[e2]|(apply Zbb [] (Zc1 8);kernel_rfl;(iterate 6 exact U);intro bx2 fr2 hle2)|(apply Zai Zab;exact U)|(apply Zag Zab;exact U)|(apply Zau Zab;exact U)|refine Zan Zab U U U U ?_|(apply Zao 13 ZaQ;decide +kernel;kernel_rfl;kernel_rfl;kernel_rfl;exact U;exact U)|(apply Zas;(iterate 4 exact U))|exact AE.nil _ _ _ _|(apply Zaw;exact U)|(apply Zay;exact U;exact U;decide +kernel;exact U)|(apply Zaz;exact U)|exact AO.nil _ _ _|(apply Zar;(decide +kernel))|exact AOs.nil|exact ZaJ rfl rfl)
  all_goals(apply ZfP;exact U;(first|exact Nat.zero_le _|exact Nat.le_trans (Nat.le_of_ble_eq_true rfl) (by assumption));exact U)
end Go.Proofs.YtakblclkflnnpaaGreatDoor
end
