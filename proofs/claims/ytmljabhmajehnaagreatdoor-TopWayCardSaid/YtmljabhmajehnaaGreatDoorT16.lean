/- Package head over abstract states. -/
import Derived.Test.YtmljabhmajehnaaGreatDoorT11
import Derived.Test.YtmljabhmajehnaaGreatDoorT10
import Derived.Test.YtmljabhmajehnaaGreatDoorT09
import Derived.Test.YtmljabhmajehnaaGreatDoorT12
import Derived.Test.YtmljabhmajehnaaGreatDoorT15
set_option linter.unusedVariables false
set_option linter.unusedSimpArgs false
section
open Go.RowKit Go.Pl Go.Av
namespace Go.Proofs.YtmljabhmajehnaaGreatDoor
set_option maxHeartbeats 4000000
theorem Kf [Known](n:Nat):AP Tryz.prog 174 [.int .u64 (n:Int)] (.int .i64 (ZC n)) []:=by
 refine Zk Tryz.func174 rfl Tryz.ntmps174 rfl rfl ?_
 repeat'(first|(apply Ze Za;exact Z)|(apply Zq Za;exact Z)|(apply W5;exact Z;all_goals intro hb))
 all_goals refine JF (.cons _ _ _ _ (.tmp _ _ rfl) .nil) (ZD _) rfl ?_ rfl
 all_goals simp only[decide_eq_true_eq,decide_eq_false_iff_not]at *
 all_goals(congr 1;unfold ZC;(repeat' split)<;>omega)
theorem TD [Known](m:Int):AP Tryz.prog 186 [.int .i64 m] (.bool (U5 m)) []:=by
 refine Zk Tryz.func186 rfl Tryz.ntmps186 rfl rfl ?_
 repeat'(first|(apply Zh Za;exact Z)|(apply Ze Za;exact Z)|(apply Zg;(iterate 3 exact Z);(first|with_reducible assumption|(solve|simp only[bn])))|(apply Zv;(iterate 3 exact Z);(first|with_reducible assumption|(solve|simp only[bn])))|(apply Zp;(iterate 3 exact Z);(first|with_reducible assumption|(solve|simp only[bn])))|(apply YP;exact Z;exact Z;all_goals intro hb)|(apply Zl;exact Z;(first|with_reducible assumption|(solve|simp only[bn]));exact Z;exact Z)|(apply Zi;exact Z;(first|with_reducible assumption|(solve|simp only[bn]));exact Z;exact Z))
 all_goals refine JF (.cons _ _ _ _ (.tmp _ _ rfl) .nil) (ZD _) rfl ?_ rfl
 all_goals(congr 1;rw[Bool.eq_iff_iff];simp[U5]at *;omega)
def hd (h:Hd):D:=.agg [.int .i64 h.1,.int .u64 (h.2.1:Int),.bool h.2.2]
theorem TE [Known](h:Hd):AP Tryz.prog 172 [hd h] (.bool (Z5 h)) []:=by
 refine Zk Tryz.func172 rfl Tryz.ntmps172 rfl rfl ?_
 repeat'(first|(apply Vp (TD _);kernel_rfl;(iterate 4 exact Z))|(apply Zh Za;exact Z)|(apply Ze Za;exact Z)|(apply Zg;(iterate 3 exact Z);(first|with_reducible assumption|(solve|simp only[bn])))|(apply Zv;(iterate 3 exact Z);(first|with_reducible assumption|(solve|simp only[bn])))|(apply YP;exact Z;exact Z;all_goals intro hb)|(apply Zl;exact Z;(first|with_reducible assumption|(solve|simp only[bn]));exact Z;exact Z)|(apply Zi;exact Z;(first|with_reducible assumption|(solve|simp only[bn]));exact Z;exact Z)|(apply W5;exact Z;all_goals intro hb)|refine Wo Za Z Z Z Z Qk Qk Z Z Z ?_)
 all_goals refine JF (.cons _ _ _ _ (.tmp _ _ rfl) .nil) (ZD _) rfl ?_ rfl
 all_goals(obtain⟨m,n,o⟩:=h;congr 1;rw[Bool.eq_iff_iff];simp_all [Z5,U5];try omega)
theorem N7 (n:Nat):(ZC n=0/\Yq n=n/\n<24)\/(ZC n=1/\Yq n=24)\/(ZC n=2/\Yq n=25)\/(ZC n=4/\Yq n=26)\/(ZC n=8/\Yq n=27):=by
 unfold ZC Yq
 by_cases h1:n<24
 ·simp[h1]
 by_cases h2:n<256
 ·simp[h1,h2]
 by_cases h3:n<65536
 ·simp[h1,h2,h3]
 by_cases h4:n<4294967296
 ·simp[h1,h2,h3,h4]
 ·simp[h1,h2,h3,h4]
theorem N8 [Known](n:Nat):AP Tryz.prog 173 [.int .u64 (n:Int)] (.int .u8 (Yq n)) []:=by
 refine Zk Tryz.func173 rfl Tryz.ntmps173 rfl rfl ?_
 repeat'(first|(apply Vp (Kf _);kernel_rfl;(iterate 4 exact Z))|(apply Zh Za;exact Z)|(apply Ze Za;exact Z)|(apply Zq Za;exact Z)|(apply W5;exact Z;all_goals intro hb))
 all_goals refine JF (.cons _ _ _ _ (.tmp _ _ rfl) .nil) (ZD _) rfl ?_ rfl
 all_goals(rcases N7 n with⟨h1,h2,h3⟩ | ⟨h1,h2⟩ | ⟨h1,h2⟩ | ⟨h1,h2⟩ | ⟨h1,h2⟩<;>simp_all)
 all_goals(rw[IntKind.wrap_u8'];omega)
theorem OM (m:Int)(i:Nat)(hm:0<=m/\m<=7)(hi:i<32):bits .or .u8 (IntKind.u8.wrap (IntKind.u8.wrap m*2 ^ min (Int.toNat 5) IntKind.u8.bits)) (i:Int)=((WV m.toNat i).toNat:Int):=by
 have e2:IntKind.u8.wrap (IntKind.u8.wrap m*2 ^ min (Int.toNat 5) IntKind.u8.bits)=(m.toNat:Int)*32:=by
  rw[show min (Int.toNat 5) IntKind.u8.bits=5 from rfl,IntKind.wrap_u8',IntKind.wrap_u8'];omega
 rw[e2,Rl m.toNat i (by omega) hi]
 unfold WV
 rw[UInt8.toNat_ofNat']
 omega
theorem N9 {h:Hd}(hr:Z5 h=true):0<=h.1/\h.1<=7:=by
 obtain⟨m,n,o⟩:=h
 cases o<;>simp[Z5,U5]at hr<;>omega
theorem Ma (n q:Nat)(hq:q<8):E.int .u8 (IntKind.u8.wrap ((n:Int).fdiv (2 ^ min (IntKind.i64.wrap (8*(q:Int))).toNat IntKind.u64.bits)))=E.byte (UInt8.ofNat (n/256 ^ q)):=by
 have e:IntKind.i64.wrap (8*(q:Int))=((8*q:Nat):Int):=by rw[IntWalk.i64_in _ (by omega)];omega
 rw[e,Int.toNat_natCast,show min (8*q) IntKind.u64.bits=8*q from Nat.min_eq_left (by show 8*q<=64;omega)]
 rw[show((n:Int).fdiv (2 ^ (8*q)))=((n/256 ^ q:Nat):Int) from by
  have e:(2:Int) ^ (8*q)=((256 ^ q:Nat):Int):=by
   rw[show(256:Nat)=2 ^ 8 from rfl,<- Nat.pow_mul]
   simp
  rw[e,Int.fdiv_eq_ediv_of_nonneg _ (Int.natCast_nonneg _),<- Int.natCast_ediv]]
 rw[IntKind.wrap_u8']
 unfold E.byte
 rw[UInt8.toNat_ofNat']
 congr 1
theorem ON [Known](h:Hd)(hn:h.2.1<18446744073709551616):AP Tryz.prog 150 [hd h] (.tup [byE (if Z5 h then ZV h else []),.int .i64 (if Z5 h then 0 else 3)]) []:=by
 refine AP.weak ?_
 have HR:=@N9 h
 have HN:=hid hn
 clear hn
 refine Zk Tryz.func150 rfl Tryz.ntmps150 rfl rfl ?_
 repeat'(first|(apply Vp (TE h);kernel_rfl;(iterate 4 exact Z))|(apply Vp (N8 _);kernel_rfl;(iterate 4 exact Z))|(apply Vp (Kf _);kernel_rfl;(iterate 4 exact Z))|refine KI Z Z (by decide) Z ?_|(apply Zh Za;exact Z)|(apply Ze Za;exact Z)|(apply Zq Za;exact Z)|(apply W5;exact Z;all_goals intro hb)|refine X3 Za Z Z Z Z Z Z Z Z Z Z Z Z ?_|(apply ZS 7 ZF;decide +kernel;kernel_rfl;kernel_rfl;exact Z;exact Z)|(apply Z9;(iterate 3 exact Z))|refine AD.nil _|exact Yl rfl)
 ·refine M3 (.cons _ _ _ _ (.tmp _ _ rfl) (.cons _ _ _ _ (.tmp _ _ rfl) .nil)) rfl ?_
  simp_all [byE]
 ·refine M3 (.cons _ _ _ _ (.tmp _ _ rfl) (.cons _ _ _ _ (.tmp _ _ rfl) .nil)) rfl ?_
  have hr:Z5 h=true:=by simpa using(‹(!Z5 h)=false›)
  rw[if_pos hr,if_pos hr,show ZV h=[WV h.1.toNat 31] by simp[ZV,hb],show E.int IntKind.u8 (bits .or .u8 (IntKind.u8.wrap (IntKind.u8.wrap h.1*2 ^ min (Int.toNat 5) IntKind.u8.bits)) 31)=E.byte (WV h.1.toNat 31) from congrArg _ (OM h.1 31 (HR hr) (by omega))]
  rfl
 rename_i hb1
 have hr:Z5 h=true:=by simpa using hb1
 have hw:ZV h=WV h.1.toNat (Yq h.2.1)::beN h.2.1 (ZC h.2.1):=by simp[ZV,hb]
 have hlen:(beN h.2.1 (ZC h.2.1)).length=ZC h.2.1:=Yw _ _
 have hf8:=JW h.2.1
 refine ZW (fun k tm bx fr=>∃(i c:Nat) (L:List E),k+i=ZC h.2.1/\c=L.length/\c=i+1/\L=((ZV h).take (i+1)).map E.byte/\tm=[(33,.int .i64 (i:Int)),(32,.int .i64 (ZC h.2.1:Int)),(5,.int .i64 (ZC h.2.1:Int)),(4,.sl (.own 0) L),(3,.int .i64 0),(1,.ptr 0 0)]/\bx=[[.int .i64 h.1,.int .u64 (h.2.1:Int),.bool h.2.2]]/\fr=[⟨c,1,5⟩]) (ZC h.2.1+1) (Lands.mk' (m:=ZC h.2.1) (Nat.lt_succ_self _) ⟨0,1,[E.byte (WV h.1.toNat (Yq h.2.1))],rfl,rfl,rfl,by rw[hw];rfl,rfl,rfl,rfl⟩ ?_ rfl rfl rfl rfl rfl rfl) ?_
 ·repeat'(first|exact Av.Sub.nil|refine Av.Sub.cons rfl ?_|refine Av.Sub.cons ?_ ?_)
  have e:=congrArg (fun x:Int=>D.sl (.own 0) [E.int .u8 x]) (OM h.1 (Yq h.2.1) (HR hr) (by have:=OE h.2.1;omega))
  exact e
 rintro k tm bx fr ⟨i,c,L,hk,hc,hi,hL,rfl,rfl,rfl⟩
 have hU:Uni 1 L:=hL ▸ YR _
 repeat'(first|(apply Yn;exact Z;exact Z;rotate_left;exact Z)|(apply Zh Za;exact Z)|(apply Ze Za;exact Z)|(apply W5;exact Z;all_goals intro hb)|refine X3 Za Z Z Z Z Z Z Z Z Z Z Z Z ?_|(apply Z1 Za;(iterate 6 exact Z);(first|with_reducible assumption|exact Z|rotate_left);exact Z;exact Z;(first|exact Zj rfl|with_reducible assumption|rotate_left);(first|exact Zj rfl|with_reducible assumption|rotate_left);(first|exact Qb|rotate_left);(first|exact Qb|rotate_left);(first|exact Qb|rotate_left);exact Z;exact Z))
 ·have hlt:i<ZC h.2.1:=by have:=of_decide_eq_true hb;omega
  have hx:IntKind.i64.wrap (IntKind.i64.wrap (↑(ZC h.2.1)-1) - ↑i)=((ZC h.2.1-1-i:Nat):Int):=by
   rw[IntWalk.i64_in ((ZC h.2.1:Int)-1) (by omega),IntWalk.i64_in _ (by omega)];omega
  refine Lands.mk' (m:=k-1) (by omega) ⟨i+1,L.length+1,L++[E.byte (UInt8.ofNat (h.2.1/256 ^ (ZC h.2.1-1-i)))],by omega,by simp,by omega,?_,rfl,rfl,rfl⟩ ?_ rfl rfl rfl rfl rfl rfl
  ·rw[hL,hw,List.take_succ_cons,List.take_succ_cons,Qc _ _ _ hlt]
   simp
  ·refine .cons ?_ (.cons rfl (.cons rfl (.cons ?_ (.cons rfl (.cons rfl .nil)))))
   ·exact congrArg (D.int .i64) (IntWalk.i64_in _ (by omega))
   ·have e:=congrArg (fun x=>D.sl (.own 0) (L++[x])) (Ma h.2.1 (ZC h.2.1-1-i) (by omega))
    rw[<- hx]at e
    exact e
 ·have:=of_decide_eq_true hb;show L.length+1<=maxLen;unfold maxLen;omega
 ·have:=of_decide_eq_true hb;show(L.length+1)*1<=140737488355328;omega
 ·have:=of_decide_eq_true hb
  have hx:IntKind.i64.wrap (IntKind.i64.wrap (↑(ZC h.2.1)-1) - ↑i)=((ZC h.2.1-1-i:Nat):Int):=by
   rw[IntWalk.i64_in ((ZC h.2.1:Int)-1) (by omega),IntWalk.i64_in _ (by omega)];omega
  rw[hx,IntWalk.i64_in _ (by omega)];omega
 ·refine M3 (.cons _ _ _ _ (.tmp _ _ rfl) (.cons _ _ _ _ (.tmp _ _ rfl) .nil)) rfl ?_
  rw[if_pos hr,if_pos hr,hL]
  have:=of_decide_eq_false hb
  rw[List.take_of_length_le (by rw[hw,List.length_cons,hlen];omega)]
def rdD (r:Hd × Nat × Nat):D:=.tup [hd r.1,.int .i64 (r.2.1:Int),.int .i64 (r.2.2:Int)]
theorem TF (b:List UInt8)(p:Int)(h0:0<=p)(h1:p<(b.length:Int)):∃ c r,b.drop p.toNat=c::r/\r.length+p.toNat+1=b.length/\(b.map E.byte)[p.toNat]?=some (E.byte c)/\∀ j:Nat,j<r.length->(b.map E.byte)[p.toNat+1+j]?=(r.map E.byte)[j]? := by
 have h:p.toNat<b.length:=by omega
 refine⟨b[p.toNat],b.drop (p.toNat+1),List.drop_eq_getElem_cons h,by rw[List.length_drop];omega,by simp[h],fun j hj=>by simp[List.getElem?_drop]⟩
theorem Rr (c:UInt8):((c.toNat:Int)).fdiv (2 ^ min (Int.toNat 5) IntKind.u8.bits)=((c.toNat/32:Nat):Int):=by
 rw[show min (Int.toNat 5) IntKind.u8.bits=5 from rfl,Int.fdiv_eq_ediv_of_nonneg _ (by decide)]
 omega
theorem KX {b:List UInt8}{p:Nat}{c:UInt8}{r:List UInt8}(h:b.drop p=c::r)(h1:c.toNat % 32<24):YA b p=((((c.toNat/32:Nat):Int),c.toNat % 32,false),p+1,0):=by
 unfold YA;rw[h];simp only;rw[if_pos h1]
theorem IL {b:List UInt8}{p:Nat}{c:UInt8}{r:List UInt8}(h:b.drop p=c::r)(h1:c.toNat % 32=31)(h2:U5 (c.toNat/32:Nat)=true):YA b p=((((c.toNat/32:Nat):Int),0,true),p+1,0):=by
 unfold YA;rw[h];simp only;rw[if_neg (by omega),if_pos ⟨h1,h2⟩]
theorem Hl {b:List UInt8}{p:Nat}{c:UInt8}{r:List UInt8}(h:b.drop p=c::r)(h1:27<c.toNat % 32)(h2:c.toNat % 32=31->U5 (c.toNat/32:Nat)=false):YA b p=((0,0,false),0,3):=by
 unfold YA;rw[h];simp only;rw[if_neg (by omega),if_neg (fun hh=>by have:=h2 hh.1;rw[hh.2]at this;cases this),if_pos h1]
theorem OO {b:List UInt8}{p:Nat}{c:UInt8}{r:List UInt8}(h:b.drop p=c::r)(h1:¬ c.toNat % 32<24)(h2:¬ 27<c.toNat % 32)(h3:r.length<2 ^ (c.toNat % 32-24)):YA b p=((0,0,false),0,8):=by
 unfold YA;rw[h];simp only;rw[if_neg h1,if_neg (by omega),if_neg h2,if_pos h3]
theorem IM {b:List UInt8}{p:Nat}{c:UInt8}{r:List UInt8}(h:b.drop p=c::r)(h1:¬ c.toNat % 32<24)(h2:¬ 27<c.toNat % 32)(h3:¬ r.length<2 ^ (c.toNat % 32-24)):YA b p=((((c.toNat/32:Nat):Int),Wj (r.take (2 ^ (c.toNat % 32-24))),false),p+1+2 ^ (c.toNat % 32-24),0):=by
 unfold YA;rw[h];simp only;rw[if_neg h1,if_neg (by omega),if_neg h2,if_neg h3]
theorem TG (v:Nat)(h:¬ v<24)(h':¬ 27<v):IntKind.i64.wrap (1*2 ^ min (IntKind.u8.wrap ((v:Int)-24)).toNat IntKind.i64.bits)=((2 ^ (v-24):Nat):Int)/\2 ^ (v-24)<=8:=by
 obtain rfl|rfl|rfl|rfl:v=24\/v=25\/v=26\/v=27:=by omega
 all_goals decide
theorem Mb [Known](b:List UInt8)(p:Int)(hb:b.length<=4611686018427387904):AP Tryz.prog 163 [byE b,.int .i64 p] (rdD (JY b p)) []:=by
 have HB:=hid hb
 clear hb
 have HU:=YR b
 refine Zk Tryz.func163 rfl Tryz.ntmps163 rfl rfl ?_
 repeat'(first|(apply Zh Za;exact Z)|(apply Ze Za;exact Z)|(apply Zq Za;exact Z)|(apply Zg;(iterate 3 exact Z);(first|with_reducible assumption|(solve|simp only[bn])))|(apply Zp;(iterate 3 exact Z);(first|with_reducible assumption|(solve|simp only[bn])))|(apply YP;exact Z;exact Z;all_goals intro hb)|(apply Zl;exact Z;(first|with_reducible assumption|(solve|simp only[bn]));exact Z;exact Z)|(apply Zi;exact Z;(first|with_reducible assumption|(solve|simp only[bn]));exact Z;exact Z)|(apply Zd;exact Z;(first|with_reducible assumption|(solve|simp only[bn])))|(apply W5;exact Z;all_goals intro hb)|refine Zm Za Z Z Z Z ?_)
 ·(apply JF (ts:=[]);(apply Zc Za;exact Z);exact ZD _;exact Z;rotate_left;exact Z)
  have:p<0:=of_decide_eq_true hb
  rw[show JY b p=_ from if_pos (.inl this)];rfl
 ·(apply JF (ts:=[]);(apply Zc Za;exact Z);exact ZD _;exact Z;rotate_left;exact Z)
  have:p>((b.map E.byte).length:Int):=of_decide_eq_true hb
  rw[List.length_map]at this
  rw[show JY b p=_ from if_pos (.inr this)];rfl
 ·(apply JF (ts:=[]);(apply Zc Za;exact Z);exact ZD _;exact Z;rotate_left;exact Z)
  have:p=((b.map E.byte).length:Int):=by simpa using hb
  rw[List.length_map]at this
  have hd:b.drop p.toNat=[]:=by rw[List.drop_eq_nil_iff];omega
  rw[show JY b p=YA b p.toNat from if_neg (by omega)]
  unfold YA
  rw[hd];rfl
 rename_i g1 g2
 have h0:0<=p:=by have:=of_decide_eq_false g1;omega
 have h1:p<(b.length:Int):=by
  have a1:=of_decide_eq_false g2
  rw[List.length_map]at a1 hb
  have a2:p ≠ (b.length:Int):=by simpa using hb
  omega
 obtain⟨c,r,hd,hl,hv,hr⟩:=TF b p h0 h1
 have HH:=hid (show JY b p=YA b p.toNat from if_neg (by omega))
 have HD:=hid hd
 have HL:=hid hl
 have HR:=hid hr
 have e1:IntKind.i64.wrap ((c.toNat/32:Nat):Int)=((c.toNat/32:Nat):Int):=IntWalk.i64_in _ (by have:=c.toNat_lt;omega)
 have e2:IntKind.u64.wrap ((c.toNat % 32:Nat):Int)=((c.toNat % 32:Nat):Int):=by rw[IntKind.wrap_u64];omega
 have e3:IntKind.i64.wrap (p+1)=((p.toNat+1:Nat):Int):=by have:=HB.out;rw[IntWalk.i64_in _ (by omega)];omega
 clear hb g1 g2 hd hl hr
 repeat'(first|rw[LO c]|rw[Rr c]|rw[e1]|rw[e2]|rw[e3]|(apply Vp (TD _);kernel_rfl;(iterate 4 exact Z))|(apply Zh Za;exact Z)|(apply Ze Za;exact Z)|(apply Zq Za;exact Z)|(apply Zg;(iterate 3 exact Z);(first|with_reducible assumption|(solve|simp only[bn])))|(apply Zv;(iterate 3 exact Z);(first|with_reducible assumption|(solve|simp only[bn])))|(apply YP;exact Z;exact Z;all_goals intro hb)|(apply Zl;exact Z;(first|with_reducible assumption|(solve|simp only[bn]));exact Z;exact Z)|(apply Zi;exact Z;(first|with_reducible assumption|(solve|simp only[bn]));exact Z;exact Z)|(apply Zf;exact Z;(first|with_reducible assumption|(solve|simp only[bn])))|(apply W5;exact Z;all_goals intro hb)|refine Zm Za Z Z Z Z ?_|(apply Zu Za;(iterate 6 exact Z);(first|exact Qb|rotate_left);(first|with_reducible assumption|exact Z);(first|exact Zj rfl|with_reducible assumption|rotate_left))|(apply Yn;exact Z;exact Z;(first|exact Qb|rotate_left);exact Z)|(apply KI;exact Z;exact Z;(first|exact Qb|rotate_left);exact Z))
 ·(apply JF (ts:=[]);(apply Zc Za;exact Z);exact ZD _;exact Z;rotate_left;exact Z)
  rw[HH.out,KX HD.out (by have:=of_decide_eq_true hb;omega)];rfl
 ·(apply JF (ts:=[]);(apply Zc Za;exact Z);exact ZD _;exact Z;rotate_left;exact Z)
  rw[HH.out,IL HD.out (by have:=of_decide_eq_false (‹decide _=false›);simp at *;omega) hb];rfl
 iterate 2
  ·(apply JF (ts:=[]);(apply Zc Za;exact Z);exact ZD _;exact Z;rotate_left;exact Z)
   rw[HH.out,Hl HD.out (by have:=of_decide_eq_true hb;omega) (by intro hh;first|assumption|simp_all)];rfl
  ·(apply JF (ts:=[]);(apply Zc Za;exact Z);exact ZD _;exact Z;rotate_left;exact Z)
   have g1:=of_decide_eq_true hb
   have g2:=of_decide_eq_false (‹decide (((c.toNat % 32:Nat):Int)>27)=false›)
   have g3:=of_decide_eq_false (‹decide (((c.toNat % 32:Nat):Int)<24)=false›)
   have g4:=TG (c.toNat % 32) (by omega) (by omega)
   have g5:=HL.out
   have g6:=HB.out
   rw[g4.1,List.length_map,IntWalk.i64_in _ (by omega)]at g1
   rw[HH.out,OO HD.out (by omega) (by omega) (by omega)];rfl
  ·have g1:=of_decide_eq_false hb
   have g2:=of_decide_eq_false (‹decide (((c.toNat % 32:Nat):Int)>27)=false›)
   have g3:=of_decide_eq_false (‹decide (((c.toNat % 32:Nat):Int)<24)=false›)
   have g4:=TG (c.toNat % 32) (by omega) (by omega)
   have g5:=HL.out
   have g6:=HB.out
   rw[g4.1,List.length_map,IntWalk.i64_in _ (by omega)]at g1
   rw[g4.1]
   have g7:=HH.out.trans (IM HD.out (by omega) (by omega) (by omega))
   generalize 2 ^ (c.toNat % 32-24)=m at g1 g4 g7 ⊢
   have g8:=g4.2
   have G7:=hid g7
   clear hb g2 g3 g4 g7
   refine ZW (fun k tm bx fr=>∃ i,k+i=m/\tm=[(75,.int .i64 (i:Int)),(74,.int .i64 (m:Int)),(9,.int .i64 (m:Int)),(7,.ptr 1 0),(1,.int .i64 ((p.toNat+1:Nat):Int)),(0,byE b),(4,.ptr 0 0)]/\bx=[[.int .i64 0,.int .u64 0,.bool false],[.int .i64 ((c.toNat/32:Nat):Int),.int .u64 (Wj (r.take i):Nat),.bool false]]/\fr=[]) (m+1) (Lands.mk' (m:=m) (Nat.lt_succ_self _) ⟨0,rfl,rfl,rfl,rfl⟩ ?_ rfl rfl rfl rfl rfl rfl) ?_
   ·repeat'(first|exact Av.Sub.nil|refine Av.Sub.cons rfl ?_)
   rintro k tm bx fr ⟨i,hk,rfl,rfl,rfl⟩
   rcases Nat.lt_or_ge i m with hlt|hge
   ·have hd:decide ((i:Int)<(m:Int))=true:=by simp;omega
    have hir:i<r.length:=by omega
    have hv':(b.map E.byte)[((p.toNat+1+i:Nat):Int).toNat]?=some (E.byte r[i]):=by
     rw[Int.toNat_natCast,HR.out i hir];simp[hir]
    have e4:IntKind.i64.wrap (((p.toNat+1:Nat):Int)+(i:Int))=((p.toNat+1+i:Nat):Int):=by rw[IntWalk.i64_in _ (by omega)];omega
    have e7:IntKind.i64.wrap ((i:Int)+1)=((i+1:Nat):Int):=by rw[IntWalk.i64_in _ (by omega)];omega
    have e6:IntKind.u64.wrap ((r[i].toNat:Nat):Int)=((r[i].toNat:Nat):Int):=by have:=r[i].toNat_lt;rw[IntKind.wrap_u64];omega
    have e5:bits .or .u64 (IntKind.u64.wrap (((Wj (r.take i):Nat):Int)*2 ^ min (Int.toNat 8) IntKind.u64.bits)) ((r[i].toNat:Nat):Int)=((Wj (r.take (i+1)):Nat):Int):=by
     have h9:=IG (Wj (r.take i)) r[i] (XK r i (by omega))
     rw[show((2:Int) ^ min (Int.toNat 8) IntKind.u64.bits)=256 from rfl,h9.1,h9.2,Hc r i hir]
    repeat'(first|rw[e4]|rw[e5]|rw[e6]|rw[e7]|(apply Zh Za;exact Z)|(apply Ze Za;exact Z)|(apply Zd;exact Z;(first|with_reducible assumption|(solve|simp only[bn])))|(apply ZS 10 ZF;decide +kernel;kernel_rfl;kernel_rfl;exact Z;exact Z)|(apply Z9;(iterate 3 exact Z))|refine AD.nil _|exact Yl rfl|(apply Zu Za;(iterate 6 exact Z);(first|exact Qb|rotate_left);(first|with_reducible assumption|exact Z);(first|exact Zj rfl|with_reducible assumption|rotate_left))|(apply KI;exact Z;exact Z;(first|exact Qb|rotate_left);exact Z))
    refine Lands.mk' (m:=k-1) (by omega) ⟨i+1,by omega,rfl,rfl,rfl⟩ ?_ rfl rfl rfl rfl rfl rfl
    repeat'(first|exact Av.Sub.nil|refine Av.Sub.cons rfl ?_)
   ·have hd:decide ((i:Int)<(m:Int))=false:=by simp;omega
    repeat'(first|(apply Ze Za;exact Z)|(apply Zf;exact Z;(first|with_reducible assumption|(solve|simp only[bn]))))
    (apply JF (ts:=[]);(apply Zc Za;exact Z);exact ZD _;exact Z;rotate_left;exact Z)
    have h9:i=m:=by omega
    subst h9
    rw[G7.out,IntWalk.i64_in _ (by omega)]
    rfl
  ·have g2:=of_decide_eq_false hb
   have g3:=of_decide_eq_false (‹decide (((c.toNat % 32:Nat):Int)<24)=false›)
   rw[IntKind.wrap_u8'];omega
abbrev Vu (e:Nat):D:=.iface 175 (.agg [.int .i64 (e:Int)])
abbrev rdC (b:List UInt8)(p m:Nat):List D:=[byE b,.int .i64 (p:Int),.int .i64 (m:Int)]
theorem ZQ [Known](e:Int):AP Tryz.prog 141 [.bool true,.int .i64 e] (.tup []) []:=by
 refine AP.ofA (Zk Tryz.func141 Z Tryz.ntmps141 Z Z ?_)
 repeat'(first|(apply Ze Za;exact Z)|(apply Zf;exact Z;(first|with_reducible assumption|(solve|simp only[bn]))))
 all_goals refine LN [] ResL.nil Z Z Z Z ?_ ?_
 all_goals rfl
theorem WF [Known](e:Nat):AX Tryz.prog 141 [.bool false,.int .i64 (e:Int)] [] (Vu e):=by
 refine Zk Tryz.func141 rfl Tryz.ntmps141 rfl rfl ?_
 repeat'(first|(apply Ze Za;exact Z)|refine Ha Z Z ?_|(apply Zd;exact Z;(first|with_reducible assumption|(solve|simp only[bn])))|refine KN Za Z Z Z Z ?_)
 all_goals exact⟨[],[],ZD _,ZD _,fun i h=>by simp at h,fun i h=>by simp at h,rfl,Nat.zero_le _⟩
theorem Mc {s:List UInt8}{e:Nat}(h:rdS s=.error e):e=8\/e=3:=by
 cases s with
 | nil=>simp[rdS]at h;exact .inl h.symm
 | cons c t=>
  simp only[rdS]at h
  split at h
  ·cases h
  split at h
  ·cases h
  split at h
  ·injection h with h;exact .inr h.symm
  split at h
  ·injection h with h;exact .inl h.symm
  ·cases h
theorem Hm (b:List UInt8)(p:Nat)(hp:p<=b.length):JY b (p:Int)=match rdS (b.drop p) with
  | .error e=>((0,0,false),0,e)
  | .ok (h,r)=>(h,b.length-r.length,0):=by
 have h:=Jj b p hp
 rw[JY,if_neg (by omega),Int.toNat_natCast]
 exact h
theorem OP [Known](b:List UInt8)(p m:Nat)(hb:b.length<=140737488351232)(hp:p<=b.length):AR Tryz.prog 140 [.ptr 0 0] [rdC b p m] (match rdS (b.drop p) with
  | .error e=>.error (Vu e)
  | .ok (h,r)=>.ok (hd h,[rdC b (b.length-r.length) m])):=by
 have hR:=Mb b (p:Int) (by omega)
 rw[Hm b p hp]at hR
 cases hr:rdS (b.drop p) with
 | error e=>
  rw[hr]at hR
  dsimp only at hR ⊢
  have he:((e:Int)==0)=false:=by rcases Mc hr with rfl|rfl<;>rfl
  refine Zk Tryz.func140 rfl Tryz.ntmps140 rfl rfl ?_
  repeat'(first|(apply Zb (hR);kernel_rfl;(iterate 4 exact Z))|rw[he]|(apply Ya [] (WF e);kernel_rfl;(iterate 6 exact Z);intro bx2 fr2 hle2)|(apply Zh Za;exact Z)|(apply Ze Za;exact Z)|(apply Zq Za;exact Z)|(apply Zn 16 ZF;decide +kernel;kernel_rfl;kernel_rfl;kernel_rfl;exact Z;exact Z)|(apply Zs;(iterate 4 exact Z))|exact AE.nil _ _ _ _|(apply Zx;exact Z)|(apply Ye;exact Z)|(apply KR;exact Z)|(apply ZA;exact Z;exact Z;decide +kernel;exact Z)|(apply ZB;exact Z)|(apply Yu;exact Z)|(apply Gq;exact Z)|exact AO.nil _ _ _|(apply Zr;(decide +kernel))|(apply Z4;(iterate 3 exact Z))|exact AOs.nil|exact ZM rfl rfl|exact KS rfl|exact Y4 rfl rfl)
  all_goals first|(apply Vi;exact Z;(first|exact Nat.zero_le _|exact Nat.le_trans (Nat.le_of_ble_eq_true rfl) (by assumption));exact Z)
 | ok y=>
  obtain⟨h,r⟩:=y
  rw[hr]at hR
  dsimp only at hR ⊢
  refine Zk Tryz.func140 rfl Tryz.ntmps140 rfl rfl ?_
  repeat'(first|(apply Zb (hR);kernel_rfl;(iterate 4 exact Z))|(apply Zb (ZQ 0);kernel_rfl;(iterate 4 exact Z))|(apply Zh Za;exact Z)|(apply Ze Za;exact Z)|(apply Zn 16 ZF;decide +kernel;kernel_rfl;kernel_rfl;kernel_rfl;exact Z;exact Z)|(apply Zs;(iterate 4 exact Z))|exact AE.nil _ _ _ _|(apply Zx;exact Z)|(apply Ye;exact Z)|(apply Vs;exact Z)|(apply ZA;exact Z;exact Z;decide +kernel;exact Z)|(apply ZB;exact Z)|(apply Yu;exact Z)|(apply UB;exact Z)|exact AO.nil _ _ _|(apply Zr;(decide +kernel))|(apply Z4;(iterate 3 exact Z))|exact AOs.nil|exact ZM rfl rfl|exact Y4 rfl rfl|exact VR rfl)
  all_goals first|(apply QH (rfl) [0];(apply Zc Za;exact Z);(iterate 4 exact Z))
  all_goals rfl
theorem Md (c:UInt8):((c.toNat:Int)==255)=(c==255):=by
 rw[Bool.eq_iff_iff,beq_iff_eq,beq_iff_eq]
 constructor
 ·intro h
  have:c.toNat=(255:UInt8).toNat:=by show c.toNat=255;omega
  exact UInt8.toNat_inj.1 this
 ·rintro rfl;rfl
theorem Me {b:List UInt8}{p:Nat}(h:p<b.length):∃ c t,b.drop p=c::t/\(b.map E.byte)[((p:Nat):Int).toNat]?=some (E.byte c)/\t=b.drop (p+1):=by
 refine⟨b[p],b.drop (p+1),List.drop_eq_getElem_cons h,?_,rfl⟩
 rw[Int.toNat_natCast,List.getElem?_map,List.getElem?_eq_getElem h];rfl
theorem Gz [Known](b:List UInt8)(p m:Nat)(hb:b.length<=140737488351232)(hp:p<=b.length):AQ Tryz.prog 164 [.ptr 0 0] [rdC b p m] (.bool (Ue (b.drop p))) [rdC b (if Ue (b.drop p)=true then p+1 else p) m]:=by
 have hU:=YR b
 rcases Nat.lt_or_ge p b.length with hlt|hge
 ·obtain⟨c,t,hd,hv,_⟩:=Me hlt
  have d1:decide ((p:Int)<((b.map E.byte).length:Int))=true:=by simp;omega
  have e1:IntKind.i64.wrap ((p:Int)+1)=((p+1:Nat):Int):=by rw[IntWalk.i64_in _ (by omega)];omega
  have e2:=Md c
  rw[hd]
  cases hc:c==255 with
  | true=>
   rw[hc]at e2
   have he:Ue (c::t)=true:=hc
   rw[he,if_pos rfl]
   refine AQ.weak (Zk Tryz.func164 Z Tryz.ntmps164 Z Z ?_)
   repeat'(first|rw[e1]|rw[e2]|(apply Zh Za;exact Z)|(apply Ze Za;exact Z)|(apply Zq Za;exact Z)|refine Zg Z Z Z Qt ?_|refine Zl Z Qt Z Z ?_|refine Zd Z Qt ?_|refine Zm Za Z Z Z Z ?_|(apply Zn 19 ZF;decide +kernel;kernel_rfl;kernel_rfl;kernel_rfl;exact Z;exact Z)|(apply Zs;(iterate 4 exact Z))|exact AE.nil _ _ _ _|(apply Zx;exact Z)|(apply ZA;exact Z;exact Z;decide +kernel;exact Z)|(apply ZB;exact Z)|exact AO.nil _ _ _|(apply Zr;(decide +kernel))|exact AOs.nil|exact ZM rfl rfl|(apply Zu Za;(iterate 6 exact Z);(first|exact Qt|rotate_left);(first|with_reducible assumption|decide +kernel|exact Z);(first|exact Zj rfl|with_reducible assumption|decide +kernel|rotate_left)))
   all_goals(apply Zo [0];(apply Zc Za;exact Z);(iterate 4 exact Z))
   all_goals rfl
  | false=>
   rw[hc]at e2
   have he:Ue (c::t)=false:=hc
   rw[he,if_neg (by simp)]
   refine AQ.weak (Zk Tryz.func164 Z Tryz.ntmps164 Z Z ?_)
   repeat'(first|rw[e2]|(apply Zh Za;exact Z)|(apply Ze Za;exact Z)|(apply Zq Za;exact Z)|refine Z6 ?_|refine Zg Z Z Z Qt ?_|refine Zl Z Qt Z Z ?_|refine Zf Z Qt ?_|refine Zm Za Z Z Z Z ?_|(apply Zn 19 ZF;decide +kernel;kernel_rfl;kernel_rfl;kernel_rfl;exact Z;exact Z)|(apply Zs;(iterate 4 exact Z))|exact AE.nil _ _ _ _|(apply Zx;exact Z)|(apply ZA;exact Z;exact Z;decide +kernel;exact Z)|(apply ZB;exact Z)|exact AO.nil _ _ _|(apply Zr;(decide +kernel))|exact AOs.nil|exact ZM rfl rfl|(apply Zu Za;(iterate 6 exact Z);(first|exact Qt|rotate_left);(first|with_reducible assumption|decide +kernel|exact Z);(first|exact Zj rfl|with_reducible assumption|decide +kernel|rotate_left)))
   all_goals(apply Zo [0];(apply Zc Za;exact Z);(iterate 4 exact Z))
   all_goals rfl
 ·have d1:decide ((p:Int)<((b.map E.byte).length:Int))=false:=by simp;omega
  have hd:b.drop p=[]:=List.drop_eq_nil_of_le hge
  rw[hd,if_neg (by simp[Ue])]
  refine AQ.weak (Zk Tryz.func164 Z Tryz.ntmps164 Z Z ?_)
  repeat'(first|(apply Zh Za;exact Z)|(apply Ze Za;exact Z)|(apply Zq Za;exact Z)|refine Z6 ?_|refine Zv Z Z Z Qt ?_|refine Zi Z Qt Z Z ?_|refine Zf Z Qt ?_|refine Zm Za Z Z Z Z ?_|(apply Zn 19 ZF;decide +kernel;kernel_rfl;kernel_rfl;kernel_rfl;exact Z;exact Z)|(apply Zs;(iterate 4 exact Z))|exact AE.nil _ _ _ _|(apply Zx;exact Z)|(apply ZA;exact Z;exact Z;decide +kernel;exact Z)|(apply ZB;exact Z)|exact AO.nil _ _ _|(apply Zr;(decide +kernel))|exact AOs.nil|exact ZM rfl rfl)
  all_goals(apply Zo [0];(apply Zc Za;exact Z);(iterate 4 exact Z))
  all_goals rfl
theorem OQ [Known][KnownU8](h:Hd)(b:List UInt8)(p m:Nat)(hb:b.length<=140737488351232)(hp:p<=b.length)(hn:h.2.1<18446744073709551616):AR Tryz.prog 165 [.ptr 0 0,hd h] [rdC b p m] (match Wf h (b.drop p) with
  | .error e=>.error (Vu e)
  | .ok (c,r)=>.ok (byE c,[rdC b (b.length-r.length) m])):=by
 obtain⟨k,n,o⟩:=h
 dsimp only at hn
 show AR Tryz.prog _ [.ptr 0 0,.agg [.int .i64 k,.int .u64 (n:Int),.bool o]] _ _
 have e1:IntKind.i64.wrap (((b.map E.byte).length:Int)-(p:Int))=((b.length-p:Nat):Int):=by rw[List.length_map,IntWalk.i64_in _ (by omega)];omega
 have e2:IntKind.u64.wrap ((b.length-p:Nat):Int)=((b.length-p:Nat):Int):=by rw[IntKind.wrap_u64];omega
 unfold Wf
 dsimp only
 have hl:(b.drop p).length=b.length-p:=List.length_drop ..
 rw[hl]
 by_cases hle:n<=b.length-p
 ·rw[if_pos hle]
  have d1:decide ((n:Int)<=((b.length-p:Nat):Int))=true:=by simp;omega
  have e3:IntKind.i64.wrap (n:Int)=(n:Int):=IntWalk.i64_in _ (by omega)
  have e4:IntKind.i64.wrap ((p:Int)+(n:Int))=((p+n:Nat):Int):=by rw[IntWalk.i64_in _ (by omega)];omega
  have hs:(b.take (((p+n:Nat):Int)).toNat).drop ((p:Nat):Int).toNat=(b.drop p).take n:=by
   rw[Int.toNat_natCast,Int.toNat_natCast,List.drop_take];congr 1;omega
  have hij:((p:Nat):Int)<=((p+n:Nat):Int):=by omega
  have hj:(((p+n:Nat):Int)).toNat<=b.length:=by omega
  have hcl:((b.drop p).take n).length<=140737488351232:=by rw[List.length_take,hl];omega
  have hU:=YR b
  have c1:=WW _ hcl
  have c2:=OL _ hcl
  have eR:b.length-((b.drop p).drop n).length=p+n:=by rw[List.length_drop,hl];omega
  by_cases h3:k=3
  ·subst h3
   cases hv:ZE ((b.drop p).take n) with
   | true=>
    rw[hv]at c2
    rw[if_neg (by simp)]
    dsimp only
    rw[eR]
    refine Zk Tryz.func165 rfl Tryz.ntmps165 rfl rfl ?_
    repeat'(first|rw[d1]|rw[e1]|rw[e2]|rw[e3]|rw[e4]|(apply Zb (ZQ 8);kernel_rfl;(iterate 4 exact Z))|(apply Zb (ZQ 3);kernel_rfl;(iterate 4 exact Z))|(apply Zb (c1);kernel_rfl;(iterate 4 exact Z))|(apply Zb (c2);kernel_rfl;(iterate 4 exact Z))|(apply KT Za;(iterate 9 exact Z);exact Qb;(first|with_reducible assumption|decide|(simp only[List.length_cons,List.length_drop,List.length_take,List.length_append,Int.toNat_natCast]at *;omega));(first|with_reducible assumption|decide|(simp only[List.length_cons,List.length_drop,List.length_take,List.length_append,Int.toNat_natCast]at *;omega));(first|with_reducible assumption|exact Z))|(apply Zh Za;exact Z)|(apply Ze Za;exact Z)|refine Z6 ?_|refine Zg Z Z Z Qt ?_|refine Zi Z Qt Z Z ?_|refine Zm Za Z Z Z Z ?_|(apply Zn 7 ZF;decide +kernel;kernel_rfl;kernel_rfl;kernel_rfl;exact Z;exact Z)|(apply Zn 13 ZF;decide +kernel;kernel_rfl;kernel_rfl;kernel_rfl;exact Z;exact Z)|(apply Zn 16 ZF;decide +kernel;kernel_rfl;kernel_rfl;kernel_rfl;exact Z;exact Z)|(apply Zs;(iterate 4 exact Z))|exact AE.nil _ _ _ _|(apply Zx;exact Z)|(apply ZA;exact Z;exact Z;decide +kernel;exact Z)|(apply ZB;exact Z)|exact AO.nil _ _ _|(apply Zr;(decide +kernel))|exact AOs.nil|exact ZM rfl rfl)
    all_goals(apply QH (rfl) [0];(apply Zc Za;exact Z);(iterate 4 exact Z))
    all_goals rfl
   | false=>
    rw[hv]at c2
    rw[if_pos ⟨rfl,rfl⟩]
    dsimp only
    refine Zk Tryz.func165 rfl Tryz.ntmps165 rfl rfl ?_
    repeat'(first|rw[d1]|rw[e1]|rw[e2]|rw[e3]|rw[e4]|(apply Zb (ZQ 8);kernel_rfl;(iterate 4 exact Z))|(apply Ya [] (WF 3);kernel_rfl;(iterate 6 exact Z);intro bx2 fr2 hle2)|(apply Zb (c1);kernel_rfl;(iterate 4 exact Z))|(apply Zb (c2);kernel_rfl;(iterate 4 exact Z))|(apply KT Za;(iterate 9 exact Z);exact Qb;(first|with_reducible assumption|decide|(simp only[List.length_cons,List.length_drop,List.length_take,List.length_append,Int.toNat_natCast]at *;omega));(first|with_reducible assumption|decide|(simp only[List.length_cons,List.length_drop,List.length_take,List.length_append,Int.toNat_natCast]at *;omega));(first|with_reducible assumption|exact Z))|(apply Zh Za;exact Z)|(apply Ze Za;exact Z)|(apply Zq Za;exact Z)|refine Z6 ?_|refine Zg Z Z Z Qt ?_|refine Zi Z Qt Z Z ?_|refine Zm Za Z Z Z Z ?_|(apply Zn 13 ZF;decide +kernel;kernel_rfl;kernel_rfl;kernel_rfl;exact Z;exact Z)|(apply Zn 16 ZF;decide +kernel;kernel_rfl;kernel_rfl;kernel_rfl;exact Z;exact Z)|(apply Zs;(iterate 4 exact Z))|exact AE.nil _ _ _ _|(apply Zx;exact Z)|(apply ZA;exact Z;exact Z;decide +kernel;exact Z)|(apply ZB;exact Z)|exact AO.nil _ _ _|(apply Zr;(decide +kernel))|exact AOs.nil|exact ZM rfl rfl)
    all_goals(apply Vi;exact Z;(first|exact Nat.zero_le _|exact Nat.le_trans (Nat.le_of_ble_eq_true rfl) (by assumption));exact Z)
  ·have k3:(k != 3)=true:=by simpa using h3
   rw[if_neg (by rintro⟨h,_⟩;exact h3 h)]
   dsimp only
   rw[eR]
   refine Zk Tryz.func165 rfl Tryz.ntmps165 rfl rfl ?_
   repeat'(first|rw[d1]|rw[e1]|rw[e2]|rw[e3]|rw[e4]|(apply Zb (ZQ 8);kernel_rfl;(iterate 4 exact Z))|(apply Zb (ZQ 3);kernel_rfl;(iterate 4 exact Z))|(apply Zb (c1);kernel_rfl;(iterate 4 exact Z))|(apply KT Za;(iterate 9 exact Z);exact Qb;(first|with_reducible assumption|decide|(simp only[List.length_cons,List.length_drop,List.length_take,List.length_append,Int.toNat_natCast]at *;omega));(first|with_reducible assumption|decide|(simp only[List.length_cons,List.length_drop,List.length_take,List.length_append,Int.toNat_natCast]at *;omega));(first|with_reducible assumption|exact Z))|(apply Zh Za;exact Z)|(apply Ze Za;exact Z)|refine Z6 ?_|refine Zp Z Z Z Qt ?_|refine Zl Z Qt Z Z ?_|refine Zm Za Z Z Z Z ?_|(apply Zn 7 ZF;decide +kernel;kernel_rfl;kernel_rfl;kernel_rfl;exact Z;exact Z)|(apply Zn 13 ZF;decide +kernel;kernel_rfl;kernel_rfl;kernel_rfl;exact Z;exact Z)|(apply Zn 16 ZF;decide +kernel;kernel_rfl;kernel_rfl;kernel_rfl;exact Z;exact Z)|(apply Zs;(iterate 4 exact Z))|exact AE.nil _ _ _ _|(apply Zx;exact Z)|(apply ZA;exact Z;exact Z;decide +kernel;exact Z)|(apply ZB;exact Z)|exact AO.nil _ _ _|(apply Zr;(decide +kernel))|exact AOs.nil|exact ZM rfl rfl)
   all_goals(apply QH (rfl) [0];(apply Zc Za;exact Z);(iterate 4 exact Z))
   all_goals rfl
 ·rw[if_neg hle]
  dsimp only
  have d1:decide ((n:Int)<=((b.length-p:Nat):Int))=false:=by simp;omega
  refine Zk Tryz.func165 rfl Tryz.ntmps165 rfl rfl ?_
  repeat'(first|rw[d1]|rw[e1]|rw[e2]|(apply Ya [] (WF 8);kernel_rfl;(iterate 6 exact Z);intro bx2 fr2 hle2)|(apply Zh Za;exact Z)|(apply Ze Za;exact Z)|(apply Zq Za;exact Z)|refine Zm Za Z Z Z Z ?_|(apply Zn 13 ZF;decide +kernel;kernel_rfl;kernel_rfl;kernel_rfl;exact Z;exact Z)|(apply Zs;(iterate 4 exact Z))|exact AE.nil _ _ _ _|(apply Zx;exact Z)|(apply ZA;exact Z;exact Z;decide +kernel;exact Z)|(apply ZB;exact Z)|exact AO.nil _ _ _|(apply Zr;(decide +kernel))|exact AOs.nil|exact ZM rfl rfl)
  all_goals(apply Vi;exact Z;(first|exact Nat.zero_le _|exact Nat.le_trans (Nat.le_of_ble_eq_true rfl) (by assumption));exact Z)
end Go.Proofs.YtmljabhmajehnaaGreatDoor
end
