/- The document's powers of two, tails and heads' bytes; the bytes lie in a row of their own. -/
import Derived.Test.YtmljabhmajehnaaGreatDoorW25
import Derived.Test.YtmljabhmajehnaaGreatDoorW09
import Derived.Test.YtmljabhmajehnaaGreatDoorW31
import Derived.Test.YtmljabhmajehnaaGreatDoorW23
import Derived.Test.YtmljabhmajehnaaGreatDoorW15
import Derived.Test.YtmljabhmajehnaaGreatDoorW17
import Derived.Test.YtmljabhmajehnaaGreatDoorW30
set_option linter.unusedVariables false
set_option linter.unusedSimpArgs false
section
open Go.RowKit Go.Pl Go.Av
namespace Go.Proofs.YtmljabhmajehnaaGreatDoor
set_option maxHeartbeats 1000000
theorem Uj [Known](n:Nat)(hn:n<=32):AP Tryz.prog 153 [.int .i64 (n:Int)] (.int .u64 ((2 ^ n:Nat):Int)) []:=by
 refine Zl Tryz.func153 rfl Tryz.ntmps153 rfl rfl ?_
 repeat'(first|(apply Zf Za;exact Z))
 refine ZQ (fun k tm bx fr=>∃ i,k+i=n/\tm=[(0,.int .i64 (n:Int)),(3,.int .u64 ((2 ^ i:Nat):Int)),(4,.int .i64 (i:Int))]/\bx=[]/\fr=[]) (n+1) (Lands.mk' (m:=n) (Nat.lt_succ_self _) ⟨0,rfl,rfl,rfl,rfl⟩ ?_ rfl rfl rfl rfl rfl rfl) ?_
 ·exact .cons rfl (.cons rfl (.cons rfl .nil))
 rintro k tm bx fr ⟨i,hk,rfl,rfl,rfl⟩
 rcases Nat.lt_or_ge i n with hlt|hge
 ·have hd:decide ((i:Int)<(n:Int))=true:=by simp;omega
  have hp:2 ^ (i+1)<=2 ^ 32:=Nat.pow_le_pow_right (by decide) (by omega)
  have hp':2 ^ (i+1)=2*2 ^ i:=by rw[Nat.pow_succ];omega
  have e1:IntKind.u64.wrap (2*((2 ^ i:Nat):Int))=((2 ^ (i+1):Nat):Int):=by rw[IntKind.wrap_u64];omega
  have e2:IntKind.i64.wrap ((i:Int)+1)=((i+1:Nat):Int):=by rw[IntWalk.i64_in _ (by omega)];omega
  repeat'(first|rw[e1]|rw[e2]|(apply Zf Za;exact Z)|(apply Zd;exact Z;(first|with_reducible assumption|(solve|simp only[bn])))|refine Yc ?_)
  refine Lands.mk' (m:=k-1) (by omega) ⟨i+1,by omega,rfl,rfl,rfl⟩ ?_ rfl rfl rfl rfl rfl rfl
  exact .cons rfl (.cons rfl (.cons rfl .nil))
 ·have hd:decide ((i:Int)<(n:Int))=false:=by simp;omega
  repeat'(first|(apply Zf Za;exact Z)|(apply Zg;exact Z;(first|with_reducible assumption|(solve|simp only[bn]))))
  (apply VG (ts:=[]);(apply Zc Za;exact Z);exact ZB _;exact Z;rotate_left;exact Z)
  obtain rfl:i=n:=by omega
  rfl
theorem K4 (n k:Nat):beN n (k+1)=UInt8.ofNat (n/256 ^ k)::beN n k:=by
 unfold beN
 rw[List.range_succ_eq_map,List.map_cons,List.map_map]
 congr 1
 apply List.map_congr_left
 intro i hi
 have hi:i<k:=by simpa using hi
 simp only[Function.comp]
 rw[show k+1-1-i.succ=k-1-i from by omega]
theorem Xp [Known](n f:Nat)(hn:n<18446744073709551616)(hf:f<=8):AP Tryz.prog 154 [.int .u64 (n:Int),.int .i64 (f:Int)] (byE (beN n f)) []:=by
 refine AP.weak (Zl Tryz.func154 Z Tryz.ntmps154 Z Z ?_)
 repeat'(first|(apply Zf Za;exact Z))
 refine ZQ (fun k tm bx fr=>∃ i,k+i=f/\tm=[(0,.int .u64 ((n/256 ^ i:Nat):Int)),(1,.int .i64 (f:Int)),(5,byE (beN n i)),(6,.int .i64 (i:Int))]/\bx=[]/\fr=[]) (f+1) (Lands.mk' (m:=f) (Nat.lt_succ_self _) ⟨0,rfl,rfl,rfl,rfl⟩ ?_ rfl rfl rfl rfl rfl rfl) ?_
 ·refine .cons ?_ (.cons rfl (.wk rfl (.cons rfl .nil)))
  rw[Nat.pow_zero,Nat.div_one];rfl
 rintro k tm bx fr ⟨i,hk,rfl,rfl,rfl⟩
 have hle:n/256 ^ i<=n:=Nat.div_le_self _ _
 have hdd:n/256 ^ (i+1)=n/256 ^ i/256:=by rw[Nat.pow_succ,Nat.div_div_eq_div_mul]
 rcases Nat.lt_or_ge i f with hlt|hge
 ·have hd:decide ((i:Int)<(f:Int))=true:=by simp;omega
  have e1:E.int .u8 (IntKind.u8.wrap (((n/256 ^ i:Nat):Int).tmod 256))=E.byte (UInt8.ofNat (n/256 ^ i)):=by
   unfold E.byte
   rw[IntKind.wrap_u8',UInt8.toNat_ofNat',Int.tmod_eq_emod_of_nonneg (Int.natCast_nonneg _)]
   congr 1
   omega
  have e2:IntKind.i64.wrap ((i:Int)+1)=((i+1:Nat):Int):=by rw[IntWalk.i64_in _ (by omega)];omega
  have e3:IntKind.u64.wrap (((n/256 ^ i:Nat):Int).tdiv 256)=((n/256 ^ (i+1):Nat):Int):=by
   rw[hdd]
   generalize n/256 ^ i=q at hle
   rw[Int.tdiv_eq_ediv_of_nonneg (Int.natCast_nonneg _),IntKind.wrap_u64];omega
  have hU:=Yj (beN n i)
  have hne:i ≠ 0->(beN n i).map E.byte ≠ []:=fun h0 e=>by
   have:=congrArg List.length e
   rw[List.length_map,Z8]at this
   exact h0 this
  have hlb:=Z8 n i
  rcases Nat.eq_zero_or_pos i with rfl|h0
  ·repeat'(first|rw[e2]|rw[e3]|(apply Zi Za;exact Z)|(apply Zf Za;exact Z)|(apply Zd;exact Z;(first|with_reducible assumption|(solve|simp only[bn])))|refine UE Za Z Z Z Z Z Z Z Z Z Z Z Z ?_|refine Z6 Za Z Z Z Z Z Z ?_|(apply Xs;exact Z;exact Z;(first|exact Qb|rotate_left);exact Z)|(apply Xt;exact Z;exact Z;(first|exact Qb|rotate_left);exact Z))
   refine Lands.mk' (m:=k-1) (by omega) ⟨1,by omega,rfl,rfl,rfl⟩ ?_ rfl rfl rfl rfl rfl rfl
   refine .cons rfl (.cons rfl (.wk ?_ (.cons rfl .nil)))
   rw[K4]
   exact congrArg (fun x=>D.sl .ext [x]) e1
  ·have hne:=hne (by omega)
   repeat'(first|rw[e2]|rw[e3]|(apply Zi Za;exact Z)|(apply Zf Za;exact Z)|(apply Zd;exact Z;(first|with_reducible assumption|(solve|simp only[bn])))|refine UE Za Z Z Z Z Z Z Z Z Z Z Z Z ?_|(apply ZU Za;(iterate 6 exact Z);(first|with_reducible assumption|exact Z|rotate_left);exact Z;exact Z;(first|exact Zk rfl|with_reducible assumption|rotate_left);(first|exact Zk rfl|with_reducible assumption|rotate_left);(first|exact Qb|rotate_left);(first|exact Qb|rotate_left);(first|exact Qb|rotate_left);exact Z;exact Z)|(apply Xs;exact Z;exact Z;(first|exact Qb|rotate_left);exact Z)|(apply Xt;exact Z;exact Z;(first|exact Qb|rotate_left);exact Z))
   ·refine Lands.mk' (m:=k-1) (by omega) ⟨i+1,by omega,rfl,rfl,rfl⟩ ?_ rfl rfl rfl rfl rfl rfl
    refine .cons rfl (.cons rfl (.wk ?_ (.cons rfl .nil)))
    rw[K4]
    exact congrArg (fun x=>D.sl .ext (x::(beN n i).map E.byte)) e1
   ·show 1+((beN n i).map E.byte).length<=maxLen
    rw[List.length_map,hlb];unfold maxLen;omega
   ·show(1+((beN n i).map E.byte).length)*1<=140737488355328
    rw[List.length_map,hlb];omega
 ·have hd:decide ((i:Int)<(f:Int))=false:=by simp;omega
  repeat'(first|(apply Zf Za;exact Z)|(apply Zg;exact Z;(first|with_reducible assumption|(solve|simp only[bn]))))
  (apply Mv;(apply Zc Za;exact Z);exact Z)
  obtain rfl:i=f:=by omega
  rfl
theorem VD (m:Int)(i:Nat)(hm:0<=m/\m<=7)(hi:i<32):IntKind.u8.wrap (IntKind.u8.wrap (IntKind.i64.wrap (32*m))+(i:Int))=((Y7 m.toNat i).toNat:Int):=by
 unfold Y7
 rw[IntWalk.i64_in _ (by omega),IntKind.wrap_u8',IntKind.wrap_u8',UInt8.toNat_ofNat']
 omega
theorem Tx (n:Nat)(h:¬ n<24):(n<256->ZE n=1/\Yn n=24)/\(256<=n->n<65536->ZE n=2/\Yn n=25)/\(65536<=n->n<4294967296->ZE n=4/\Yn n=26)/\(4294967296<=n->ZE n=8/\Yn n=27):=by
 unfold ZE Yn
 refine⟨fun h1=>?_,fun h1 h2=>?_,fun h1 h2=>?_,fun h1=>?_⟩
 ·simp[h,h1]
 ·simp[h,h2,show ¬ n<256 by omega]
 ·simp[h,h2,show ¬ n<256 by omega,show ¬ n<65536 by omega]
 ·simp[h,show ¬ n<256 by omega,show ¬ n<65536 by omega,show ¬ n<4294967296 by omega]
theorem OD [Known](h:Hd)(hr:ZW h=true)(hn:h.2.1<18446744073709551616):AT Tryz.prog 121 [hd h] [] [] (.sl (.own 0) ((ZJ h).map E.byte)) [] [⟨(ZJ h).length,1,5⟩]:=by
 have hm:=Hm hr
 have HN:=hid hn
 clear hn
 refine Zl Tryz.func121 rfl Tryz.ntmps121 rfl rfl ?_
 repeat'(first|(apply Zi Za;exact Z)|(apply Zf Za;exact Z)|(apply YD;exact Z;all_goals intro hb)|refine ZR Za Z Z Z Z Z Z Z Z Z Z Z Z ?_)
 ·(apply QG [] [0];(apply Zc Za;exact Z);(iterate 7 exact Z))
  ·have hb':h.2.2=true:=hb
   rw[show ZJ h=[Y7 h.1.toNat 31] by simp[ZJ,hb']]
   exact congrArg (fun x:Int=>D.sl (.own 0) [E.int .u8 x]) (VD h.1 31 hm (by decide))
  ·rfl
  ·(have hb':h.2.2=true:=hb);rw[show ZJ h=[Y7 h.1.toNat 31] by simp[ZJ,hb']];rfl
 ·(apply QG [] [0];(apply Zc Za;exact Z);(iterate 7 exact Z))
  ·have hb':h.2.2=false := ‹_›
   have h24:=of_decide_eq_true hb
   have h24':h.2.1<24:=by omega
   rw[show ZJ h=[Y7 h.1.toNat h.2.1] by simp[ZJ,hb',Yn,ZE,h24',beN]]
   have e1:IntKind.u8.wrap ((h.2.1:Nat):Int)=((h.2.1:Nat):Int):=by rw[IntKind.wrap_u8'];omega
   have e:=congrArg (fun x:Int=>D.sl (.own 0) [E.int .u8 x]) (VD h.1 h.2.1 hm (by omega))
   rw[<- e1]at e
   exact e
  ·rfl
  ·(have hb':h.2.2=false := ‹_›);(have h24:=of_decide_eq_true hb);(have h24':h.2.1<24:=by omega);rw[show ZJ h=[Y7 h.1.toNat h.2.1] by simp[ZJ,hb',Yn,ZE,h24',beN]];rfl
 have hb':h.2.2=false := ‹_›
 have h24:¬ h.2.1<24:=by have:=of_decide_eq_false hb;omega
 have hw:ZJ h=Y7 h.1.toNat (Yn h.2.1)::beN h.2.1 (ZE h.2.1):=by simp[ZJ,hb']
 have hfs:=Tx h.2.1 h24
 refine ZQ (fun k tm bx fr=>∃ sz inf:Int,((k=3/\sz=1/\inf=24)\/(k=2/\sz=2/\inf=25/\256<=h.2.1)\/(k=1/\sz=4/\inf=26/\65536<=h.2.1)\/(k=0/\sz=8/\inf=27/\4294967296<=h.2.1))/\tm=[(1,.ptr 0 0),(3,.int .u8 (IntKind.u8.wrap (IntKind.i64.wrap (32*h.1)))),(4,.int .i64 sz),(5,.int .u8 inf)]/\bx=[[.int .i64 h.1,.int .u64 (h.2.1:Int),.bool h.2.2]]/\fr=[]) 4 (Lands.mk' (m:=3) (by decide) ⟨1,24,.inl ⟨rfl,rfl,rfl⟩,rfl,rfl,rfl⟩ ?_ rfl rfl rfl rfl rfl rfl) ?_
 ·exact .cons rfl (.cons rfl (.cons rfl (.cons rfl .nil)))
 rintro k tm bx fr ⟨sz,inf,hc,rfl,rfl,rfl⟩
 rcases hc with⟨rfl,rfl,rfl⟩ | ⟨rfl,rfl,rfl,hge⟩ | ⟨rfl,rfl,rfl,hge⟩ | ⟨rfl,rfl,rfl,hge⟩
 ·have hd:decide ((1:Int)<8)=true:=by decide
  rcases Nat.lt_or_ge h.2.1 256 with hlt|hge2
  ·have hq:decide ((h.2.1:Int) ≥ ((2 ^ 8:Nat):Int))=false:=by
    rw[show((2 ^ 8:Nat):Int)=256 from rfl];simp;omega
   have hf:=hfs.1 hlt
   have hU:=Yj (beN h.2.1 1)
   repeat'(first|(apply Zb (Uj 8 (by decide));kernel_rfl;(iterate 4 exact Z))|(apply Zb (Xp h.2.1 1 HN.out (by decide));kernel_rfl;(iterate 4 exact Z))|refine Wp Za Z Z Z Z Z Z Z Z Z Z Z (Zk rfl) (Zk rfl) (List.cons_ne_nil _ _) Qd Qd Z Z ?_|(apply Zi Za;exact Z)|(apply Zf Za;exact Z)|(apply Zp Za;exact Z)|refine Ze Z Z Z Qt ?_|refine Zj Z Qt Z Z ?_|refine Zg Z Qt ?_|refine ZR Za Z Z Z Z Z Z Z Z Z Z Z Z ?_|(apply Zo 8 ZD;decide +kernel;kernel_rfl;kernel_rfl;kernel_rfl;exact Z;exact Z)|(apply Zs;(iterate 4 exact Z))|exact AE.nil _ _ _ _|(apply Zw;exact Z)|(apply Zz;exact Z;exact Z;decide +kernel;exact Z)|(apply ZA;exact Z)|exact AO.nil _ _ _|(apply Zr;(decide +kernel))|exact AOs.nil|exact ZF rfl rfl)
   ·(apply QG [] [0];(apply Zc Za;exact Z);(iterate 7 exact Z))
    ·have e:=congrArg (fun x:Int=>D.sl (.own 0) (E.int .u8 x::(beN h.2.1 1).map E.byte)) (VD h.1 24 hm (by decide))
     rw[hw,hf.1,hf.2]
     exact e
    ·rfl
    ·simp only[hw,hf.1,List.length_cons,List.length_nil,List.length_map,Z8];rfl
  ·have hq:decide ((h.2.1:Int) ≥ ((2 ^ 8:Nat):Int))=true:=by
    rw[show((2 ^ 8:Nat):Int)=256 from rfl];simp;omega
   repeat'(first|(apply Zb (Uj 8 (by decide));kernel_rfl;(iterate 4 exact Z))|(apply Zi Za;exact Z)|(apply Zf Za;exact Z)|(apply Zp Za;exact Z)|refine Ze Z Z Z Qt ?_|refine Zj Z Qt Z Z ?_|refine Zd Z Qt ?_|refine Yc ?_|(apply Zo 8 ZD;decide +kernel;kernel_rfl;kernel_rfl;kernel_rfl;exact Z;exact Z)|(apply Zs;(iterate 4 exact Z))|exact AE.nil _ _ _ _|(apply Zw;exact Z)|(apply Zz;exact Z;exact Z;decide +kernel;exact Z)|(apply ZA;exact Z)|exact AO.nil _ _ _|(apply Zr;(decide +kernel))|exact AOs.nil|exact ZF rfl rfl)
   refine Lands.mk' (m:=2) (by decide) ⟨2,25,.inr (.inl ⟨rfl,rfl,rfl,hge2⟩),rfl,rfl,rfl⟩ ?_ rfl rfl rfl rfl rfl rfl
   exact .cons rfl (.cons rfl (.cons rfl (.cons rfl .nil)))
 ·have hd:decide ((2:Int)<8)=true:=by decide
  rcases Nat.lt_or_ge h.2.1 65536 with hlt|hge2
  ·have hq:decide ((h.2.1:Int) ≥ ((2 ^ 16:Nat):Int))=false:=by
    rw[show((2 ^ 16:Nat):Int)=65536 from rfl];simp;omega
   have hf:=hfs.2.1 hge hlt
   have hU:=Yj (beN h.2.1 2)
   repeat'(first|(apply Zb (Uj 16 (by decide));kernel_rfl;(iterate 4 exact Z))|(apply Zb (Xp h.2.1 2 HN.out (by decide));kernel_rfl;(iterate 4 exact Z))|refine Wp Za Z Z Z Z Z Z Z Z Z Z Z (Zk rfl) (Zk rfl) (List.cons_ne_nil _ _) Qd Qd Z Z ?_|(apply Zi Za;exact Z)|(apply Zf Za;exact Z)|(apply Zp Za;exact Z)|refine Ze Z Z Z Qt ?_|refine Zj Z Qt Z Z ?_|refine Zg Z Qt ?_|refine ZR Za Z Z Z Z Z Z Z Z Z Z Z Z ?_|(apply Zo 8 ZD;decide +kernel;kernel_rfl;kernel_rfl;kernel_rfl;exact Z;exact Z)|(apply Zs;(iterate 4 exact Z))|exact AE.nil _ _ _ _|(apply Zw;exact Z)|(apply Zz;exact Z;exact Z;decide +kernel;exact Z)|(apply ZA;exact Z)|exact AO.nil _ _ _|(apply Zr;(decide +kernel))|exact AOs.nil|exact ZF rfl rfl)
   ·(apply QG [] [0];(apply Zc Za;exact Z);(iterate 7 exact Z))
    ·have e:=congrArg (fun x:Int=>D.sl (.own 0) (E.int .u8 x::(beN h.2.1 2).map E.byte)) (VD h.1 25 hm (by decide))
     rw[hw,hf.1,hf.2]
     exact e
    ·rfl
    ·simp only[hw,hf.1,List.length_cons,List.length_nil,List.length_map,Z8];rfl
  ·have hq:decide ((h.2.1:Int) ≥ ((2 ^ 16:Nat):Int))=true:=by
    rw[show((2 ^ 16:Nat):Int)=65536 from rfl];simp;omega
   repeat'(first|(apply Zb (Uj 16 (by decide));kernel_rfl;(iterate 4 exact Z))|(apply Zi Za;exact Z)|(apply Zf Za;exact Z)|(apply Zp Za;exact Z)|refine Ze Z Z Z Qt ?_|refine Zj Z Qt Z Z ?_|refine Zd Z Qt ?_|refine Yc ?_|(apply Zo 8 ZD;decide +kernel;kernel_rfl;kernel_rfl;kernel_rfl;exact Z;exact Z)|(apply Zs;(iterate 4 exact Z))|exact AE.nil _ _ _ _|(apply Zw;exact Z)|(apply Zz;exact Z;exact Z;decide +kernel;exact Z)|(apply ZA;exact Z)|exact AO.nil _ _ _|(apply Zr;(decide +kernel))|exact AOs.nil|exact ZF rfl rfl)
   refine Lands.mk' (m:=1) (by decide) ⟨4,26,.inr (.inr (.inl ⟨rfl,rfl,rfl,hge2⟩)),rfl,rfl,rfl⟩ ?_ rfl rfl rfl rfl rfl rfl
   exact .cons rfl (.cons rfl (.cons rfl (.cons rfl .nil)))
 ·have hd:decide ((4:Int)<8)=true:=by decide
  rcases Nat.lt_or_ge h.2.1 4294967296 with hlt|hge2
  ·have hq:decide ((h.2.1:Int) ≥ ((2 ^ 32:Nat):Int))=false:=by
    rw[show((2 ^ 32:Nat):Int)=4294967296 from rfl];simp;omega
   have hf:=hfs.2.2.1 hge hlt
   have hU:=Yj (beN h.2.1 4)
   repeat'(first|(apply Zb (Uj 32 (by decide));kernel_rfl;(iterate 4 exact Z))|(apply Zb (Xp h.2.1 4 HN.out (by decide));kernel_rfl;(iterate 4 exact Z))|refine Wp Za Z Z Z Z Z Z Z Z Z Z Z (Zk rfl) (Zk rfl) (List.cons_ne_nil _ _) Qd Qd Z Z ?_|(apply Zi Za;exact Z)|(apply Zf Za;exact Z)|(apply Zp Za;exact Z)|refine Ze Z Z Z Qt ?_|refine Zj Z Qt Z Z ?_|refine Zg Z Qt ?_|refine ZR Za Z Z Z Z Z Z Z Z Z Z Z Z ?_|(apply Zo 8 ZD;decide +kernel;kernel_rfl;kernel_rfl;kernel_rfl;exact Z;exact Z)|(apply Zs;(iterate 4 exact Z))|exact AE.nil _ _ _ _|(apply Zw;exact Z)|(apply Zz;exact Z;exact Z;decide +kernel;exact Z)|(apply ZA;exact Z)|exact AO.nil _ _ _|(apply Zr;(decide +kernel))|exact AOs.nil|exact ZF rfl rfl)
   ·(apply QG [] [0];(apply Zc Za;exact Z);(iterate 7 exact Z))
    ·have e:=congrArg (fun x:Int=>D.sl (.own 0) (E.int .u8 x::(beN h.2.1 4).map E.byte)) (VD h.1 26 hm (by decide))
     rw[hw,hf.1,hf.2]
     exact e
    ·rfl
    ·simp only[hw,hf.1,List.length_cons,List.length_nil,List.length_map,Z8];rfl
  ·have hq:decide ((h.2.1:Int) ≥ ((2 ^ 32:Nat):Int))=true:=by
    rw[show((2 ^ 32:Nat):Int)=4294967296 from rfl];simp;omega
   repeat'(first|(apply Zb (Uj 32 (by decide));kernel_rfl;(iterate 4 exact Z))|(apply Zi Za;exact Z)|(apply Zf Za;exact Z)|(apply Zp Za;exact Z)|refine Ze Z Z Z Qt ?_|refine Zj Z Qt Z Z ?_|refine Zd Z Qt ?_|refine Yc ?_|(apply Zo 8 ZD;decide +kernel;kernel_rfl;kernel_rfl;kernel_rfl;exact Z;exact Z)|(apply Zs;(iterate 4 exact Z))|exact AE.nil _ _ _ _|(apply Zw;exact Z)|(apply Zz;exact Z;exact Z;decide +kernel;exact Z)|(apply ZA;exact Z)|exact AO.nil _ _ _|(apply Zr;(decide +kernel))|exact AOs.nil|exact ZF rfl rfl)
   refine Lands.mk' (m:=0) (by decide) ⟨8,27,.inr (.inr (.inr ⟨rfl,rfl,rfl,hge2⟩)),rfl,rfl,rfl⟩ ?_ rfl rfl rfl rfl rfl rfl
   exact .cons rfl (.cons rfl (.cons rfl (.cons rfl .nil)))
 ·have hd:decide ((8:Int)<8)=false:=by decide
  have hf:=hfs.2.2.2 hge
  have hU:=Yj (beN h.2.1 8)
  repeat'(first|(apply Zb (Xp h.2.1 8 HN.out (by decide));kernel_rfl;(iterate 4 exact Z))|refine Wp Za Z Z Z Z Z Z Z Z Z Z Z (Zk rfl) (Zk rfl) (List.cons_ne_nil _ _) Qd Qd Z Z ?_|(apply Zi Za;exact Z)|(apply Zf Za;exact Z)|(apply Zp Za;exact Z)|refine Zt Z Z Z Qt ?_|refine Zh Z Qt Z Z ?_|refine Zg Z Qt ?_|refine ZR Za Z Z Z Z Z Z Z Z Z Z Z Z ?_|(apply Zo 8 ZD;decide +kernel;kernel_rfl;kernel_rfl;kernel_rfl;exact Z;exact Z)|(apply Zs;(iterate 4 exact Z))|exact AE.nil _ _ _ _|(apply Zw;exact Z)|(apply Zz;exact Z;exact Z;decide +kernel;exact Z)|(apply ZA;exact Z)|exact AO.nil _ _ _|(apply Zr;(decide +kernel))|exact AOs.nil|exact ZF rfl rfl)
  ·(apply QG [] [0];(apply Zc Za;exact Z);(iterate 7 exact Z))
   ·have e:=congrArg (fun x:Int=>D.sl (.own 0) (E.int .u8 x::(beN h.2.1 8).map E.byte)) (VD h.1 27 hm (by decide))
    rw[hw,hf.1,hf.2]
    exact e
   ·rfl
   ·simp only[hw,hf.1,List.length_cons,List.length_nil,List.length_map,Z8];rfl
end Go.Proofs.YtmljabhmajehnaaGreatDoor
end
section
open Go.RowKit Go.Pl Go.Av
namespace Go.Proofs.YtmljabhmajehnaaGreatDoor
set_option maxHeartbeats 4000000
mutual
def QC:It->Nat->Nat
 | .mk k n b l,m=>Vo l m 1
def Vo:List It->Nat->Nat->Nat
 | [],_,n=>n
 | x::l,m,n=>if n<=m then Vo l m (n+QC x m) else n
end
theorem K5:∀(l:List It) (m n:Nat),n<=Vo l m n
 | [],m,n=>by rw[Vo];omega
 | x::l,m,n=>by
  rw[Vo]
  split
  ·have:=K5 l m (n+QC x m);omega
  ·omega
mutual
theorem NZ:∀(x:It) (m:Nat),QC x m<=WZ x
 | .mk k n b l,m=>by
  rw[QC,WZ]
  have:=K6 l m 1
  omega
theorem K6:∀(l:List It) (m n:Nat),Vo l m n<=n+WV l
 | [],m,n=>by rw[Vo];omega
 | x::l,m,n=>by
  rw[Vo,WV]
  split
  ·have h1:=NZ x m
   have h2:=K6 l m (n+QC x m)
   omega
  ·omega
end
mutual
theorem N0:∀(x:It) (m:Nat),QC x m<=m->WZ x=QC x m
 | .mk k n b l,m,h=>by
  rw[QC]at h ⊢
  rw[WZ]
  exact K7 l m 1 h
theorem K7:∀(l:List It) (m n:Nat),Vo l m n<=m->n+WV l=Vo l m n
 | [],m,n,h=>by rw[Vo,WV];omega
 | x::l,m,n,h=>by
  rw[Vo]at h ⊢
  rw[WV]
  split at h
  ·rename_i hn
   rw[if_pos hn]
   have h1:=K5 l m (n+QC x m)
   have h2:=N0 x m (by omega)
   have h3:=K7 l m (n+QC x m) h
   omega
  ·omega
end
mutual
def OE:It->Nat->Nat
 | .mk k n b l,m=>Uk l m 1
def Uk:List It->Nat->Nat->Nat
 | [],_,n=>n
 | x::l,0,n=>n
 | x::l,m+1,n=>Uk l (m+1) (if n<1+OE x m then 1+OE x m else n)
end
theorem IX:∀(l:List It) (m n:Nat),n<=Uk l m n
 | [],m,n=>by rw[Uk];omega
 | x::l,0,n=>by rw[Uk];omega
 | x::l,m+1,n=>by
  rw[Uk]
  have:=IX l (m+1) (if n<1+OE x m then 1+OE x m else n)
  split at this<;>(try split)<;>omega
mutual
theorem M8:∀(x:It) (m:Nat),OE x m<=m+1
 | .mk k n b l,m=>by
  rw[OE]
  exact IY l m 1 (by omega)
theorem IY:∀(l:List It) (m n:Nat),n<=m+1->Uk l m n<=m+1
 | [],m,n,h=>by rw[Uk];omega
 | x::l,0,n,h=>by rw[Uk];omega
 | x::l,m+1,n,h=>by
  rw[Uk]
  have:=M8 x m
  exact IY l (m+1) _ (by split<;>omega)
end
mutual
theorem N1:∀(x:It) (m d:Nat),d<=m->(OE x m<=d ↔ WT x d=true)
 | .mk k n b l,m,0,h=>by
  have:=IX l m 1
  rw[OE,WT]
  simp;omega
 | .mk k n b l,m,d+1,h=>by
  rw[OE,WT,K8 l m 1 d (by omega)]
  simp
theorem K8:∀(l:List It) (m n d:Nat),d+1<=m->(Uk l m n<=d+1 ↔ n<=d+1/\WU l d=true)
 | [],m,n,d,h=>by rw[Uk,WU];simp
 | x::l,0,n,d,h=>by omega
 | x::l,m+1,n,d,h=>by
  rw[Uk,WU,Bool.and_eq_true,K8 l (m+1) _ d (by omega),<- N1 x m d (by omega)]
  split
  ·exact⟨fun⟨h1,h2⟩=>⟨by omega,by omega,h2⟩,fun⟨h1,h2,h3⟩=>⟨by omega,h3⟩⟩
  ·exact⟨fun⟨h1,h2⟩=>⟨by omega,by omega,h2⟩,fun⟨h1,h2,h3⟩=>⟨by omega,h3⟩⟩
end
end Go.Proofs.YtmljabhmajehnaaGreatDoor
end
section
open Go.RowKit Go.Pl Go.Av
namespace Go.Proofs.YtmljabhmajehnaaGreatDoor
set_option maxHeartbeats 4000000
theorem K9:∀ {l:List It},QB l=true->∀ y ∈ l,VW y=true
 | x::l,h,y,hy=>by
  rw[QB,Bool.and_eq_true]at h
  rcases List.mem_cons.1 hy with rfl|hy
  ·exact h.1
  ·exact K9 h.2 y hy
theorem GM (h:Hd):∃ c t,ZJ h=c::t:=by
 unfold ZJ
 split
 ·exact⟨_,_,rfl⟩
 ·exact⟨_,_,rfl⟩
theorem Oa [Known]:∀(x:It),wfI x->VW x=true->(ZH x).length<=1099511627776->AP Tryz.prog 75 [itD x] (byE (ZH x)) []:=by
 refine It.ind fun k n b l ih hw hfi hlim=>?_
 obtain⟨hn,hb,hl,hws⟩:=hw
 rw[VW,Bool.and_eq_true]at hfi
 obtain⟨ho,hfs⟩:=hfi
 have hlen:=Zx l
 have hk7:=Qc ho
 have hr:ZW (k,(It.mk k n b l).hn,false)=true:=by simp[ZW];exact hk7
 have hhn:(It.mk k n b l).hn<18446744073709551616:=by simp only[It.hn];(repeat' split)<;>omega
 have hput:ZH (.mk k n b l)=ZJ (k,(It.mk k n b l).hn,false)++(b++ZO l):=by rw[ZH,if_pos hr]
 have hW:=OD (k,(It.mk k n b l).hn,false) hr hhn
 obtain⟨c0,t0,hcw⟩:=GM (k,(It.mk k n b l).hn,false)
 rw[hput]at hlim ⊢
 rw[hcw]at hW hlim ⊢
 have hU0:=Yj (c0::t0)
 have hU1:=Yj b
 clear hr hhn hcw hput
 have eb:IntKind.u64.wrap (((b.map E.byte).length:Nat):Int)=((b.length:Nat):Int):=by rw[List.length_map,IntKind.wrap_u64];omega
 have el:IntKind.u64.wrap (((Zu l).length:Nat):Int)=((l.length:Nat):Int):=by rw[hlen,IntKind.wrap_u64];omega
 rcases JG ho with⟨rfl,rfl,rfl⟩ | ⟨rfl,rfl,rfl⟩ | ⟨rfl,rfl,rfl,_⟩ | ⟨rfl,rfl,rfl⟩
 ·replace hW:AT Tryz.prog _ [.agg [.int .i64 0,.int .u64 (n:Int),.bool false]] [] [] _ [] _:=hW
  refine AP.ofA (Zl Tryz.func75 Z Tryz.ntmps75 Z Z ?_)
  repeat'(first|(apply Ya [] [] (hW);kernel_rfl;(iterate 10 exact Z))|refine Yr 70 ?_|refine YH ?_|(apply Zi Za;exact Z)|(apply Zf Za;exact Z)|(apply Zp Za;exact Z)|refine Zg Z Qt ?_|refine Zm Za Z Z Z Z ?_|refine Z6 Za Z Z Z Z Z Z ?_)
  all_goals(apply Zq [];(apply Zc Za;exact Z);(iterate 4 exact Z))
  ·rw[ZO,List.append_nil,List.append_nil]
  ·rfl
 ·replace hW:AT Tryz.prog _ [.agg [.int .i64 2,.int .u64 (b.length:Int),.bool false]] [] [] _ [] _:=hW
  rcases b with _|⟨c1,b⟩
  ·refine AP.ofA ?_
   refine Zl Tryz.func75 rfl Tryz.ntmps75 rfl rfl ?_
   repeat'(first|rw[eb]|(apply Ya [] [] (hW);kernel_rfl;(iterate 10 exact Z))|refine Yr 70 ?_|refine YH ?_|(apply Zi Za;exact Z)|(apply Zf Za;exact Z)|(apply Zp Za;exact Z)|refine Zd Z Qt ?_|refine Zg Z Qt ?_|refine Zm Za Z Z Z Z ?_|refine Z6 Za Z Z Z Z Z Z ?_)
   all_goals(apply Zq [];(apply Zc Za;exact Z);(iterate 4 exact Z))
   ·rw[ZO,List.append_nil,List.append_nil]
   ·rfl
  ·refine AP.ofA ?_
   refine Zl Tryz.func75 rfl Tryz.ntmps75 rfl rfl ?_
   repeat'(first|rw[eb]|(apply Ya [] [] (hW);kernel_rfl;(iterate 10 exact Z))|refine Yr 70 ?_|refine YH ?_|(apply Zi Za;exact Z)|(apply Zf Za;exact Z)|(apply Zp Za;exact Z)|refine Zd Z Qt ?_|refine Zg Z Qt ?_|refine Zm Za Z Z Z Z ?_|(apply ZU Za;(iterate 6 exact Z);(first|with_reducible assumption|decide +kernel|exact Z|rotate_left);exact Z;exact Z;(first|exact Zk rfl|with_reducible assumption|decide +kernel|rotate_left);(first|exact Zk rfl|with_reducible assumption|decide +kernel|rotate_left);(first|exact Qt|rotate_left);(first|exact Qt|rotate_left);(first|exact Qt|rotate_left);exact Z;exact Z))
   all_goals first|(apply Zq [];(apply Zc Za;exact Z);(iterate 4 exact Z))|(first|rfl|(simp only[List.length_append,List.length_cons,List.length_nil,List.length_map,Zx];done)|(simp only[List.length_append,List.length_cons,List.length_nil,List.length_map,Zx]at *;(try unfold maxLen);(try simp only[Nat.add_mul]);omega))
   ·rw[ZO,List.append_nil];exact congrArg (D.sl .ext) (List.map_append (f:=E.byte) (l₁:=c0::t0) (l₂:=c1::b)).symm
   ·rfl
 ·replace hW:AT Tryz.prog _ [.agg [.int .i64 3,.int .u64 (b.length:Int),.bool false]] [] [] _ [] _:=hW
  rcases b with _|⟨c1,b⟩
  ·refine AP.ofA ?_
   refine Zl Tryz.func75 rfl Tryz.ntmps75 rfl rfl ?_
   repeat'(first|rw[eb]|(apply Ya [] [] (hW);kernel_rfl;(iterate 10 exact Z))|refine Yr 70 ?_|refine YH ?_|(apply Zi Za;exact Z)|(apply Zf Za;exact Z)|(apply Zp Za;exact Z)|refine Zd Z Qt ?_|refine Zg Z Qt ?_|refine Zm Za Z Z Z Z ?_|refine Z6 Za Z Z Z Z Z Z ?_)
   all_goals(apply Zq [];(apply Zc Za;exact Z);(iterate 4 exact Z))
   ·rw[ZO,List.append_nil,List.append_nil]
   ·rfl
  ·refine AP.ofA ?_
   refine Zl Tryz.func75 rfl Tryz.ntmps75 rfl rfl ?_
   repeat'(first|rw[eb]|(apply Ya [] [] (hW);kernel_rfl;(iterate 10 exact Z))|refine Yr 70 ?_|refine YH ?_|(apply Zi Za;exact Z)|(apply Zf Za;exact Z)|(apply Zp Za;exact Z)|refine Zd Z Qt ?_|refine Zg Z Qt ?_|refine Zm Za Z Z Z Z ?_|(apply ZU Za;(iterate 6 exact Z);(first|with_reducible assumption|decide +kernel|exact Z|rotate_left);exact Z;exact Z;(first|exact Zk rfl|with_reducible assumption|decide +kernel|rotate_left);(first|exact Zk rfl|with_reducible assumption|decide +kernel|rotate_left);(first|exact Qt|rotate_left);(first|exact Qt|rotate_left);(first|exact Qt|rotate_left);exact Z;exact Z))
   all_goals first|(apply Zq [];(apply Zc Za;exact Z);(iterate 4 exact Z))|(first|rfl|(simp only[List.length_append,List.length_cons,List.length_nil,List.length_map,Zx];done)|(simp only[List.length_append,List.length_cons,List.length_nil,List.length_map,Zx]at *;(try unfold maxLen);(try simp only[Nat.add_mul]);omega))
   ·rw[ZO,List.append_nil];exact congrArg (D.sl .ext) (List.map_append (f:=E.byte) (l₁:=c0::t0) (l₂:=c1::b)).symm
   ·rfl
 ·replace hW:AT Tryz.prog _ [.agg [.int .i64 4,.int .u64 (l.length:Int),.bool false]] [] [] _ [] _:=hW
  refine AP.ofA (Zl Tryz.func75 Z Tryz.ntmps75 Z Z ?_)
  repeat'(first|rw[el]|(apply Ya [] [] (hW);kernel_rfl;(iterate 10 exact Z))|(apply Zi Za;exact Z)|(apply Zf Za;exact Z)|refine Zd Z Qt ?_|refine Zm Za Z Z Z Z ?_|refine Z6 Za Z Z Z Z Z Z ?_)
  refine ZQ (fun f tm bx fr=>∃(i c:Nat) (M:List E),f+i=l.length/\c=M.length/\M=((c0::t0)++ZO (l.take i)).map E.byte/\tm=[(1,.ptr 0 0),(4,.sl (.own 0) M),(5,.int .i64 (i:Int))]/\bx=[itC 4 0 [] l,[.int .i64 4,.int .u64 (l.length:Int),.bool false]]/\fr=[⟨c,1,5⟩]) (l.length+1) (Lands.mk' (m:=l.length) (Nat.lt_succ_self _) ⟨0,(c0::t0).length,(c0::t0).map E.byte,rfl,by rw[List.length_map],by rw[List.take_zero,ZO,List.append_nil],rfl,rfl,rfl⟩ ?_ rfl rfl rfl rfl rfl rfl) ?_
  ·exact .cons rfl (.cons rfl (.cons rfl .nil))
  rintro f tm bx fr ⟨i,c,M,hf,hc,hM,rfl,rfl,rfl⟩
  subst hc
  have hU:=Yz l
  have hUM:Uni 1 M:=by rw[hM];exact Yj _
  have hMl:M.length=(c0::t0).length+(ZO (l.take i)).length:=by rw[hM,List.length_map,List.length_append]
  rcases Nat.lt_or_ge i l.length with hlt|hge
  ·have hdl:decide ((i:Int)<((Zu l).length:Int))=true:=decide_eq_true (by omega)
   obtain⟨⟨k1,n1,b2,l1⟩,hy⟩:∃ y,l[i]?=some y:=⟨_,List.getElem?_eq_getElem hlt⟩
   have hv:(Zu l)[((i:Nat):Int).toNat]?=some (.agg [.int .i64 k1,.int .u64 (n1:Int),.sl (b2.map E.byte),.sl (Zu l1)]):=by
    rw[Int.toNat_natCast,Yk,List.getElem?_map,hy];rfl
   have hmem:=List.mem_of_getElem? hy
   have hps:=Wq hy
   have hpl:=WQ l (i+1)
   have hps2:=congrArg List.length hps
   rw[List.length_append]at hps2
   rw[List.length_append,List.nil_append]at hlim
   have hfy:=K9 hfs _ hmem
   have hc:=ih _ hmem (Y5 hws _ hmem) hfy (by omega)
   rw[VW,Bool.and_eq_true]at hfy
   have hk1:=Qc hfy.1
   have hpos:=Ib (x:=.mk k1 n1 b2 l1) hk1
   generalize ZH (.mk k1 n1 b2 l1)=Q at hc hps hps2 hpos
   obtain⟨q0,Q,rfl⟩:∃ q0 Q',Q=q0::Q':=by
    cases Q with
    | nil=>simp at hpos
    | cons q Q=>exact⟨q,Q,rfl⟩
   have hUQ:=Yj (q0::Q)
   have ei:IntKind.i64.wrap ((i:Int)+1)=((i+1:Nat):Int):=by rw[IntWalk.i64_in _ (by omega)];omega
   repeat'(first|rw[ei]|(apply Zb (hc);kernel_rfl;(iterate 4 exact Z))|(apply Zi Za;exact Z)|(apply Zf Za;exact Z)|(apply Zp Za;exact Z)|refine Zd Z Qt ?_|refine Zm Za Z Z Z Z ?_|(apply ZU Za;(iterate 6 exact Z);(first|with_reducible assumption|decide +kernel|exact Z|rotate_left);exact Z;exact Z;(first|exact Zk rfl|with_reducible assumption|decide +kernel|rotate_left);(first|exact Zk rfl|with_reducible assumption|decide +kernel|rotate_left);(first|exact Qt|rotate_left);(first|exact Qt|rotate_left);(first|exact Qt|rotate_left);exact Z;exact Z)|(apply Zv Za;(iterate 6 exact Z);(first|exact Qt|rotate_left);(first|with_reducible assumption|decide +kernel|exact Z);(first|exact Zk rfl|with_reducible assumption|decide +kernel|rotate_left)))
   all_goals first|(first|rfl|(simp only[List.length_append,List.length_cons,List.length_nil,List.length_map,Zx];done)|(simp only[List.length_append,List.length_cons,List.length_nil,List.length_map,Zx]at *;(try unfold maxLen);(try simp only[Nat.add_mul]);omega))|skip
   refine Lands.mk' (m:=f-1) (by omega) ⟨i+1,M.length+((q0::Q).map E.byte).length,M++(q0::Q).map E.byte,by omega,by rw[List.length_append],by rw[hM,hps,<- List.map_append,List.append_assoc],rfl,rfl,rfl⟩ ?_ rfl rfl rfl rfl rfl rfl
   exact .cons rfl (.cons rfl (.cons rfl .nil))
  ·have hdl:decide ((i:Int)<((Zu l).length:Int))=false:=decide_eq_false (by omega)
   rw[List.take_of_length_le hge]at hM
   repeat'(first|(apply Zi Za;exact Z)|(apply Zf Za;exact Z)|(apply Zp Za;exact Z)|refine Zg Z Qt ?_|refine Zm Za Z Z Z Z ?_)
   all_goals(apply Zq [];(apply Zc Za;exact Z);(iterate 4 exact Z))
   ·rw[hM];rfl
   ·rfl
theorem X5 [Known](r:RepV)(hf:Fit r.of):AP Tryz.prog 25 [.agg (Jn r)] (.bool (Yd r)) []:=by
 have hI:=XP r.of r.t r.q hf
 unfold Yd
 rw[show decide ((r.rs:Int)<=255)=decide ((r.rs:Int)<256) from by rw[decide_eq_decide];omega]
 generalize Yo r.of r.t r.q=e3 at *
 obtain⟨a,b,c,rs,tm,⟨i,n,s,h,d⟩,t,q⟩:=r
 clear hf
 try dsimp only at *
 cases t1:decide ((rs:Int)<256)<;>cases t2:decide ((tm:Int)<=1099511627776)<;>cases a<;>cases b<;>cases c
 all_goals
  refine AP.ofA (Zl Tryz.func25 Z Tryz.ntmps25 Z Z ?_)
  repeat'(first|(apply Zb (hI);kernel_rfl;(iterate 4 exact Z))|(apply Zi Za;exact Z)|(apply Zf Za;exact Z)|(apply Ze;(iterate 3 exact Z);(first|with_reducible assumption|decide +kernel|(solve|simp only[bn])))|(apply Zt;(iterate 3 exact Z);(first|with_reducible assumption|decide +kernel|(solve|simp only[bn])))|(apply Zn;(iterate 3 exact Z);(first|with_reducible assumption|decide +kernel|(solve|simp only[bn])))|(apply Zj;exact Z;(first|with_reducible assumption|decide +kernel|(solve|simp only[bn]));exact Z;exact Z)|(apply Zh;exact Z;(first|with_reducible assumption|decide +kernel|(solve|simp only[bn]));exact Z;exact Z))
  all_goals exact Qe
theorem OF [Known](b:Bool):AP Tryz.prog 120 [.bool b] (itD (.mk 0 (nb b) [] [])) []:=by
 cases b
 all_goals
  refine AP.ofA (Zl Tryz.func120 Z Tryz.ntmps120 Z Z ?_)
  repeat'(first|(apply Zf Za;exact Z)|(apply Zp Za;exact Z)|(apply Zd;exact Z;(first|with_reducible assumption|decide +kernel|(solve|simp only[bn])))|(apply Zg;exact Z;(first|with_reducible assumption|decide +kernel|(solve|simp only[bn]))))
  all_goals exact Qe
theorem JS [Known](L:List E):AP Tryz.prog 119 [.sl .ext L] (.agg [.int .i64 4,.int .u64 0,.sl .ext [],.sl .ext L]) []:=by
 refine AP.ofA (Zl Tryz.func119 Z Tryz.ntmps119 Z Z ?_)
 repeat'(first|(apply Zf Za;exact Z))
 all_goals exact Qe
theorem S0 [Known](ra rb rc:Bool)(rrs rtm:Nat)(ji:Bool)(jn js:Nat)(jh jd:List UInt8)(rt rq:Nat)(ak:Int)(an:Nat)(ab:List UInt8)(al:List It)(bk:Int)(bn:Nat)(bb:List UInt8)(bl:List It)(ck:Int)(cn:Nat)(cb:List UInt8)(cl:List It)(wk:Int)(wn:Nat)(wb:List UInt8)(wl:List It)
  (hA:AP Tryz.prog 120 [.bool ra] (.agg (itC ak an ab al)) [])
  (hB:AP Tryz.prog 120 [.bool rb] (.agg (itC bk bn bb bl)) [])
  (hC:AP Tryz.prog 120 [.bool rc] (.agg (itC ck cn cb cl)) [])
  (hW:AP Tryz.prog 118 [.agg [.bool ji,.int .u64 (jn:Int),.int .u64 (js:Int),.str jh,.str jd,.int .u64 (rt:Int),.int .u64 (rq:Int)]] (.agg (itC wk wn wb wl)) [])
  (h3:AP Tryz.prog 119 [.sl .ext [.agg [.int .i64 ak,.int .u64 (an:Int),.sl (ab.map E.byte),.sl (Zu al)],.agg [.int .i64 bk,.int .u64 (bn:Int),.sl (bb.map E.byte),.sl (Zu bl)],.agg [.int .i64 ck,.int .u64 (cn:Int),.sl (cb.map E.byte),.sl (Zu cl)]]] (.agg [.int .i64 4,.int .u64 0,.sl .ext [],.sl .ext [.agg [.int .i64 ak,.int .u64 (an:Int),.sl (ab.map E.byte),.sl (Zu al)],.agg [.int .i64 bk,.int .u64 (bn:Int),.sl (bb.map E.byte),.sl (Zu bl)],.agg [.int .i64 ck,.int .u64 (cn:Int),.sl (cb.map E.byte),.sl (Zu cl)]]]) [])
  (h4:AP Tryz.prog 119 [.sl .ext [.agg [.int .i64 4,.int .u64 0,.sl [],.sl [.agg [.int .i64 ak,.int .u64 (an:Int),.sl (ab.map E.byte),.sl (Zu al)],.agg [.int .i64 bk,.int .u64 (bn:Int),.sl (bb.map E.byte),.sl (Zu bl)],.agg [.int .i64 ck,.int .u64 (cn:Int),.sl (cb.map E.byte),.sl (Zu cl)]]],nmE rrs,nmE rtm,.agg [.int .i64 wk,.int .u64 (wn:Int),.sl (wb.map E.byte),.sl (Zu wl)]]] (.agg [.int .i64 4,.int .u64 0,.sl .ext [],.sl .ext [.agg [.int .i64 4,.int .u64 0,.sl [],.sl [.agg [.int .i64 ak,.int .u64 (an:Int),.sl (ab.map E.byte),.sl (Zu al)],.agg [.int .i64 bk,.int .u64 (bn:Int),.sl (bb.map E.byte),.sl (Zu bl)],.agg [.int .i64 ck,.int .u64 (cn:Int),.sl (cb.map E.byte),.sl (Zu cl)]]],nmE rrs,nmE rtm,.agg [.int .i64 wk,.int .u64 (wn:Int),.sl (wb.map E.byte),.sl (Zu wl)]]]) [])
  (h2:AP Tryz.prog 119 [.sl .ext [nmE 1,.agg [.int .i64 4,.int .u64 0,.sl [],.sl [.agg [.int .i64 4,.int .u64 0,.sl [],.sl [.agg [.int .i64 ak,.int .u64 (an:Int),.sl (ab.map E.byte),.sl (Zu al)],.agg [.int .i64 bk,.int .u64 (bn:Int),.sl (bb.map E.byte),.sl (Zu bl)],.agg [.int .i64 ck,.int .u64 (cn:Int),.sl (cb.map E.byte),.sl (Zu cl)]]],nmE rrs,nmE rtm,.agg [.int .i64 wk,.int .u64 (wn:Int),.sl (wb.map E.byte),.sl (Zu wl)]]]]] (.agg [.int .i64 4,.int .u64 0,.sl .ext [],.sl .ext [nmE 1,.agg [.int .i64 4,.int .u64 0,.sl [],.sl [.agg [.int .i64 4,.int .u64 0,.sl [],.sl [.agg [.int .i64 ak,.int .u64 (an:Int),.sl (ab.map E.byte),.sl (Zu al)],.agg [.int .i64 bk,.int .u64 (bn:Int),.sl (bb.map E.byte),.sl (Zu bl)],.agg [.int .i64 ck,.int .u64 (cn:Int),.sl (cb.map E.byte),.sl (Zu cl)]]],nmE rrs,nmE rtm,.agg [.int .i64 wk,.int .u64 (wn:Int),.sl (wb.map E.byte),.sl (Zu wl)]]]]]) []) :
  AP Tryz.prog 72 [.agg [.bool ra,.bool rb,.bool rc,.int .u64 (rrs:Int),.int .u64 (rtm:Int),.bool ji,.int .u64 (jn:Int),.int .u64 (js:Int),.str jh,.str jd,.int .u64 (rt:Int),.int .u64 (rq:Int)]] (.agg [.int .i64 4,.int .u64 0,.sl .ext [],.sl .ext [nmE 1,.agg [.int .i64 4,.int .u64 0,.sl [],.sl [.agg [.int .i64 4,.int .u64 0,.sl [],.sl [.agg [.int .i64 ak,.int .u64 (an:Int),.sl (ab.map E.byte),.sl (Zu al)],.agg [.int .i64 bk,.int .u64 (bn:Int),.sl (bb.map E.byte),.sl (Zu bl)],.agg [.int .i64 ck,.int .u64 (cn:Int),.sl (cb.map E.byte),.sl (Zu cl)]]],nmE rrs,nmE rtm,.agg [.int .i64 wk,.int .u64 (wn:Int),.sl (wb.map E.byte),.sl (Zu wl)]]]]]) []:=by
 refine AP.ofA (Zl Tryz.func72 Z Tryz.ntmps72 Z Z ?_)
 repeat'(first|(apply Zb (hA);kernel_rfl;(iterate 4 exact Z))|(apply Zb (hB);kernel_rfl;(iterate 4 exact Z))|(apply Zb (hC);kernel_rfl;(iterate 4 exact Z))|(apply Zb (hW);kernel_rfl;(iterate 4 exact Z))|(apply Zb (h3);kernel_rfl;(iterate 4 exact Z))|(apply Zb (h4);kernel_rfl;(iterate 4 exact Z))|(apply Zb (h2);kernel_rfl;(iterate 4 exact Z))|(apply Zi Za;exact Z)|(apply Zf Za;exact Z)|refine ZR Za Z Z Z Z Z Z Z Z Z Z Z Z ?_|(apply Zo 12 ZD;decide +kernel;kernel_rfl;kernel_rfl;kernel_rfl;exact Z;exact Z)|(apply Zo 13 ZD;decide +kernel;kernel_rfl;kernel_rfl;kernel_rfl;exact Z;exact Z)|(apply Zs;(iterate 4 exact Z))|exact AE.nil _ _ _ _|(apply Zw;exact Z)|(apply Z7;exact Z)|(apply Zz;exact Z;exact Z;decide +kernel;exact Z)|(apply ZA;exact Z)|(apply Yt;exact Z)|exact AO.nil _ _ _|(apply Zr;(decide +kernel))|(apply ZX;(iterate 3 exact Z))|exact AOs.nil|exact ZF rfl rfl|exact Wz rfl rfl rfl rfl rfl|exact YW rfl rfl)
 all_goals exact Qe
theorem Ob [Known](r:RepV)(h:Yd r=true):AP Tryz.prog 72 [.agg (Jn r)] (itD (Yh r)) []:=by
 obtain⟨_,_,h3⟩:=VQ h
 have hW:=X4 r.of r.t r.q h3
 have hA:=OF r.a
 have hB:=OF r.b
 have hC:=OF r.c
 unfold Yh QU
 generalize Yl r.of r.t r.q=w at *
 clear h h3
 obtain⟨a,b,c,rs,tm,⟨i,n,s,hh,d⟩,t,q⟩:=r
 obtain⟨wk,wn,wb,wl⟩:=w
 try dsimp only at *
 exact S0 a b c rs tm i n s hh d t q 0 (nb a) [] [] 0 (nb b) [] [] 0 (nb c) [] [] wk wn wb wl hA hB hC hW (JS _) (JS _) (JS _)
theorem GN {r:RepV}(h:Yd r=true):VW (Yh r)=true:=by
 have:=Vg h
 rw[Qq]at this
 simp only[Bool.and_eq_true]at this
 exact this.2.2
theorem GO [Known](r:RepV)(h:Yd r=true)(hl:(ZH (Yh r)).length<=1099511627776):AP Tryz.prog 26 [.agg (Jn r)] (byE (ZH (Yh r))) []:=by
 have hI:=Ob r h
 have hP:=Oa (Yh r) (Uh h) (GN h) hl
 generalize ZH (Yh r)=P at *
 clear hl
 generalize Yh r=y at *
 obtain⟨a,b,c,rs,tm,⟨i,n,s,hh,d⟩,t,q⟩:=r
 obtain⟨yk,yn,yb,yl⟩:=y
 try dsimp only at *
 refine AP.ofA (Zl Tryz.func26 Z Tryz.ntmps26 Z Z ?_)
 repeat'(first|(apply Zb (hI);kernel_rfl;(iterate 4 exact Z))|(apply Zb (hP);kernel_rfl;(iterate 4 exact Z))|(apply Zi Za;exact Z)|(apply Zf Za;exact Z))
 all_goals exact Qe
end Go.Proofs.YtmljabhmajehnaaGreatDoor
end
