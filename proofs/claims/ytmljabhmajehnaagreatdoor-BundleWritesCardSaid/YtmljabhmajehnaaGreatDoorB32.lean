/- The document's powers of two, tails and heads' bytes; the bytes lie in a row of their own. -/
import Derived.Test.YtmljabhmajehnaaGreatDoorB17
import Derived.Test.YtmljabhmajehnaaGreatDoorB10
import Derived.Test.YtmljabhmajehnaaGreatDoorB31
import Derived.Test.YtmljabhmajehnaaGreatDoorB20
set_option linter.unusedVariables false
set_option linter.unusedSimpArgs false
section
open Go.RowKit Go.Pl Go.Av
namespace Go.Proofs.YtmljabhmajehnaaGreatDoor
set_option maxHeartbeats 1000000
theorem UP [Known](n:Nat)(hn:n<=32):AP Tryz.prog 153 [.int .i64 (n:Int)] (.int .u64 ((2 ^ n:Nat):Int)) []:=by
 refine Zl Tryz.func153 rfl Tryz.ntmps153 rfl rfl ?_
 repeat'(first|(apply Zg Za;exact U))
 refine ZI (fun k tm bx fr=>∃ i,k+i=n/\tm=[(0,.int .i64 (n:Int)),(3,.int .u64 ((2 ^ i:Nat):Int)),(4,.int .i64 (i:Int))]/\bx=[]/\fr=[]) (n+1) (Lands.mk' (m:=n) (Nat.lt_succ_self _) ⟨0,rfl,rfl,rfl,rfl⟩ ?_ rfl rfl rfl rfl rfl rfl) ?_
 ·exact .cons rfl (.cons rfl (.cons rfl .nil))
 rintro k tm bx fr ⟨i,hk,rfl,rfl,rfl⟩
 rcases Nat.lt_or_ge i n with hlt|hge
 ·have hd:decide ((i:Int)<(n:Int))=true:=by simp;omega
  have hp:2 ^ (i+1)<=2 ^ 32:=Nat.pow_le_pow_right (by decide) (by omega)
  have hp':2 ^ (i+1)=2*2 ^ i:=by rw[Nat.pow_succ];omega
  have e1:IntKind.u64.wrap (2*((2 ^ i:Nat):Int))=((2 ^ (i+1):Nat):Int):=by rw[IntKind.wrap_u64];omega
  have e2:IntKind.i64.wrap ((i:Int)+1)=((i+1:Nat):Int):=by rw[IntWalk.i64_in _ (by omega)];omega
  repeat'(first|rw[e1]|rw[e2]|(apply Zg Za;exact U)|(apply Zd;exact U;(first|with_reducible assumption|(solve|simp only[bn])))|refine Yn ?_)
  refine Lands.mk' (m:=k-1) (by omega) ⟨i+1,by omega,rfl,rfl,rfl⟩ ?_ rfl rfl rfl rfl rfl rfl
  exact .cons rfl (.cons rfl (.cons rfl .nil))
 ·have hd:decide ((i:Int)<(n:Int))=false:=by simp;omega
  repeat'(first|(apply Zg Za;exact U)|(apply Zf;exact U;(first|with_reducible assumption|(solve|simp only[bn]))))
  (apply V6 (ts:=[]);(apply Zc Za;exact U);exact ZD _;exact U;rotate_left;exact U)
  obtain rfl:i=n:=by omega
  rfl
theorem O5 (n k:Nat):beN n (k+1)=UInt8.ofNat (n/256 ^ k)::beN n k:=by
 unfold beN
 rw[List.range_succ_eq_map,List.map_cons,List.map_map]
 congr 1
 apply List.map_congr_left
 intro i hi
 have hi:i<k:=by simpa using hi
 simp only[Function.comp]
 rw[show k+1-1-i.succ=k-1-i from by omega]
theorem Ka [Known](n f:Nat)(hn:n<18446744073709551616)(hf:f<=8):AP Tryz.prog 154 [.int .u64 (n:Int),.int .i64 (f:Int)] (byE (beN n f)) []:=by
 refine AP.weak (Zl Tryz.func154 U Tryz.ntmps154 U U ?_)
 repeat'(first|(apply Zg Za;exact U))
 refine ZI (fun k tm bx fr=>∃ i,k+i=f/\tm=[(0,.int .u64 ((n/256 ^ i:Nat):Int)),(1,.int .i64 (f:Int)),(5,byE (beN n i)),(6,.int .i64 (i:Int))]/\bx=[]/\fr=[]) (f+1) (Lands.mk' (m:=f) (Nat.lt_succ_self _) ⟨0,rfl,rfl,rfl,rfl⟩ ?_ rfl rfl rfl rfl rfl rfl) ?_
 ·refine .cons ?_ (.cons rfl (.wk rfl (.cons rfl .nil)))
  rw[Nat.pow_zero,Nat.div_one];rfl
 rintro k tm bx fr ⟨i,hk,rfl,rfl,rfl⟩
 have hle:n/256 ^ i<=n:=Nat.div_le_self _ _
 have hdd:n/256 ^ (i+1)=n/256 ^ i/256:=by rw[Nat.pow_succ,Nat.div_div_eq_div_mul]
 rcases Nat.lt_or_ge i f with hlt|hge
 ·have hd:decide ((i:Int)<(f:Int))=true:=by simp;omega
  have e1:E.int .u8 (IntKind.u8.wrap (((n/256 ^ i:Nat):Int).tmod 256))=E.byte (UInt8.ofNat (n/256 ^ i)):=by
   unfold E.byte
   rw[IntKind.wrap_u8',UInt8.toNat_ofNat',Int.tmod_eq_emod_of_nonneg (Int.natCast_nonneg _)]
   congr 1
   omega
  have e2:IntKind.i64.wrap ((i:Int)+1)=((i+1:Nat):Int):=by rw[IntWalk.i64_in _ (by omega)];omega
  have e3:IntKind.u64.wrap (((n/256 ^ i:Nat):Int).tdiv 256)=((n/256 ^ (i+1):Nat):Int):=by
   rw[hdd]
   generalize n/256 ^ i=q at hle
   rw[Int.tdiv_eq_ediv_of_nonneg (Int.natCast_nonneg _),IntKind.wrap_u64];omega
  have hU:=Ym (beN n i)
  have hne:i ≠ 0->(beN n i).map E.byte ≠ []:=fun h0 e=>by
   have:=congrArg List.length e
   rw[List.length_map,Yi]at this
   exact h0 this
  have hlb:=Yi n i
  rcases Nat.eq_zero_or_pos i with rfl|h0
  ·repeat'(first|rw[e2]|rw[e3]|(apply Zh Za;exact U)|(apply Zg Za;exact U)|(apply Zd;exact U;(first|with_reducible assumption|(solve|simp only[bn])))|refine QB Za U U U U U U U U U U U U ?_|refine ZY Za U U U U U U ?_|(apply UX;exact U;exact U;(first|exact Qb|rotate_left);exact U)|(apply UY;exact U;exact U;(first|exact Qb|rotate_left);exact U))
   refine Lands.mk' (m:=k-1) (by omega) ⟨1,by omega,rfl,rfl,rfl⟩ ?_ rfl rfl rfl rfl rfl rfl
   refine .cons rfl (.cons rfl (.wk ?_ (.cons rfl .nil)))
   rw[O5]
   exact congrArg (fun x=>D.sl .ext [x]) e1
  ·have hne:=hne (by omega)
   repeat'(first|rw[e2]|rw[e3]|(apply Zh Za;exact U)|(apply Zg Za;exact U)|(apply Zd;exact U;(first|with_reducible assumption|(solve|simp only[bn])))|refine QB Za U U U U U U U U U U U U ?_|(apply ZS Za;(iterate 6 exact U);(first|with_reducible assumption|exact U|rotate_left);exact U;exact U;(first|exact Zk rfl|with_reducible assumption|rotate_left);(first|exact Zk rfl|with_reducible assumption|rotate_left);(first|exact Qb|rotate_left);(first|exact Qb|rotate_left);(first|exact Qb|rotate_left);exact U;exact U)|(apply UX;exact U;exact U;(first|exact Qb|rotate_left);exact U)|(apply UY;exact U;exact U;(first|exact Qb|rotate_left);exact U))
   ·refine Lands.mk' (m:=k-1) (by omega) ⟨i+1,by omega,rfl,rfl,rfl⟩ ?_ rfl rfl rfl rfl rfl rfl
    refine .cons rfl (.cons rfl (.wk ?_ (.cons rfl .nil)))
    rw[O5]
    exact congrArg (fun x=>D.sl .ext (x::(beN n i).map E.byte)) e1
   ·show 1+((beN n i).map E.byte).length<=maxLen
    rw[List.length_map,hlb];unfold maxLen;omega
   ·show(1+((beN n i).map E.byte).length)*1<=140737488355328
    rw[List.length_map,hlb];omega
 ·have hd:decide ((i:Int)<(f:Int))=false:=by simp;omega
  repeat'(first|(apply Zg Za;exact U)|(apply Zf;exact U;(first|with_reducible assumption|(solve|simp only[bn]))))
  (apply RO;(apply Zc Za;exact U);exact U)
  obtain rfl:i=f:=by omega
  rfl
theorem V3 (m:Int)(i:Nat)(hm:0<=m/\m<=7)(hi:i<32):IntKind.u8.wrap (IntKind.u8.wrap (IntKind.i64.wrap (32*m))+(i:Int))=((Wq m.toNat i).toNat:Int):=by
 unfold Wq
 rw[IntWalk.i64_in _ (by omega),IntKind.wrap_u8',IntKind.wrap_u8',UInt8.toNat_ofNat']
 omega
theorem Md (n:Nat)(h:¬ n<24):(n<256->ZG n=1/\Yu n=24)/\(256<=n->n<65536->ZG n=2/\Yu n=25)/\(65536<=n->n<4294967296->ZG n=4/\Yu n=26)/\(4294967296<=n->ZG n=8/\Yu n=27):=by
 unfold ZG Yu
 refine⟨fun h1=>?_,fun h1 h2=>?_,fun h1 h2=>?_,fun h1=>?_⟩
 ·simp[h,h1]
 ·simp[h,h2,show ¬ n<256 by omega]
 ·simp[h,h2,show ¬ n<256 by omega,show ¬ n<65536 by omega]
 ·simp[h,show ¬ n<256 by omega,show ¬ n<65536 by omega,show ¬ n<4294967296 by omega]
theorem IS [Known](h:Hd)(hr:Z0 h=true)(hn:h.2.1<18446744073709551616):AT Tryz.prog 121 [hd h] [] [] (.sl (.own 0) ((ZQ h).map E.byte)) [] [⟨(ZQ h).length,1,5⟩]:=by
 have hm:=T3 hr
 have HN:=hid hn
 clear hn
 refine Zl Tryz.func121 rfl Tryz.ntmps121 rfl rfl ?_
 repeat'(first|(apply Zh Za;exact U)|(apply Zg Za;exact U)|(apply YM;exact U;all_goals intro hb)|refine ZO Za U U U U U U U U U U U U ?_)
 ·(apply Js [] [0];(apply Zc Za;exact U);(iterate 7 exact U))
  ·have hb':h.2.2=true:=hb
   rw[show ZQ h=[Wq h.1.toNat 31] by simp[ZQ,hb']]
   exact congrArg (fun x:Int=>D.sl (.own 0) [E.int .u8 x]) (V3 h.1 31 hm (by decide))
  ·rfl
  ·(have hb':h.2.2=true:=hb);rw[show ZQ h=[Wq h.1.toNat 31] by simp[ZQ,hb']];rfl
 ·(apply Js [] [0];(apply Zc Za;exact U);(iterate 7 exact U))
  ·have hb':h.2.2=false := ‹_›
   have h24:=of_decide_eq_true hb
   have h24':h.2.1<24:=by omega
   rw[show ZQ h=[Wq h.1.toNat h.2.1] by simp[ZQ,hb',Yu,ZG,h24',beN]]
   have e1:IntKind.u8.wrap ((h.2.1:Nat):Int)=((h.2.1:Nat):Int):=by rw[IntKind.wrap_u8'];omega
   have e:=congrArg (fun x:Int=>D.sl (.own 0) [E.int .u8 x]) (V3 h.1 h.2.1 hm (by omega))
   rw[<- e1]at e
   exact e
  ·rfl
  ·(have hb':h.2.2=false := ‹_›);(have h24:=of_decide_eq_true hb);(have h24':h.2.1<24:=by omega);rw[show ZQ h=[Wq h.1.toNat h.2.1] by simp[ZQ,hb',Yu,ZG,h24',beN]];rfl
 have hb':h.2.2=false := ‹_›
 have h24:¬ h.2.1<24:=by have:=of_decide_eq_false hb;omega
 have hw:ZQ h=Wq h.1.toNat (Yu h.2.1)::beN h.2.1 (ZG h.2.1):=by simp[ZQ,hb']
 have hfs:=Md h.2.1 h24
 refine ZI (fun k tm bx fr=>∃ sz inf:Int,((k=3/\sz=1/\inf=24)\/(k=2/\sz=2/\inf=25/\256<=h.2.1)\/(k=1/\sz=4/\inf=26/\65536<=h.2.1)\/(k=0/\sz=8/\inf=27/\4294967296<=h.2.1))/\tm=[(1,.ptr 0 0),(3,.int .u8 (IntKind.u8.wrap (IntKind.i64.wrap (32*h.1)))),(4,.int .i64 sz),(5,.int .u8 inf)]/\bx=[[.int .i64 h.1,.int .u64 (h.2.1:Int),.bool h.2.2]]/\fr=[]) 4 (Lands.mk' (m:=3) (by decide) ⟨1,24,.inl ⟨rfl,rfl,rfl⟩,rfl,rfl,rfl⟩ ?_ rfl rfl rfl rfl rfl rfl) ?_
 ·exact .cons rfl (.cons rfl (.cons rfl (.cons rfl .nil)))
 rintro k tm bx fr ⟨sz,inf,hc,rfl,rfl,rfl⟩
 rcases hc with⟨rfl,rfl,rfl⟩ | ⟨rfl,rfl,rfl,hge⟩ | ⟨rfl,rfl,rfl,hge⟩ | ⟨rfl,rfl,rfl,hge⟩
 ·have hd:decide ((1:Int)<8)=true:=by decide
  rcases Nat.lt_or_ge h.2.1 256 with hlt|hge2
  ·have hq:decide ((h.2.1:Int) ≥ ((2 ^ 8:Nat):Int))=false:=by
    rw[show((2 ^ 8:Nat):Int)=256 from rfl];simp;omega
   have hf:=hfs.1 hlt
   have hU:=Ym (beN h.2.1 1)
   repeat'(first|(apply Zb (UP 8 (by decide));kernel_rfl;(iterate 4 exact U))|(apply Zb (Ka h.2.1 1 HN.out (by decide));kernel_rfl;(iterate 4 exact U))|refine Wk Za U U U U U U U U U U U (Zk rfl) (Zk rfl) (List.cons_ne_nil _ _) Qd Qd U U ?_|(apply Zh Za;exact U)|(apply Zg Za;exact U)|(apply Zo Za;exact U)|refine Ze U U U Qt ?_|refine Zj U Qt U U ?_|refine Zf U Qt ?_|refine ZO Za U U U U U U U U U U U U ?_|(apply Zq 8 ZE;decide +kernel;kernel_rfl;kernel_rfl;kernel_rfl;exact U;exact U)|(apply Zt;(iterate 4 exact U))|exact AE.nil _ _ _ _|(apply Zx;exact U)|(apply Zz;exact U;exact U;decide +kernel;exact U)|(apply ZA;exact U)|exact AO.nil _ _ _|(apply Zs;(decide +kernel))|exact AOs.nil|exact ZF rfl rfl)
   ·(apply Js [] [0];(apply Zc Za;exact U);(iterate 7 exact U))
    ·have e:=congrArg (fun x:Int=>D.sl (.own 0) (E.int .u8 x::(beN h.2.1 1).map E.byte)) (V3 h.1 24 hm (by decide))
     rw[hw,hf.1,hf.2]
     exact e
    ·rfl
    ·simp only[hw,hf.1,List.length_cons,List.length_nil,List.length_map,Yi];rfl
  ·have hq:decide ((h.2.1:Int) ≥ ((2 ^ 8:Nat):Int))=true:=by
    rw[show((2 ^ 8:Nat):Int)=256 from rfl];simp;omega
   repeat'(first|(apply Zb (UP 8 (by decide));kernel_rfl;(iterate 4 exact U))|(apply Zh Za;exact U)|(apply Zg Za;exact U)|(apply Zo Za;exact U)|refine Ze U U U Qt ?_|refine Zj U Qt U U ?_|refine Zd U Qt ?_|refine Yn ?_|(apply Zq 8 ZE;decide +kernel;kernel_rfl;kernel_rfl;kernel_rfl;exact U;exact U)|(apply Zt;(iterate 4 exact U))|exact AE.nil _ _ _ _|(apply Zx;exact U)|(apply Zz;exact U;exact U;decide +kernel;exact U)|(apply ZA;exact U)|exact AO.nil _ _ _|(apply Zs;(decide +kernel))|exact AOs.nil|exact ZF rfl rfl)
   refine Lands.mk' (m:=2) (by decide) ⟨2,25,.inr (.inl ⟨rfl,rfl,rfl,hge2⟩),rfl,rfl,rfl⟩ ?_ rfl rfl rfl rfl rfl rfl
   exact .cons rfl (.cons rfl (.cons rfl (.cons rfl .nil)))
 ·have hd:decide ((2:Int)<8)=true:=by decide
  rcases Nat.lt_or_ge h.2.1 65536 with hlt|hge2
  ·have hq:decide ((h.2.1:Int) ≥ ((2 ^ 16:Nat):Int))=false:=by
    rw[show((2 ^ 16:Nat):Int)=65536 from rfl];simp;omega
   have hf:=hfs.2.1 hge hlt
   have hU:=Ym (beN h.2.1 2)
   repeat'(first|(apply Zb (UP 16 (by decide));kernel_rfl;(iterate 4 exact U))|(apply Zb (Ka h.2.1 2 HN.out (by decide));kernel_rfl;(iterate 4 exact U))|refine Wk Za U U U U U U U U U U U (Zk rfl) (Zk rfl) (List.cons_ne_nil _ _) Qd Qd U U ?_|(apply Zh Za;exact U)|(apply Zg Za;exact U)|(apply Zo Za;exact U)|refine Ze U U U Qt ?_|refine Zj U Qt U U ?_|refine Zf U Qt ?_|refine ZO Za U U U U U U U U U U U U ?_|(apply Zq 8 ZE;decide +kernel;kernel_rfl;kernel_rfl;kernel_rfl;exact U;exact U)|(apply Zt;(iterate 4 exact U))|exact AE.nil _ _ _ _|(apply Zx;exact U)|(apply Zz;exact U;exact U;decide +kernel;exact U)|(apply ZA;exact U)|exact AO.nil _ _ _|(apply Zs;(decide +kernel))|exact AOs.nil|exact ZF rfl rfl)
   ·(apply Js [] [0];(apply Zc Za;exact U);(iterate 7 exact U))
    ·have e:=congrArg (fun x:Int=>D.sl (.own 0) (E.int .u8 x::(beN h.2.1 2).map E.byte)) (V3 h.1 25 hm (by decide))
     rw[hw,hf.1,hf.2]
     exact e
    ·rfl
    ·simp only[hw,hf.1,List.length_cons,List.length_nil,List.length_map,Yi];rfl
  ·have hq:decide ((h.2.1:Int) ≥ ((2 ^ 16:Nat):Int))=true:=by
    rw[show((2 ^ 16:Nat):Int)=65536 from rfl];simp;omega
   repeat'(first|(apply Zb (UP 16 (by decide));kernel_rfl;(iterate 4 exact U))|(apply Zh Za;exact U)|(apply Zg Za;exact U)|(apply Zo Za;exact U)|refine Ze U U U Qt ?_|refine Zj U Qt U U ?_|refine Zd U Qt ?_|refine Yn ?_|(apply Zq 8 ZE;decide +kernel;kernel_rfl;kernel_rfl;kernel_rfl;exact U;exact U)|(apply Zt;(iterate 4 exact U))|exact AE.nil _ _ _ _|(apply Zx;exact U)|(apply Zz;exact U;exact U;decide +kernel;exact U)|(apply ZA;exact U)|exact AO.nil _ _ _|(apply Zs;(decide +kernel))|exact AOs.nil|exact ZF rfl rfl)
   refine Lands.mk' (m:=1) (by decide) ⟨4,26,.inr (.inr (.inl ⟨rfl,rfl,rfl,hge2⟩)),rfl,rfl,rfl⟩ ?_ rfl rfl rfl rfl rfl rfl
   exact .cons rfl (.cons rfl (.cons rfl (.cons rfl .nil)))
 ·have hd:decide ((4:Int)<8)=true:=by decide
  rcases Nat.lt_or_ge h.2.1 4294967296 with hlt|hge2
  ·have hq:decide ((h.2.1:Int) ≥ ((2 ^ 32:Nat):Int))=false:=by
    rw[show((2 ^ 32:Nat):Int)=4294967296 from rfl];simp;omega
   have hf:=hfs.2.2.1 hge hlt
   have hU:=Ym (beN h.2.1 4)
   repeat'(first|(apply Zb (UP 32 (by decide));kernel_rfl;(iterate 4 exact U))|(apply Zb (Ka h.2.1 4 HN.out (by decide));kernel_rfl;(iterate 4 exact U))|refine Wk Za U U U U U U U U U U U (Zk rfl) (Zk rfl) (List.cons_ne_nil _ _) Qd Qd U U ?_|(apply Zh Za;exact U)|(apply Zg Za;exact U)|(apply Zo Za;exact U)|refine Ze U U U Qt ?_|refine Zj U Qt U U ?_|refine Zf U Qt ?_|refine ZO Za U U U U U U U U U U U U ?_|(apply Zq 8 ZE;decide +kernel;kernel_rfl;kernel_rfl;kernel_rfl;exact U;exact U)|(apply Zt;(iterate 4 exact U))|exact AE.nil _ _ _ _|(apply Zx;exact U)|(apply Zz;exact U;exact U;decide +kernel;exact U)|(apply ZA;exact U)|exact AO.nil _ _ _|(apply Zs;(decide +kernel))|exact AOs.nil|exact ZF rfl rfl)
   ·(apply Js [] [0];(apply Zc Za;exact U);(iterate 7 exact U))
    ·have e:=congrArg (fun x:Int=>D.sl (.own 0) (E.int .u8 x::(beN h.2.1 4).map E.byte)) (V3 h.1 26 hm (by decide))
     rw[hw,hf.1,hf.2]
     exact e
    ·rfl
    ·simp only[hw,hf.1,List.length_cons,List.length_nil,List.length_map,Yi];rfl
  ·have hq:decide ((h.2.1:Int) ≥ ((2 ^ 32:Nat):Int))=true:=by
    rw[show((2 ^ 32:Nat):Int)=4294967296 from rfl];simp;omega
   repeat'(first|(apply Zb (UP 32 (by decide));kernel_rfl;(iterate 4 exact U))|(apply Zh Za;exact U)|(apply Zg Za;exact U)|(apply Zo Za;exact U)|refine Ze U U U Qt ?_|refine Zj U Qt U U ?_|refine Zd U Qt ?_|refine Yn ?_|(apply Zq 8 ZE;decide +kernel;kernel_rfl;kernel_rfl;kernel_rfl;exact U;exact U)|(apply Zt;(iterate 4 exact U))|exact AE.nil _ _ _ _|(apply Zx;exact U)|(apply Zz;exact U;exact U;decide +kernel;exact U)|(apply ZA;exact U)|exact AO.nil _ _ _|(apply Zs;(decide +kernel))|exact AOs.nil|exact ZF rfl rfl)
   refine Lands.mk' (m:=0) (by decide) ⟨8,27,.inr (.inr (.inr ⟨rfl,rfl,rfl,hge2⟩)),rfl,rfl,rfl⟩ ?_ rfl rfl rfl rfl rfl rfl
   exact .cons rfl (.cons rfl (.cons rfl (.cons rfl .nil)))
 ·have hd:decide ((8:Int)<8)=false:=by decide
  have hf:=hfs.2.2.2 hge
  have hU:=Ym (beN h.2.1 8)
  repeat'(first|(apply Zb (Ka h.2.1 8 HN.out (by decide));kernel_rfl;(iterate 4 exact U))|refine Wk Za U U U U U U U U U U U (Zk rfl) (Zk rfl) (List.cons_ne_nil _ _) Qd Qd U U ?_|(apply Zh Za;exact U)|(apply Zg Za;exact U)|(apply Zo Za;exact U)|refine Zu U U U Qt ?_|refine Zi U Qt U U ?_|refine Zf U Qt ?_|refine ZO Za U U U U U U U U U U U U ?_|(apply Zq 8 ZE;decide +kernel;kernel_rfl;kernel_rfl;kernel_rfl;exact U;exact U)|(apply Zt;(iterate 4 exact U))|exact AE.nil _ _ _ _|(apply Zx;exact U)|(apply Zz;exact U;exact U;decide +kernel;exact U)|(apply ZA;exact U)|exact AO.nil _ _ _|(apply Zs;(decide +kernel))|exact AOs.nil|exact ZF rfl rfl)
  ·(apply Js [] [0];(apply Zc Za;exact U);(iterate 7 exact U))
   ·have e:=congrArg (fun x:Int=>D.sl (.own 0) (E.int .u8 x::(beN h.2.1 8).map E.byte)) (V3 h.1 27 hm (by decide))
    rw[hw,hf.1,hf.2]
    exact e
   ·rfl
   ·simp only[hw,hf.1,List.length_cons,List.length_nil,List.length_map,Yi];rfl
end Go.Proofs.YtmljabhmajehnaaGreatDoor
end
section
open Go.RowKit Go.Pl Go.Av
namespace Go.Proofs.YtmljabhmajehnaaGreatDoor
set_option maxHeartbeats 4000000
mutual
def W2:It->Nat->Nat
 | .mk k n b l,m=>WY l m 1
def WY:List It->Nat->Nat->Nat
 | [],_,n=>n
 | x::l,m,n=>if n<=m then WY l m (n+W2 x m) else n
end
theorem O6:∀(l:List It) (m n:Nat),n<=WY l m n
 | [],m,n=>by rw[WY];omega
 | x::l,m,n=>by
  rw[WY]
  split
  ·have:=O6 l m (n+W2 x m);omega
  ·omega
mutual
theorem KR:∀(x:It) (m:Nat),W2 x m<=Yf x
 | .mk k n b l,m=>by
  rw[W2,Yf]
  have:=O7 l m 1
  omega
theorem O7:∀(l:List It) (m n:Nat),WY l m n<=n+Z2 l
 | [],m,n=>by rw[WY];omega
 | x::l,m,n=>by
  rw[WY,Z2]
  split
  ·have h1:=KR x m
   have h2:=O7 l m (n+W2 x m)
   omega
  ·omega
end
mutual
theorem G9:∀(x:It) (m:Nat),W2 x m<=m->Yf x=W2 x m
 | .mk k n b l,m,h=>by
  rw[W2]at h ⊢
  rw[Yf]
  exact O8 l m 1 h
theorem O8:∀(l:List It) (m n:Nat),WY l m n<=m->n+Z2 l=WY l m n
 | [],m,n,h=>by rw[WY,Z2];omega
 | x::l,m,n,h=>by
  rw[WY]at h ⊢
  rw[Z2]
  split at h
  ·rename_i hn
   rw[if_pos hn]
   have h1:=O6 l m (n+W2 x m)
   have h2:=G9 x m (by omega)
   have h3:=O8 l m (n+W2 x m) h
   omega
  ·omega
end
mutual
def Qr:It->Nat->Nat
 | .mk k n b l,m=>Vu l m 1
def Vu:List It->Nat->Nat->Nat
 | [],_,n=>n
 | x::l,0,n=>n
 | x::l,m+1,n=>Vu l (m+1) (if n<1+Qr x m then 1+Qr x m else n)
end
theorem Ha:∀(l:List It) (m n:Nat),n<=Vu l m n
 | [],m,n=>by rw[Vu];omega
 | x::l,0,n=>by rw[Vu];omega
 | x::l,m+1,n=>by
  rw[Vu]
  have:=Ha l (m+1) (if n<1+Qr x m then 1+Qr x m else n)
  split at this<;>(try split)<;>omega
mutual
theorem Nn:∀(x:It) (m:Nat),Qr x m<=m+1
 | .mk k n b l,m=>by
  rw[Qr]
  exact Hb l m 1 (by omega)
theorem Hb:∀(l:List It) (m n:Nat),n<=m+1->Vu l m n<=m+1
 | [],m,n,h=>by rw[Vu];omega
 | x::l,0,n,h=>by rw[Vu];omega
 | x::l,m+1,n,h=>by
  rw[Vu]
  have:=Nn x m
  exact Hb l (m+1) _ (by split<;>omega)
end
mutual
theorem Hc:∀(x:It) (m d:Nat),d<=m->(Qr x m<=d ↔ Yz x d=true)
 | .mk k n b l,m,0,h=>by
  have:=Ha l m 1
  rw[Qr,Yz]
  simp;omega
 | .mk k n b l,m,d+1,h=>by
  rw[Qr,Yz,O9 l m 1 d (by omega)]
  simp
theorem O9:∀(l:List It) (m n d:Nat),d+1<=m->(Vu l m n<=d+1 ↔ n<=d+1/\YE l d=true)
 | [],m,n,d,h=>by rw[Vu,YE];simp
 | x::l,0,n,d,h=>by omega
 | x::l,m+1,n,d,h=>by
  rw[Vu,YE,Bool.and_eq_true,O9 l (m+1) _ d (by omega),<- Hc x m d (by omega)]
  split
  ·exact⟨fun⟨h1,h2⟩=>⟨by omega,by omega,h2⟩,fun⟨h1,h2,h3⟩=>⟨by omega,h3⟩⟩
  ·exact⟨fun⟨h1,h2⟩=>⟨by omega,by omega,h2⟩,fun⟨h1,h2,h3⟩=>⟨by omega,h3⟩⟩
end
theorem Me (x:It):(decide (Qr x 7<=6)&&(decide (W2 x 257<=256)&&Yw x))=ZB x:=by
 rw[Wc]
 have h1:=Hc x 7 6 (by omega)
 have h2:=KR x 257
 have h3:W2 x 257<=256->Yf x=W2 x 257:=fun h=>G9 x 257 (by omega)
 have e1:decide (Qr x 7<=6)=Yz x 6:=by
  cases hd:Yz x 6 with
  | true=>exact decide_eq_true (h1.2 hd)
  | false=>exact decide_eq_false fun h=>by rw[h1.1 h]at hd;cases hd
 have e2:decide (W2 x 257<=256)=decide (Yf x<=256):=by
  rw[decide_eq_decide]
  exact⟨fun h=>by have:=h3 h;omega,fun h=>by omega⟩
 rw[e1,e2]
theorem Xu:∀ {l:List It},∀ y ∈ l,Yf y<=Z2 l
 | x::l,y,hy=>by
  rw[Z2]
  rcases List.mem_cons.1 hy with rfl|hy
  ·omega
  ·have:=Xu y hy;omega
theorem Sw [Known](m:Nat)(hm:m<=1000):∀(x:It),Yf x<=1000->AP Tryz.prog 181 [itD x,.int .i64 (m:Int)] (.int .i64 (W2 x m:Int)) []:=by
 refine It.ind fun k n b l ih hs=>?_
 rw[Yf]at hs
 have hlen:=Zw l
 have hll:l.length<=Z2 l:=by
  clear ih hs hlen
  induction l with
  | nil=>rw[Z2];exact Nat.le_refl _
  | cons x l ih=>
   obtain⟨k',n',b',l'⟩:=x
   rw[Z2,Yf,List.length_cons];omega
 show AP Tryz.prog _ [.agg (itC k n b l),_] _ _
 rw[W2]
 generalize hfin:WY l m 1=fin
 refine AP.ofA (Zl Tryz.func181 U Tryz.ntmps181 U U ?_)
 repeat'(first|(apply Zg Za;exact U))
 refine ZI (fun f tm bx fr=>∃(i c:Nat),f+i=l.length/\c+Z2 (l.drop i)<=1001/\WY (l.drop i) m c=fin/\tm=[(1,.int .i64 (m:Int)),(2,.ptr 0 0),(5,.int .i64 (c:Int)),(6,.int .i64 (i:Int))]/\bx=[itC k n b l]/\fr=[]) (l.length+1) (Lands.mk' (m:=l.length) (Nat.lt_succ_self _) ⟨0,1,rfl,by rw[List.drop_zero];omega,hfin,rfl,rfl,rfl⟩ ?_ rfl rfl rfl rfl rfl rfl) ?_
 ·exact .cons rfl (.cons rfl (.cons rfl (.cons rfl .nil)))
 rintro f tm bx fr ⟨i,c,hf,hc,hfin,rfl,rfl,rfl⟩
 have hU:=YH l
 rcases Nat.lt_or_ge i l.length with hlt|hge
 ·have hdl:decide ((i:Int)<((Zv l).length:Int))=true:=decide_eq_true (by omega)
  obtain⟨⟨k1,n1,b1,l1⟩,hy⟩:∃ y,l[i]?=some y:=⟨_,List.getElem?_eq_getElem hlt⟩
  have hv:(Zv l)[((i:Nat):Int).toNat]?=some (.agg [.int .i64 k1,.int .u64 (n1:Int),.sl (b1.map E.byte),.sl (Zv l1)]):=by
   rw[Int.toNat_natCast,Z8,List.getElem?_map,hy];rfl
  have hdr:l.drop i=It.mk k1 n1 b1 l1::l.drop (i+1):=by
   rw[List.drop_eq_getElem_cons hlt];congr 1
   exact(List.getElem?_eq_some_iff.1 hy).2
  rw[hdr,Z2]at hc
  rw[hdr,WY]at hfin
  by_cases hcm:c<=m
  ·have hdm:decide ((c:Int)<=(m:Int))=true:=decide_eq_true (by omega)
   rw[if_pos hcm]at hfin
   have hmem:=List.mem_of_getElem? hy
   have hz:=Xu _ hmem
   have hzl:=KR (.mk k1 n1 b1 l1) m
   have hcy:=ih _ hmem (by omega)
   have ei:IntKind.i64.wrap ((i:Int)+1)=((i+1:Nat):Int):=by rw[IntWalk.i64_in _ (by omega)];omega
   generalize hgr:W2 (.mk k1 n1 b1 l1) m=r at hcy hfin hzl
   have ec:IntKind.i64.wrap ((c:Int)+(r:Int))=((c+r:Nat):Int):=by rw[IntWalk.i64_in _ (by omega)];omega
   repeat'(first|rw[ec]|rw[ei]|(apply Zb (hcy);kernel_rfl;(iterate 4 exact U))|(apply Zh Za;exact U)|(apply Zg Za;exact U)|(apply Zo Za;exact U)|refine Ze U U U Qt ?_|refine Zj U Qt U U ?_|refine Zd U Qt ?_|refine Zm Za U U U U ?_|(apply Zr Za;(iterate 6 exact U);(first|exact Qt|rotate_left);(first|with_reducible assumption|decide +kernel|exact U);(first|exact Zk rfl|with_reducible assumption|decide +kernel|rotate_left)))
   refine Lands.mk' (m:=f-1) (by omega) ⟨i+1,c+r,by omega,by omega,hfin,rfl,rfl,rfl⟩ ?_ rfl rfl rfl rfl rfl rfl
   exact .cons rfl (.cons rfl (.cons rfl (.cons rfl .nil)))
  ·have hdm:decide ((c:Int)<=(m:Int))=false:=decide_eq_false (by omega)
   rw[if_neg hcm]at hfin
   subst hfin
   repeat'(first|(apply Zh Za;exact U)|(apply Zg Za;exact U)|(apply Zo Za;exact U)|refine Ze U U U Qt ?_|refine Zj U Qt U U ?_|refine Zf U Qt ?_|refine Zm Za U U U U ?_)
   all_goals exact Qe
 ·have hdl:decide ((i:Int)<((Zv l).length:Int))=false:=decide_eq_false (by omega)
  rw[List.drop_eq_nil_of_le hge,WY]at hfin
  subst hfin
  repeat'(first|(apply Zh Za;exact U)|(apply Zg Za;exact U)|(apply Zo Za;exact U)|refine Zu U U U Qt ?_|refine Zi U Qt U U ?_|refine Zf U Qt ?_|refine Zm Za U U U U ?_)
  all_goals exact Qe
theorem Sx [Known]:∀(x:It),wfI x->∀ m:Nat,m<=1000->AP Tryz.prog 180 [itD x,.int .i64 (m:Int)] (.int .i64 (Qr x m:Int)) []:=by
 refine It.ind fun k n b l ih hw m hm=>?_
 obtain⟨_,_,hl,hws⟩:=hw
 have hlen:=Zw l
 show AP Tryz.prog _ [.agg (itC k n b l),_] _ _
 rw[Qr]
 generalize hfin:Vu l m 1=fin
 refine AP.ofA (Zl Tryz.func180 U Tryz.ntmps180 U U ?_)
 repeat'(first|(apply Zg Za;exact U))
 refine ZI (fun f tm bx fr=>∃(i c:Nat),f+i=l.length/\c<=m+1/\Vu (l.drop i) m c=fin/\tm=[(1,.int .i64 (m:Int)),(2,.ptr 0 0),(5,.int .i64 (c:Int)),(6,.int .i64 (i:Int))]/\bx=[itC k n b l]/\fr=[]) (l.length+1) (Lands.mk' (m:=l.length) (Nat.lt_succ_self _) ⟨0,1,rfl,by omega,hfin,rfl,rfl,rfl⟩ ?_ rfl rfl rfl rfl rfl rfl) ?_
 ·exact .cons rfl (.cons rfl (.cons rfl (.cons rfl .nil)))
 rintro f tm bx fr ⟨i,c,hf,hc,hfin,rfl,rfl,rfl⟩
 have hU:=YH l
 rcases Nat.lt_or_ge i l.length with hlt|hge
 ·have hdl:decide ((i:Int)<((Zv l).length:Int))=true:=decide_eq_true (by omega)
  obtain⟨⟨k1,n1,b1,l1⟩,hy⟩:∃ y,l[i]?=some y:=⟨_,List.getElem?_eq_getElem hlt⟩
  have hv:(Zv l)[((i:Nat):Int).toNat]?=some (.agg [.int .i64 k1,.int .u64 (n1:Int),.sl (b1.map E.byte),.sl (Zv l1)]):=by
   rw[Int.toNat_natCast,Z8,List.getElem?_map,hy];rfl
  have hdr:l.drop i=It.mk k1 n1 b1 l1::l.drop (i+1):=by
   rw[List.drop_eq_getElem_cons hlt];congr 1
   exact(List.getElem?_eq_some_iff.1 hy).2
  rw[hdr]at hfin
  cases m with
  | zero=>
   rw[Vu]at hfin
   have hdm:decide (((0:Nat):Int)>0)=false:=by decide
   subst hfin
   repeat'(first|(apply Zh Za;exact U)|(apply Zg Za;exact U)|(apply Zo Za;exact U)|refine Ze U U U Qt ?_|refine Zj U Qt U U ?_|refine Zf U Qt ?_|refine Zm Za U U U U ?_)
   all_goals exact Qe
  | succ m=>
   rw[Vu]at hfin
   have hdm:decide (((m+1:Nat):Int)>0)=true:=decide_eq_true (by omega)
   have hmem:=List.mem_of_getElem? hy
   have hcy:=ih _ hmem (Yt hws _ hmem) m (by omega)
   have hzl:=Nn (.mk k1 n1 b1 l1) m
   have ei:IntKind.i64.wrap ((i:Int)+1)=((i+1:Nat):Int):=by rw[IntWalk.i64_in _ (by omega)];omega
   have em:IntKind.i64.wrap (((m+1:Nat):Int)-1)=(m:Int):=by rw[IntWalk.i64_in _ (by omega)];omega
   generalize hgr:Qr (.mk k1 n1 b1 l1) m=r at hcy hfin hzl
   have ec:IntKind.i64.wrap (1+(r:Int))=((1+r:Nat):Int):=by rw[IntWalk.i64_in _ (by omega)];omega
   by_cases hcr:c<1+r
   ·rw[if_pos hcr]at hfin
    have t3:decide (((1+r:Nat):Int)>(c:Int))=true:=decide_eq_true (by omega)
    repeat'(first|rw[ec]|rw[ei]|rw[em]|(apply Zb (hcy);kernel_rfl;(iterate 4 exact U))|(apply Zh Za;exact U)|(apply Zg Za;exact U)|(apply Zo Za;exact U)|refine Ze U U U Qt ?_|refine Zj U Qt U U ?_|refine Zd U Qt ?_|refine Zm Za U U U U ?_|(apply Zr Za;(iterate 6 exact U);(first|exact Qt|rotate_left);(first|with_reducible assumption|decide +kernel|exact U);(first|exact Zk rfl|with_reducible assumption|decide +kernel|rotate_left)))
    refine Lands.mk' (m:=f-1) (by omega) ⟨i+1,1+r,by omega,by omega,hfin,rfl,rfl,rfl⟩ ?_ rfl rfl rfl rfl rfl rfl
    exact .cons rfl (.cons rfl (.cons rfl (.cons rfl .nil)))
   ·rw[if_neg hcr]at hfin
    have t3:decide (((1+r:Nat):Int)>(c:Int))=false:=decide_eq_false (by omega)
    repeat'(first|rw[ec]|rw[ei]|rw[em]|(apply Zb (hcy);kernel_rfl;(iterate 4 exact U))|(apply Zh Za;exact U)|(apply Zg Za;exact U)|(apply Zo Za;exact U)|refine Ze U U U Qt ?_|refine Zj U Qt U U ?_|refine Zd U Qt ?_|refine Zf U Qt ?_|refine Zm Za U U U U ?_|(apply Zr Za;(iterate 6 exact U);(first|exact Qt|rotate_left);(first|with_reducible assumption|decide +kernel|exact U);(first|exact Zk rfl|with_reducible assumption|decide +kernel|rotate_left)))
    refine Lands.mk' (m:=f-1) (by omega) ⟨i+1,c,by omega,by omega,hfin,rfl,rfl,rfl⟩ ?_ rfl rfl rfl rfl rfl rfl
    exact .cons rfl (.cons rfl (.cons rfl (.cons rfl .nil)))
 ·have hdl:decide ((i:Int)<((Zv l).length:Int))=false:=decide_eq_false (by omega)
  rw[List.drop_eq_nil_of_le hge]at hfin
  have hfin:c=fin:=by rw[<- hfin,Vu]
  subst hfin
  repeat'(first|(apply Zh Za;exact U)|(apply Zg Za;exact U)|(apply Zo Za;exact U)|refine Zu U U U Qt ?_|refine Zi U Qt U U ?_|refine Zf U Qt ?_|refine Zm Za U U U U ?_)
  all_goals exact Qe
end Go.Proofs.YtmljabhmajehnaaGreatDoor
end
