/- The document's powers of two, tails and heads' bytes; the bytes lie in a row of their own. -/
import Derived.Test.YtmljabhmajehnaaGreatDoorR26
import Derived.Test.YtmljabhmajehnaaGreatDoorR10
import Derived.Test.YtmljabhmajehnaaGreatDoorR32
import Derived.Test.YtmljabhmajehnaaGreatDoorR25
set_option linter.unusedVariables false
set_option linter.unusedSimpArgs false
section
open Go.RowKit Go.Pl Go.Av
namespace Go.Proofs.YtmljabhmajehnaaGreatDoor
set_option maxHeartbeats 1000000
theorem US [Known](n:Nat)(hn:n<=32):AP Tryz.prog 153 [.int .i64 (n:Int)] (.int .u64 ((2 ^ n:Nat):Int)) []:=by
 refine Zl Tryz.func153 rfl Tryz.ntmps153 rfl rfl ?_
 repeat'(first|(apply Zg Za;exact U))
 refine ZJ (fun k tm bx fr=>∃ i,k+i=n/\tm=[(0,.int .i64 (n:Int)),(3,.int .u64 ((2 ^ i:Nat):Int)),(4,.int .i64 (i:Int))]/\bx=[]/\fr=[]) (n+1) (Lands.mk' (m:=n) (Nat.lt_succ_self _) ⟨0,rfl,rfl,rfl,rfl⟩ ?_ rfl rfl rfl rfl rfl rfl) ?_
 ·exact .cons rfl (.cons rfl (.cons rfl .nil))
 rintro k tm bx fr ⟨i,hk,rfl,rfl,rfl⟩
 rcases Nat.lt_or_ge i n with hlt|hge
 ·have hd:decide ((i:Int)<(n:Int))=true:=by simp;omega
  have hp:2 ^ (i+1)<=2 ^ 32:=Nat.pow_le_pow_right (by decide) (by omega)
  have hp':2 ^ (i+1)=2*2 ^ i:=by rw[Nat.pow_succ];omega
  have e1:IntKind.u64.wrap (2*((2 ^ i:Nat):Int))=((2 ^ (i+1):Nat):Int):=by rw[IntKind.wrap_u64];omega
  have e2:IntKind.i64.wrap ((i:Int)+1)=((i+1:Nat):Int):=by rw[IntWalk.i64_in _ (by omega)];omega
  repeat'(first|rw[e1]|rw[e2]|(apply Zg Za;exact U)|(apply Zd;exact U;(first|with_reducible assumption|(solve|simp only[bn])))|refine Yt ?_)
  refine Lands.mk' (m:=k-1) (by omega) ⟨i+1,by omega,rfl,rfl,rfl⟩ ?_ rfl rfl rfl rfl rfl rfl
  exact .cons rfl (.cons rfl (.cons rfl .nil))
 ·have hd:decide ((i:Int)<(n:Int))=false:=by simp;omega
  repeat'(first|(apply Zg Za;exact U)|(apply Zf;exact U;(first|with_reducible assumption|(solve|simp only[bn]))))
  (apply Uc (ts:=[]);(apply Zc Za;exact U);exact ZD _;exact U;rotate_left;exact U)
  obtain rfl:i=n:=by omega
  rfl
theorem O9 (n k:Nat):beN n (k+1)=UInt8.ofNat (n/256 ^ k)::beN n k:=by
 unfold beN
 rw[List.range_succ_eq_map,List.map_cons,List.map_map]
 congr 1
 apply List.map_congr_left
 intro i hi
 have hi:i<k:=by simpa using hi
 simp only[Function.comp]
 rw[show k+1-1-i.succ=k-1-i from by omega]
theorem Kp [Known](n f:Nat)(hn:n<18446744073709551616)(hf:f<=8):AP Tryz.prog 154 [.int .u64 (n:Int),.int .i64 (f:Int)] (byE (beN n f)) []:=by
 refine AP.weak (Zl Tryz.func154 U Tryz.ntmps154 U U ?_)
 repeat'(first|(apply Zg Za;exact U))
 refine ZJ (fun k tm bx fr=>∃ i,k+i=f/\tm=[(0,.int .u64 ((n/256 ^ i:Nat):Int)),(1,.int .i64 (f:Int)),(5,byE (beN n i)),(6,.int .i64 (i:Int))]/\bx=[]/\fr=[]) (f+1) (Lands.mk' (m:=f) (Nat.lt_succ_self _) ⟨0,rfl,rfl,rfl,rfl⟩ ?_ rfl rfl rfl rfl rfl rfl) ?_
 ·refine .cons ?_ (.cons rfl (.wk rfl (.cons rfl .nil)))
  rw[Nat.pow_zero,Nat.div_one];rfl
 rintro k tm bx fr ⟨i,hk,rfl,rfl,rfl⟩
 have hle:n/256 ^ i<=n:=Nat.div_le_self _ _
 have hdd:n/256 ^ (i+1)=n/256 ^ i/256:=by rw[Nat.pow_succ,Nat.div_div_eq_div_mul]
 rcases Nat.lt_or_ge i f with hlt|hge
 ·have hd:decide ((i:Int)<(f:Int))=true:=by simp;omega
  have e1:E.int .u8 (IntKind.u8.wrap (((n/256 ^ i:Nat):Int).tmod 256))=E.byte (UInt8.ofNat (n/256 ^ i)):=by
   unfold E.byte
   rw[IntKind.wrap_u8',UInt8.toNat_ofNat',Int.tmod_eq_emod_of_nonneg (Int.natCast_nonneg _)]
   congr 1
   omega
  have e2:IntKind.i64.wrap ((i:Int)+1)=((i+1:Nat):Int):=by rw[IntWalk.i64_in _ (by omega)];omega
  have e3:IntKind.u64.wrap (((n/256 ^ i:Nat):Int).tdiv 256)=((n/256 ^ (i+1):Nat):Int):=by
   rw[hdd]
   generalize n/256 ^ i=q at hle
   rw[Int.tdiv_eq_ediv_of_nonneg (Int.natCast_nonneg _),IntKind.wrap_u64];omega
  have hU:=Yr (beN n i)
  have hne:i ≠ 0->(beN n i).map E.byte ≠ []:=fun h0 e=>by
   have:=congrArg List.length e
   rw[List.length_map,Yh]at this
   exact h0 this
  have hlb:=Yh n i
  rcases Nat.eq_zero_or_pos i with rfl|h0
  ·repeat'(first|rw[e2]|rw[e3]|(apply Zi Za;exact U)|(apply Zg Za;exact U)|(apply Zd;exact U;(first|with_reducible assumption|(solve|simp only[bn])))|refine Qr Za U U U U U U U U U U U U ?_|refine ZX Za U U U U U U ?_|(apply Vt;exact U;exact U;(first|exact Qb|rotate_left);exact U)|(apply Vu;exact U;exact U;(first|exact Qb|rotate_left);exact U))
   refine Lands.mk' (m:=k-1) (by omega) ⟨1,by omega,rfl,rfl,rfl⟩ ?_ rfl rfl rfl rfl rfl rfl
   refine .cons rfl (.cons rfl (.wk ?_ (.cons rfl .nil)))
   rw[O9]
   exact congrArg (fun x=>D.sl .ext [x]) e1
  ·have hne:=hne (by omega)
   repeat'(first|rw[e2]|rw[e3]|(apply Zi Za;exact U)|(apply Zg Za;exact U)|(apply Zd;exact U;(first|with_reducible assumption|(solve|simp only[bn])))|refine Qr Za U U U U U U U U U U U U ?_|(apply ZR Za;(iterate 6 exact U);(first|with_reducible assumption|exact U|rotate_left);exact U;exact U;(first|exact Zk rfl|with_reducible assumption|rotate_left);(first|exact Zk rfl|with_reducible assumption|rotate_left);(first|exact Qb|rotate_left);(first|exact Qb|rotate_left);(first|exact Qb|rotate_left);exact U;exact U)|(apply Vt;exact U;exact U;(first|exact Qb|rotate_left);exact U)|(apply Vu;exact U;exact U;(first|exact Qb|rotate_left);exact U))
   ·refine Lands.mk' (m:=k-1) (by omega) ⟨i+1,by omega,rfl,rfl,rfl⟩ ?_ rfl rfl rfl rfl rfl rfl
    refine .cons rfl (.cons rfl (.wk ?_ (.cons rfl .nil)))
    rw[O9]
    exact congrArg (fun x=>D.sl .ext (x::(beN n i).map E.byte)) e1
   ·show 1+((beN n i).map E.byte).length<=maxLen
    rw[List.length_map,hlb];unfold maxLen;omega
   ·show(1+((beN n i).map E.byte).length)*1<=140737488355328
    rw[List.length_map,hlb];omega
 ·have hd:decide ((i:Int)<(f:Int))=false:=by simp;omega
  repeat'(first|(apply Zg Za;exact U)|(apply Zf;exact U;(first|with_reducible assumption|(solve|simp only[bn]))))
  (apply RJ;(apply Zc Za;exact U);exact U)
  obtain rfl:i=f:=by omega
  rfl
theorem V9 (m:Int)(i:Nat)(hm:0<=m/\m<=7)(hi:i<32):IntKind.u8.wrap (IntKind.u8.wrap (IntKind.i64.wrap (32*m))+(i:Int))=((Wz m.toNat i).toNat:Int):=by
 unfold Wz
 rw[IntWalk.i64_in _ (by omega),IntKind.wrap_u8',IntKind.wrap_u8',UInt8.toNat_ofNat']
 omega
theorem Ma (n:Nat)(h:¬ n<24):(n<256->ZG n=1/\Yy n=24)/\(256<=n->n<65536->ZG n=2/\Yy n=25)/\(65536<=n->n<4294967296->ZG n=4/\Yy n=26)/\(4294967296<=n->ZG n=8/\Yy n=27):=by
 unfold ZG Yy
 refine⟨fun h1=>?_,fun h1 h2=>?_,fun h1 h2=>?_,fun h1=>?_⟩
 ·simp[h,h1]
 ·simp[h,h2,show ¬ n<256 by omega]
 ·simp[h,h2,show ¬ n<256 by omega,show ¬ n<65536 by omega]
 ·simp[h,show ¬ n<256 by omega,show ¬ n<65536 by omega,show ¬ n<4294967296 by omega]
theorem IR [Known](h:Hd)(hr:Z0 h=true)(hn:h.2.1<18446744073709551616):AT Tryz.prog 121 [hd h] [] [] (.sl (.own 0) ((ZP h).map E.byte)) [] [⟨(ZP h).length,1,5⟩]:=by
 have hm:=T9 hr
 have HN:=hid hn
 clear hn
 refine Zl Tryz.func121 rfl Tryz.ntmps121 rfl rfl ?_
 repeat'(first|(apply Zi Za;exact U)|(apply Zg Za;exact U)|(apply YR;exact U;all_goals intro hb)|refine ZM Za U U U U U U U U U U U U ?_)
 ·(apply Jz [] [0];(apply Zc Za;exact U);(iterate 7 exact U))
  ·have hb':h.2.2=true:=hb
   rw[show ZP h=[Wz h.1.toNat 31] by simp[ZP,hb']]
   exact congrArg (fun x:Int=>D.sl (.own 0) [E.int .u8 x]) (V9 h.1 31 hm (by decide))
  ·rfl
  ·(have hb':h.2.2=true:=hb);rw[show ZP h=[Wz h.1.toNat 31] by simp[ZP,hb']];rfl
 ·(apply Jz [] [0];(apply Zc Za;exact U);(iterate 7 exact U))
  ·have hb':h.2.2=false := ‹_›
   have h24:=of_decide_eq_true hb
   have h24':h.2.1<24:=by omega
   rw[show ZP h=[Wz h.1.toNat h.2.1] by simp[ZP,hb',Yy,ZG,h24',beN]]
   have e1:IntKind.u8.wrap ((h.2.1:Nat):Int)=((h.2.1:Nat):Int):=by rw[IntKind.wrap_u8'];omega
   have e:=congrArg (fun x:Int=>D.sl (.own 0) [E.int .u8 x]) (V9 h.1 h.2.1 hm (by omega))
   rw[<- e1]at e
   exact e
  ·rfl
  ·(have hb':h.2.2=false := ‹_›);(have h24:=of_decide_eq_true hb);(have h24':h.2.1<24:=by omega);rw[show ZP h=[Wz h.1.toNat h.2.1] by simp[ZP,hb',Yy,ZG,h24',beN]];rfl
 have hb':h.2.2=false := ‹_›
 have h24:¬ h.2.1<24:=by have:=of_decide_eq_false hb;omega
 have hw:ZP h=Wz h.1.toNat (Yy h.2.1)::beN h.2.1 (ZG h.2.1):=by simp[ZP,hb']
 have hfs:=Ma h.2.1 h24
 refine ZJ (fun k tm bx fr=>∃ sz inf:Int,((k=3/\sz=1/\inf=24)\/(k=2/\sz=2/\inf=25/\256<=h.2.1)\/(k=1/\sz=4/\inf=26/\65536<=h.2.1)\/(k=0/\sz=8/\inf=27/\4294967296<=h.2.1))/\tm=[(1,.ptr 0 0),(3,.int .u8 (IntKind.u8.wrap (IntKind.i64.wrap (32*h.1)))),(4,.int .i64 sz),(5,.int .u8 inf)]/\bx=[[.int .i64 h.1,.int .u64 (h.2.1:Int),.bool h.2.2]]/\fr=[]) 4 (Lands.mk' (m:=3) (by decide) ⟨1,24,.inl ⟨rfl,rfl,rfl⟩,rfl,rfl,rfl⟩ ?_ rfl rfl rfl rfl rfl rfl) ?_
 ·exact .cons rfl (.cons rfl (.cons rfl (.cons rfl .nil)))
 rintro k tm bx fr ⟨sz,inf,hc,rfl,rfl,rfl⟩
 rcases hc with⟨rfl,rfl,rfl⟩ | ⟨rfl,rfl,rfl,hge⟩ | ⟨rfl,rfl,rfl,hge⟩ | ⟨rfl,rfl,rfl,hge⟩
 ·have hd:decide ((1:Int)<8)=true:=by decide
  rcases Nat.lt_or_ge h.2.1 256 with hlt|hge2
  ·have hq:decide ((h.2.1:Int) ≥ ((2 ^ 8:Nat):Int))=false:=by
    rw[show((2 ^ 8:Nat):Int)=256 from rfl];simp;omega
   have hf:=hfs.1 hlt
   have hU:=Yr (beN h.2.1 1)
   repeat'(first|(apply Zb (US 8 (by decide));kernel_rfl;(iterate 4 exact U))|(apply Zb (Kp h.2.1 1 HN.out (by decide));kernel_rfl;(iterate 4 exact U))|refine Wu Za U U U U U U U U U U U (Zk rfl) (Zk rfl) (List.cons_ne_nil _ _) Qd Qd U U ?_|(apply Zi Za;exact U)|(apply Zg Za;exact U)|(apply Zp Za;exact U)|refine Ze U U U Qt ?_|refine Zj U Qt U U ?_|refine Zf U Qt ?_|refine ZM Za U U U U U U U U U U U U ?_|(apply Zo 8 ZB;decide +kernel;kernel_rfl;kernel_rfl;kernel_rfl;exact U;exact U)|(apply Zs;(iterate 4 exact U))|exact AE.nil _ _ _ _|(apply Zx;exact U)|(apply Zz;exact U;exact U;decide +kernel;exact U)|(apply ZA;exact U)|exact AO.nil _ _ _|(apply Zr;(decide +kernel))|exact AOs.nil|exact ZF rfl rfl)
   ·(apply Jz [] [0];(apply Zc Za;exact U);(iterate 7 exact U))
    ·have e:=congrArg (fun x:Int=>D.sl (.own 0) (E.int .u8 x::(beN h.2.1 1).map E.byte)) (V9 h.1 24 hm (by decide))
     rw[hw,hf.1,hf.2]
     exact e
    ·rfl
    ·simp only[hw,hf.1,List.length_cons,List.length_nil,List.length_map,Yh];rfl
  ·have hq:decide ((h.2.1:Int) ≥ ((2 ^ 8:Nat):Int))=true:=by
    rw[show((2 ^ 8:Nat):Int)=256 from rfl];simp;omega
   repeat'(first|(apply Zb (US 8 (by decide));kernel_rfl;(iterate 4 exact U))|(apply Zi Za;exact U)|(apply Zg Za;exact U)|(apply Zp Za;exact U)|refine Ze U U U Qt ?_|refine Zj U Qt U U ?_|refine Zd U Qt ?_|refine Yt ?_|(apply Zo 8 ZB;decide +kernel;kernel_rfl;kernel_rfl;kernel_rfl;exact U;exact U)|(apply Zs;(iterate 4 exact U))|exact AE.nil _ _ _ _|(apply Zx;exact U)|(apply Zz;exact U;exact U;decide +kernel;exact U)|(apply ZA;exact U)|exact AO.nil _ _ _|(apply Zr;(decide +kernel))|exact AOs.nil|exact ZF rfl rfl)
   refine Lands.mk' (m:=2) (by decide) ⟨2,25,.inr (.inl ⟨rfl,rfl,rfl,hge2⟩),rfl,rfl,rfl⟩ ?_ rfl rfl rfl rfl rfl rfl
   exact .cons rfl (.cons rfl (.cons rfl (.cons rfl .nil)))
 ·have hd:decide ((2:Int)<8)=true:=by decide
  rcases Nat.lt_or_ge h.2.1 65536 with hlt|hge2
  ·have hq:decide ((h.2.1:Int) ≥ ((2 ^ 16:Nat):Int))=false:=by
    rw[show((2 ^ 16:Nat):Int)=65536 from rfl];simp;omega
   have hf:=hfs.2.1 hge hlt
   have hU:=Yr (beN h.2.1 2)
   repeat'(first|(apply Zb (US 16 (by decide));kernel_rfl;(iterate 4 exact U))|(apply Zb (Kp h.2.1 2 HN.out (by decide));kernel_rfl;(iterate 4 exact U))|refine Wu Za U U U U U U U U U U U (Zk rfl) (Zk rfl) (List.cons_ne_nil _ _) Qd Qd U U ?_|(apply Zi Za;exact U)|(apply Zg Za;exact U)|(apply Zp Za;exact U)|refine Ze U U U Qt ?_|refine Zj U Qt U U ?_|refine Zf U Qt ?_|refine ZM Za U U U U U U U U U U U U ?_|(apply Zo 8 ZB;decide +kernel;kernel_rfl;kernel_rfl;kernel_rfl;exact U;exact U)|(apply Zs;(iterate 4 exact U))|exact AE.nil _ _ _ _|(apply Zx;exact U)|(apply Zz;exact U;exact U;decide +kernel;exact U)|(apply ZA;exact U)|exact AO.nil _ _ _|(apply Zr;(decide +kernel))|exact AOs.nil|exact ZF rfl rfl)
   ·(apply Jz [] [0];(apply Zc Za;exact U);(iterate 7 exact U))
    ·have e:=congrArg (fun x:Int=>D.sl (.own 0) (E.int .u8 x::(beN h.2.1 2).map E.byte)) (V9 h.1 25 hm (by decide))
     rw[hw,hf.1,hf.2]
     exact e
    ·rfl
    ·simp only[hw,hf.1,List.length_cons,List.length_nil,List.length_map,Yh];rfl
  ·have hq:decide ((h.2.1:Int) ≥ ((2 ^ 16:Nat):Int))=true:=by
    rw[show((2 ^ 16:Nat):Int)=65536 from rfl];simp;omega
   repeat'(first|(apply Zb (US 16 (by decide));kernel_rfl;(iterate 4 exact U))|(apply Zi Za;exact U)|(apply Zg Za;exact U)|(apply Zp Za;exact U)|refine Ze U U U Qt ?_|refine Zj U Qt U U ?_|refine Zd U Qt ?_|refine Yt ?_|(apply Zo 8 ZB;decide +kernel;kernel_rfl;kernel_rfl;kernel_rfl;exact U;exact U)|(apply Zs;(iterate 4 exact U))|exact AE.nil _ _ _ _|(apply Zx;exact U)|(apply Zz;exact U;exact U;decide +kernel;exact U)|(apply ZA;exact U)|exact AO.nil _ _ _|(apply Zr;(decide +kernel))|exact AOs.nil|exact ZF rfl rfl)
   refine Lands.mk' (m:=1) (by decide) ⟨4,26,.inr (.inr (.inl ⟨rfl,rfl,rfl,hge2⟩)),rfl,rfl,rfl⟩ ?_ rfl rfl rfl rfl rfl rfl
   exact .cons rfl (.cons rfl (.cons rfl (.cons rfl .nil)))
 ·have hd:decide ((4:Int)<8)=true:=by decide
  rcases Nat.lt_or_ge h.2.1 4294967296 with hlt|hge2
  ·have hq:decide ((h.2.1:Int) ≥ ((2 ^ 32:Nat):Int))=false:=by
    rw[show((2 ^ 32:Nat):Int)=4294967296 from rfl];simp;omega
   have hf:=hfs.2.2.1 hge hlt
   have hU:=Yr (beN h.2.1 4)
   repeat'(first|(apply Zb (US 32 (by decide));kernel_rfl;(iterate 4 exact U))|(apply Zb (Kp h.2.1 4 HN.out (by decide));kernel_rfl;(iterate 4 exact U))|refine Wu Za U U U U U U U U U U U (Zk rfl) (Zk rfl) (List.cons_ne_nil _ _) Qd Qd U U ?_|(apply Zi Za;exact U)|(apply Zg Za;exact U)|(apply Zp Za;exact U)|refine Ze U U U Qt ?_|refine Zj U Qt U U ?_|refine Zf U Qt ?_|refine ZM Za U U U U U U U U U U U U ?_|(apply Zo 8 ZB;decide +kernel;kernel_rfl;kernel_rfl;kernel_rfl;exact U;exact U)|(apply Zs;(iterate 4 exact U))|exact AE.nil _ _ _ _|(apply Zx;exact U)|(apply Zz;exact U;exact U;decide +kernel;exact U)|(apply ZA;exact U)|exact AO.nil _ _ _|(apply Zr;(decide +kernel))|exact AOs.nil|exact ZF rfl rfl)
   ·(apply Jz [] [0];(apply Zc Za;exact U);(iterate 7 exact U))
    ·have e:=congrArg (fun x:Int=>D.sl (.own 0) (E.int .u8 x::(beN h.2.1 4).map E.byte)) (V9 h.1 26 hm (by decide))
     rw[hw,hf.1,hf.2]
     exact e
    ·rfl
    ·simp only[hw,hf.1,List.length_cons,List.length_nil,List.length_map,Yh];rfl
  ·have hq:decide ((h.2.1:Int) ≥ ((2 ^ 32:Nat):Int))=true:=by
    rw[show((2 ^ 32:Nat):Int)=4294967296 from rfl];simp;omega
   repeat'(first|(apply Zb (US 32 (by decide));kernel_rfl;(iterate 4 exact U))|(apply Zi Za;exact U)|(apply Zg Za;exact U)|(apply Zp Za;exact U)|refine Ze U U U Qt ?_|refine Zj U Qt U U ?_|refine Zd U Qt ?_|refine Yt ?_|(apply Zo 8 ZB;decide +kernel;kernel_rfl;kernel_rfl;kernel_rfl;exact U;exact U)|(apply Zs;(iterate 4 exact U))|exact AE.nil _ _ _ _|(apply Zx;exact U)|(apply Zz;exact U;exact U;decide +kernel;exact U)|(apply ZA;exact U)|exact AO.nil _ _ _|(apply Zr;(decide +kernel))|exact AOs.nil|exact ZF rfl rfl)
   refine Lands.mk' (m:=0) (by decide) ⟨8,27,.inr (.inr (.inr ⟨rfl,rfl,rfl,hge2⟩)),rfl,rfl,rfl⟩ ?_ rfl rfl rfl rfl rfl rfl
   exact .cons rfl (.cons rfl (.cons rfl (.cons rfl .nil)))
 ·have hd:decide ((8:Int)<8)=false:=by decide
  have hf:=hfs.2.2.2 hge
  have hU:=Yr (beN h.2.1 8)
  repeat'(first|(apply Zb (Kp h.2.1 8 HN.out (by decide));kernel_rfl;(iterate 4 exact U))|refine Wu Za U U U U U U U U U U U (Zk rfl) (Zk rfl) (List.cons_ne_nil _ _) Qd Qd U U ?_|(apply Zi Za;exact U)|(apply Zg Za;exact U)|(apply Zp Za;exact U)|refine Zt U U U Qt ?_|refine Zh U Qt U U ?_|refine Zf U Qt ?_|refine ZM Za U U U U U U U U U U U U ?_|(apply Zo 8 ZB;decide +kernel;kernel_rfl;kernel_rfl;kernel_rfl;exact U;exact U)|(apply Zs;(iterate 4 exact U))|exact AE.nil _ _ _ _|(apply Zx;exact U)|(apply Zz;exact U;exact U;decide +kernel;exact U)|(apply ZA;exact U)|exact AO.nil _ _ _|(apply Zr;(decide +kernel))|exact AOs.nil|exact ZF rfl rfl)
  ·(apply Jz [] [0];(apply Zc Za;exact U);(iterate 7 exact U))
   ·have e:=congrArg (fun x:Int=>D.sl (.own 0) (E.int .u8 x::(beN h.2.1 8).map E.byte)) (V9 h.1 27 hm (by decide))
    rw[hw,hf.1,hf.2]
    exact e
   ·rfl
   ·simp only[hw,hf.1,List.length_cons,List.length_nil,List.length_map,Yh];rfl
end Go.Proofs.YtmljabhmajehnaaGreatDoor
end
section
open Go.RowKit Go.Pl Go.Av
namespace Go.Proofs.YtmljabhmajehnaaGreatDoor
set_option maxHeartbeats 4000000
mutual
def W2:It->Nat->Nat
 | .mk k n b l,m=>WZ l m 1
def WZ:List It->Nat->Nat->Nat
 | [],_,n=>n
 | x::l,m,n=>if n<=m then WZ l m (n+W2 x m) else n
end
theorem Ia:∀(l:List It) (m n:Nat),n<=WZ l m n
 | [],m,n=>by rw[WZ];omega
 | x::l,m,n=>by
  rw[WZ]
  split
  ·have:=Ia l m (n+W2 x m);omega
  ·omega
mutual
theorem KZ:∀(x:It) (m:Nat),W2 x m<=YD x
 | .mk k n b l,m=>by
  rw[W2,YD]
  have:=Ib l m 1
  omega
theorem Ib:∀(l:List It) (m n:Nat),WZ l m n<=n+Yg l
 | [],m,n=>by rw[WZ];omega
 | x::l,m,n=>by
  rw[WZ,Yg]
  split
  ·have h1:=KZ x m
   have h2:=Ib l m (n+W2 x m)
   omega
  ·omega
end
mutual
theorem G8:∀(x:It) (m:Nat),W2 x m<=m->YD x=W2 x m
 | .mk k n b l,m,h=>by
  rw[W2]at h ⊢
  rw[YD]
  exact Ic l m 1 h
theorem Ic:∀(l:List It) (m n:Nat),WZ l m n<=m->n+Yg l=WZ l m n
 | [],m,n,h=>by rw[WZ,Yg];omega
 | x::l,m,n,h=>by
  rw[WZ]at h ⊢
  rw[Yg]
  split at h
  ·rename_i hn
   rw[if_pos hn]
   have h1:=Ia l m (n+W2 x m)
   have h2:=G8 x m (by omega)
   have h3:=Ic l m (n+W2 x m) h
   omega
  ·omega
end
mutual
def QA:It->Nat->Nat
 | .mk k n b l,m=>Vs l m 1
def Vs:List It->Nat->Nat->Nat
 | [],_,n=>n
 | x::l,0,n=>n
 | x::l,m+1,n=>Vs l (m+1) (if n<1+QA x m then 1+QA x m else n)
end
theorem G9:∀(l:List It) (m n:Nat),n<=Vs l m n
 | [],m,n=>by rw[Vs];omega
 | x::l,0,n=>by rw[Vs];omega
 | x::l,m+1,n=>by
  rw[Vs]
  have:=G9 l (m+1) (if n<1+QA x m then 1+QA x m else n)
  split at this<;>(try split)<;>omega
mutual
theorem Nq:∀(x:It) (m:Nat),QA x m<=m+1
 | .mk k n b l,m=>by
  rw[QA]
  exact Ha l m 1 (by omega)
theorem Ha:∀(l:List It) (m n:Nat),n<=m+1->Vs l m n<=m+1
 | [],m,n,h=>by rw[Vs];omega
 | x::l,0,n,h=>by rw[Vs];omega
 | x::l,m+1,n,h=>by
  rw[Vs]
  have:=Nq x m
  exact Ha l (m+1) _ (by split<;>omega)
end
mutual
theorem Hb:∀(x:It) (m d:Nat),d<=m->(QA x m<=d ↔ YU x d=true)
 | .mk k n b l,m,0,h=>by
  have:=G9 l m 1
  rw[QA,YU]
  simp;omega
 | .mk k n b l,m,d+1,h=>by
  rw[QA,YU,Id l m 1 d (by omega)]
  simp
theorem Id:∀(l:List It) (m n d:Nat),d+1<=m->(Vs l m n<=d+1 ↔ n<=d+1/\YN l d=true)
 | [],m,n,d,h=>by rw[Vs,YN];simp
 | x::l,0,n,d,h=>by omega
 | x::l,m+1,n,d,h=>by
  rw[Vs,YN,Bool.and_eq_true,Id l (m+1) _ d (by omega),<- Hb x m d (by omega)]
  split
  ·exact⟨fun⟨h1,h2⟩=>⟨by omega,by omega,h2⟩,fun⟨h1,h2,h3⟩=>⟨by omega,h3⟩⟩
  ·exact⟨fun⟨h1,h2⟩=>⟨by omega,by omega,h2⟩,fun⟨h1,h2,h3⟩=>⟨by omega,h3⟩⟩
end
theorem Mb (x:It):(decide (QA x 7<=6)&&(decide (W2 x 257<=256)&&Yz x))=ZC x:=by
 rw[YY]
 have h1:=Hb x 7 6 (by omega)
 have h2:=KZ x 257
 have h3:W2 x 257<=256->YD x=W2 x 257:=fun h=>G8 x 257 (by omega)
 have e1:decide (QA x 7<=6)=YU x 6:=by
  cases hd:YU x 6 with
  | true=>exact decide_eq_true (h1.2 hd)
  | false=>exact decide_eq_false fun h=>by rw[h1.1 h]at hd;cases hd
 have e2:decide (W2 x 257<=256)=decide (YD x<=256):=by
  rw[decide_eq_decide]
  exact⟨fun h=>by have:=h3 h;omega,fun h=>by omega⟩
 rw[e1,e2]
theorem XH:∀ {l:List It},∀ y ∈ l,YD y<=Yg l
 | x::l,y,hy=>by
  rw[Yg]
  rcases List.mem_cons.1 hy with rfl|hy
  ·omega
  ·have:=XH y hy;omega
theorem So [Known](m:Nat)(hm:m<=1000):∀(x:It),YD x<=1000->AP Tryz.prog 181 [itD x,.int .i64 (m:Int)] (.int .i64 (W2 x m:Int)) []:=by
 refine It.ind fun k n b l ih hs=>?_
 rw[YD]at hs
 have hlen:=Zw l
 have hll:l.length<=Yg l:=by
  clear ih hs hlen
  induction l with
  | nil=>rw[Yg];exact Nat.le_refl _
  | cons x l ih=>
   obtain⟨k',n',b',l'⟩:=x
   rw[Yg,YD,List.length_cons];omega
 show AP Tryz.prog _ [.agg (itC k n b l),_] _ _
 rw[W2]
 generalize hfin:WZ l m 1=fin
 refine AP.ofA (Zl Tryz.func181 U Tryz.ntmps181 U U ?_)
 repeat'(first|(apply Zg Za;exact U))
 refine ZJ (fun f tm bx fr=>∃(i c:Nat),f+i=l.length/\c+Yg (l.drop i)<=1001/\WZ (l.drop i) m c=fin/\tm=[(1,.int .i64 (m:Int)),(2,.ptr 0 0),(5,.int .i64 (c:Int)),(6,.int .i64 (i:Int))]/\bx=[itC k n b l]/\fr=[]) (l.length+1) (Lands.mk' (m:=l.length) (Nat.lt_succ_self _) ⟨0,1,rfl,by rw[List.drop_zero];omega,hfin,rfl,rfl,rfl⟩ ?_ rfl rfl rfl rfl rfl rfl) ?_
 ·exact .cons rfl (.cons rfl (.cons rfl (.cons rfl .nil)))
 rintro f tm bx fr ⟨i,c,hf,hc,hfin,rfl,rfl,rfl⟩
 have hU:=YE l
 rcases Nat.lt_or_ge i l.length with hlt|hge
 ·have hdl:decide ((i:Int)<((Zv l).length:Int))=true:=decide_eq_true (by omega)
  obtain⟨⟨k1,n1,b1,l1⟩,hy⟩:∃ y,l[i]?=some y:=⟨_,List.getElem?_eq_getElem hlt⟩
  have hv:(Zv l)[((i:Nat):Int).toNat]?=some (.agg [.int .i64 k1,.int .u64 (n1:Int),.sl (b1.map E.byte),.sl (Zv l1)]):=by
   rw[Int.toNat_natCast,Yl,List.getElem?_map,hy];rfl
  have hdr:l.drop i=It.mk k1 n1 b1 l1::l.drop (i+1):=by
   rw[List.drop_eq_getElem_cons hlt];congr 1
   exact(List.getElem?_eq_some_iff.1 hy).2
  rw[hdr,Yg]at hc
  rw[hdr,WZ]at hfin
  by_cases hcm:c<=m
  ·have hdm:decide ((c:Int)<=(m:Int))=true:=decide_eq_true (by omega)
   rw[if_pos hcm]at hfin
   have hmem:=List.mem_of_getElem? hy
   have hz:=XH _ hmem
   have hzl:=KZ (.mk k1 n1 b1 l1) m
   have hcy:=ih _ hmem (by omega)
   have ei:IntKind.i64.wrap ((i:Int)+1)=((i+1:Nat):Int):=by rw[IntWalk.i64_in _ (by omega)];omega
   generalize hgr:W2 (.mk k1 n1 b1 l1) m=r at hcy hfin hzl
   have ec:IntKind.i64.wrap ((c:Int)+(r:Int))=((c+r:Nat):Int):=by rw[IntWalk.i64_in _ (by omega)];omega
   repeat'(first|rw[ec]|rw[ei]|(apply Zb (hcy);kernel_rfl;(iterate 4 exact U))|(apply Zi Za;exact U)|(apply Zg Za;exact U)|(apply Zp Za;exact U)|refine Ze U U U Qt ?_|refine Zj U Qt U U ?_|refine Zd U Qt ?_|refine Zn Za U U U U ?_|(apply Zu Za;(iterate 6 exact U);(first|exact Qt|rotate_left);(first|with_reducible assumption|decide +kernel|exact U);(first|exact Zk rfl|with_reducible assumption|decide +kernel|rotate_left)))
   refine Lands.mk' (m:=f-1) (by omega) ⟨i+1,c+r,by omega,by omega,hfin,rfl,rfl,rfl⟩ ?_ rfl rfl rfl rfl rfl rfl
   exact .cons rfl (.cons rfl (.cons rfl (.cons rfl .nil)))
  ·have hdm:decide ((c:Int)<=(m:Int))=false:=decide_eq_false (by omega)
   rw[if_neg hcm]at hfin
   subst hfin
   repeat'(first|(apply Zi Za;exact U)|(apply Zg Za;exact U)|(apply Zp Za;exact U)|refine Ze U U U Qt ?_|refine Zj U Qt U U ?_|refine Zf U Qt ?_|refine Zn Za U U U U ?_)
   all_goals exact Qe
 ·have hdl:decide ((i:Int)<((Zv l).length:Int))=false:=decide_eq_false (by omega)
  rw[List.drop_eq_nil_of_le hge,WZ]at hfin
  subst hfin
  repeat'(first|(apply Zi Za;exact U)|(apply Zg Za;exact U)|(apply Zp Za;exact U)|refine Zt U U U Qt ?_|refine Zh U Qt U U ?_|refine Zf U Qt ?_|refine Zn Za U U U U ?_)
  all_goals exact Qe
theorem Sp [Known]:∀(x:It),wfI x->∀ m:Nat,m<=1000->AP Tryz.prog 180 [itD x,.int .i64 (m:Int)] (.int .i64 (QA x m:Int)) []:=by
 refine It.ind fun k n b l ih hw m hm=>?_
 obtain⟨_,_,hl,hws⟩:=hw
 have hlen:=Zw l
 show AP Tryz.prog _ [.agg (itC k n b l),_] _ _
 rw[QA]
 generalize hfin:Vs l m 1=fin
 refine AP.ofA (Zl Tryz.func180 U Tryz.ntmps180 U U ?_)
 repeat'(first|(apply Zg Za;exact U))
 refine ZJ (fun f tm bx fr=>∃(i c:Nat),f+i=l.length/\c<=m+1/\Vs (l.drop i) m c=fin/\tm=[(1,.int .i64 (m:Int)),(2,.ptr 0 0),(5,.int .i64 (c:Int)),(6,.int .i64 (i:Int))]/\bx=[itC k n b l]/\fr=[]) (l.length+1) (Lands.mk' (m:=l.length) (Nat.lt_succ_self _) ⟨0,1,rfl,by omega,hfin,rfl,rfl,rfl⟩ ?_ rfl rfl rfl rfl rfl rfl) ?_
 ·exact .cons rfl (.cons rfl (.cons rfl (.cons rfl .nil)))
 rintro f tm bx fr ⟨i,c,hf,hc,hfin,rfl,rfl,rfl⟩
 have hU:=YE l
 rcases Nat.lt_or_ge i l.length with hlt|hge
 ·have hdl:decide ((i:Int)<((Zv l).length:Int))=true:=decide_eq_true (by omega)
  obtain⟨⟨k1,n1,b1,l1⟩,hy⟩:∃ y,l[i]?=some y:=⟨_,List.getElem?_eq_getElem hlt⟩
  have hv:(Zv l)[((i:Nat):Int).toNat]?=some (.agg [.int .i64 k1,.int .u64 (n1:Int),.sl (b1.map E.byte),.sl (Zv l1)]):=by
   rw[Int.toNat_natCast,Yl,List.getElem?_map,hy];rfl
  have hdr:l.drop i=It.mk k1 n1 b1 l1::l.drop (i+1):=by
   rw[List.drop_eq_getElem_cons hlt];congr 1
   exact(List.getElem?_eq_some_iff.1 hy).2
  rw[hdr]at hfin
  cases m with
  | zero=>
   rw[Vs]at hfin
   have hdm:decide (((0:Nat):Int)>0)=false:=by decide
   subst hfin
   repeat'(first|(apply Zi Za;exact U)|(apply Zg Za;exact U)|(apply Zp Za;exact U)|refine Ze U U U Qt ?_|refine Zj U Qt U U ?_|refine Zf U Qt ?_|refine Zn Za U U U U ?_)
   all_goals exact Qe
  | succ m=>
   rw[Vs]at hfin
   have hdm:decide (((m+1:Nat):Int)>0)=true:=decide_eq_true (by omega)
   have hmem:=List.mem_of_getElem? hy
   have hcy:=ih _ hmem (Wh hws _ hmem) m (by omega)
   have hzl:=Nq (.mk k1 n1 b1 l1) m
   have ei:IntKind.i64.wrap ((i:Int)+1)=((i+1:Nat):Int):=by rw[IntWalk.i64_in _ (by omega)];omega
   have em:IntKind.i64.wrap (((m+1:Nat):Int)-1)=(m:Int):=by rw[IntWalk.i64_in _ (by omega)];omega
   generalize hgr:QA (.mk k1 n1 b1 l1) m=r at hcy hfin hzl
   have ec:IntKind.i64.wrap (1+(r:Int))=((1+r:Nat):Int):=by rw[IntWalk.i64_in _ (by omega)];omega
   by_cases hcr:c<1+r
   ·rw[if_pos hcr]at hfin
    have t3:decide (((1+r:Nat):Int)>(c:Int))=true:=decide_eq_true (by omega)
    repeat'(first|rw[ec]|rw[ei]|rw[em]|(apply Zb (hcy);kernel_rfl;(iterate 4 exact U))|(apply Zi Za;exact U)|(apply Zg Za;exact U)|(apply Zp Za;exact U)|refine Ze U U U Qt ?_|refine Zj U Qt U U ?_|refine Zd U Qt ?_|refine Zn Za U U U U ?_|(apply Zu Za;(iterate 6 exact U);(first|exact Qt|rotate_left);(first|with_reducible assumption|decide +kernel|exact U);(first|exact Zk rfl|with_reducible assumption|decide +kernel|rotate_left)))
    refine Lands.mk' (m:=f-1) (by omega) ⟨i+1,1+r,by omega,by omega,hfin,rfl,rfl,rfl⟩ ?_ rfl rfl rfl rfl rfl rfl
    exact .cons rfl (.cons rfl (.cons rfl (.cons rfl .nil)))
   ·rw[if_neg hcr]at hfin
    have t3:decide (((1+r:Nat):Int)>(c:Int))=false:=decide_eq_false (by omega)
    repeat'(first|rw[ec]|rw[ei]|rw[em]|(apply Zb (hcy);kernel_rfl;(iterate 4 exact U))|(apply Zi Za;exact U)|(apply Zg Za;exact U)|(apply Zp Za;exact U)|refine Ze U U U Qt ?_|refine Zj U Qt U U ?_|refine Zd U Qt ?_|refine Zf U Qt ?_|refine Zn Za U U U U ?_|(apply Zu Za;(iterate 6 exact U);(first|exact Qt|rotate_left);(first|with_reducible assumption|decide +kernel|exact U);(first|exact Zk rfl|with_reducible assumption|decide +kernel|rotate_left)))
    refine Lands.mk' (m:=f-1) (by omega) ⟨i+1,c,by omega,by omega,hfin,rfl,rfl,rfl⟩ ?_ rfl rfl rfl rfl rfl rfl
    exact .cons rfl (.cons rfl (.cons rfl (.cons rfl .nil)))
 ·have hdl:decide ((i:Int)<((Zv l).length:Int))=false:=decide_eq_false (by omega)
  rw[List.drop_eq_nil_of_le hge]at hfin
  have hfin:c=fin:=by rw[<- hfin,Vs]
  subst hfin
  repeat'(first|(apply Zi Za;exact U)|(apply Zg Za;exact U)|(apply Zp Za;exact U)|refine Zt U U U Qt ?_|refine Zh U Qt U U ?_|refine Zf U Qt ?_|refine Zn Za U U U U ?_)
  all_goals exact Qe
end Go.Proofs.YtmljabhmajehnaaGreatDoor
end
