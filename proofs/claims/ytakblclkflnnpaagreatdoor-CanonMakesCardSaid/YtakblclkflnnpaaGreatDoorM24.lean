/- The document's powers of two, tails and heads' bytes; the bytes lie in a row of their own. -/
import Derived.Test.YtakblclkflnnpaaGreatDoorM15
import Derived.Test.YtakblclkflnnpaaGreatDoorM10
import Derived.Test.YtakblclkflnnpaaGreatDoorM17
import Derived.Test.YtakblclkflnnpaaGreatDoorM23
import Derived.Test.YtakblclkflnnpaaGreatDoorM21
set_option linter.unusedVariables false
set_option linter.unusedSimpArgs false
section
open Go.RowKit Go.Pl Go.Av
namespace Go.Proofs.YtakblclkflnnpaaGreatDoor
set_option maxHeartbeats 1000000
theorem Zds [Known](n:Nat)(hn:n<=32):AP Tryz.prog 182 [.int .i64 (n:Int)] (.int .u64 ((2 ^ n:Nat):Int)) []:=by
 refine Zan Tryz.func182 rfl Tryz.ntmps182 rfl rfl ?_
 repeat'(first|(apply Zah Zab;exact Z))
 refine ZaG (fun k tm bx fr=>∃ i,k+i=n/\tm=[(0,.int .i64 (n:Int)),(3,.int .u64 ((2 ^ i:Nat):Int)),(4,.int .i64 (i:Int))]/\bx=[]/\fr=[]) (n+1) (Lands.mk' (m:=n) (Nat.lt_succ_self _) ⟨0,rfl,rfl,rfl,rfl⟩ ?_ rfl rfl rfl rfl rfl rfl) ?_
 ·exact .cons rfl (.cons rfl (.cons rfl .nil))
 rintro k tm bx fr ⟨i,hk,rfl,rfl,rfl⟩
 rcases Nat.lt_or_ge i n with hlt|hge
 ·have hd:decide ((i:Int)<(n:Int))=true:=by simp;omega
  have hp:2 ^ (i+1)<=2 ^ 32:=Nat.pow_le_pow_right (by decide) (by omega)
  have hp':2 ^ (i+1)=2*2 ^ i:=by rw[Nat.pow_succ];omega
  have e1:IntKind.u64.wrap (2*((2 ^ i:Nat):Int))=((2 ^ (i+1):Nat):Int):=by rw[IntKind.wrap_u64];omega
  have e2:IntKind.i64.wrap ((i:Int)+1)=((i+1:Nat):Int):=by rw[IntWalk.i64_in _ (by omega)];omega
  repeat'(first|rw[e1]|rw[e2]|(apply Zah Zab;exact Z)|(apply Zac;exact Z;(first|with_reducible assumption|(solve|simp only[bn])))|refine Zbe ?_)
  refine Lands.mk' (m:=k-1) (by omega) ⟨i+1,by omega,rfl,rfl,rfl⟩ ?_ rfl rfl rfl rfl rfl rfl
  exact .cons rfl (.cons rfl (.cons rfl .nil))
 ·have hd:decide ((i:Int)<(n:Int))=false:=by simp;omega
  repeat'(first|(apply Zah Zab;exact Z)|(apply Zaf;exact Z;(first|with_reducible assumption|(solve|simp only[bn]))))
  (apply ZeZ (ts:=[]);(apply Zad Zab;exact Z);exact ZaA _;exact Z;rotate_left;exact Z)
  obtain rfl:i=n:=by omega
  rfl
theorem Zhm (n k:Nat):beN n (k+1)=UInt8.ofNat (n/256 ^ k)::beN n k:=by
 unfold beN
 rw[List.range_succ_eq_map,List.map_cons,List.map_map]
 congr 1
 apply List.map_congr_left
 intro i hi
 have hi:i<k:=by simpa using hi
 simp only[Function.comp]
 rw[show k+1-1-i.succ=k-1-i from by omega]
theorem Zgt [Known](n f:Nat)(hn:n<18446744073709551616)(hf:f<=8):AP Tryz.prog 183 [.int .u64 (n:Int),.int .i64 (f:Int)] (byE (beN n f)) []:=by
 refine AP.weak ?_
 refine Zan Tryz.func183 rfl Tryz.ntmps183 rfl rfl ?_
 repeat'(first|(apply Zah Zab;exact Z))
 refine ZaG (fun k tm bx fr=>∃ i,k+i=f/\tm=[(0,.int .u64 ((n/256 ^ i:Nat):Int)),(1,.int .i64 (f:Int)),(5,byE (beN n i)),(6,.int .i64 (i:Int))]/\bx=[]/\fr=[]) (f+1) (Lands.mk' (m:=f) (Nat.lt_succ_self _) ⟨0,rfl,rfl,rfl,rfl⟩ ?_ rfl rfl rfl rfl rfl rfl) ?_
 ·refine .cons ?_ (.cons rfl (.wk rfl (.cons rfl .nil)))
  rw[Nat.pow_zero,Nat.div_one];rfl
 rintro k tm bx fr ⟨i,hk,rfl,rfl,rfl⟩
 have hle:n/256 ^ i<=n:=Nat.div_le_self _ _
 have hdd:n/256 ^ (i+1)=n/256 ^ i/256:=by rw[Nat.pow_succ,Nat.div_div_eq_div_mul]
 rcases Nat.lt_or_ge i f with hlt|hge
 ·have hd:decide ((i:Int)<(f:Int))=true:=by simp;omega
  have e1:E.int .u8 (IntKind.u8.wrap (((n/256 ^ i:Nat):Int).tmod 256))=E.byte (UInt8.ofNat (n/256 ^ i)):=by
   unfold E.byte
   rw[IntKind.wrap_u8',UInt8.toNat_ofNat',Int.tmod_eq_emod_of_nonneg (Int.natCast_nonneg _)]
   congr 1
   omega
  have e2:IntKind.i64.wrap ((i:Int)+1)=((i+1:Nat):Int):=by rw[IntWalk.i64_in _ (by omega)];omega
  have e3:IntKind.u64.wrap (((n/256 ^ i:Nat):Int).tdiv 256)=((n/256 ^ (i+1):Nat):Int):=by
   rw[hdd]
   generalize n/256 ^ i=q at hle
   rw[Int.tdiv_eq_ediv_of_nonneg (Int.natCast_nonneg _),IntKind.wrap_u64];omega
  have hU:=Zbi (beN n i)
  have hne:i ≠ 0->(beN n i).map E.byte ≠ []:=fun h0 e=>by
   have:=congrArg List.length e
   rw[List.length_map,Za2]at this
   exact h0 this
  have hlb:=Za2 n i
  rcases Nat.eq_zero_or_pos i with rfl|h0
  ·repeat'(first|rw[e2]|rw[e3]|(apply Zai Zab;exact Z)|(apply Zah Zab;exact Z)|(apply Zac;exact Z;(first|with_reducible assumption|(solve|simp only[bn])))|(apply Zfb Zab;(iterate 12 exact Z))|(apply ZaH Zab;(iterate 6 exact Z))|(apply ZgC;exact Z;exact Z;(first|exact Go.Zqz|rotate_left);exact Z)|(apply ZgD;exact Z;exact Z;(first|exact Go.Zqz|rotate_left);exact Z))
   refine Lands.mk' (m:=k-1) (by omega) ⟨1,by omega,rfl,rfl,rfl⟩ ?_ rfl rfl rfl rfl rfl rfl
   refine .cons rfl (.cons rfl (.wk ?_ (.cons rfl .nil)))
   rw[Zhm]
   exact congrArg (fun x=>D.sl .ext [x]) e1
  ·have hne:=hne (by omega)
   repeat'(first|rw[e2]|rw[e3]|(apply Zai Zab;exact Z)|(apply Zah Zab;exact Z)|(apply Zac;exact Z;(first|with_reducible assumption|(solve|simp only[bn])))|(apply Zfb Zab;(iterate 12 exact Z))|(apply ZaI Zab;(iterate 6 exact Z);(first|with_reducible assumption|exact Z|rotate_left);exact Z;exact Z;(first|exact Zak rfl|with_reducible assumption|rotate_left);(first|exact Zak rfl|with_reducible assumption|rotate_left);(first|exact Go.Zqz|rotate_left);(first|exact Go.Zqz|rotate_left);(first|exact Go.Zqz|rotate_left);exact Z;exact Z)|(apply ZgC;exact Z;exact Z;(first|exact Go.Zqz|rotate_left);exact Z)|(apply ZgD;exact Z;exact Z;(first|exact Go.Zqz|rotate_left);exact Z))
   ·refine Lands.mk' (m:=k-1) (by omega) ⟨i+1,by omega,rfl,rfl,rfl⟩ ?_ rfl rfl rfl rfl rfl rfl
    refine .cons rfl (.cons rfl (.wk ?_ (.cons rfl .nil)))
    rw[Zhm]
    exact congrArg (fun x=>D.sl .ext (x::(beN n i).map E.byte)) e1
   ·show 1+((beN n i).map E.byte).length<=maxLen
    rw[List.length_map,hlb];unfold maxLen;omega
   ·show(1+((beN n i).map E.byte).length)*1<=140737488355328
    rw[List.length_map,hlb];omega
 ·have hd:decide ((i:Int)<(f:Int))=false:=by simp;omega
  repeat'(first|(apply Zah Zab;exact Z)|(apply Zaf;exact Z;(first|with_reducible assumption|(solve|simp only[bn]))))
  (apply ZoX;(apply Zad Zab;exact Z);exact Z)
  obtain rfl:i=f:=by omega
  rfl
theorem ZcT (m:Int)(i:Nat)(hm:0<=m/\m<=7)(hi:i<32):IntKind.u8.wrap (IntKind.u8.wrap (IntKind.i64.wrap (32*m))+(i:Int))=((ZbW m.toNat i).toNat:Int):=by
 unfold ZbW
 rw[IntWalk.i64_in _ (by omega),IntKind.wrap_u8',IntKind.wrap_u8',UInt8.toNat_ofNat']
 omega
theorem Zk4 (n:Nat)(h:¬ n<24):(n<256->ZaD n=1/\Zbv n=24)/\(256<=n->n<65536->ZaD n=2/\Zbv n=25)/\(65536<=n->n<4294967296->ZaD n=4/\Zbv n=26)/\(4294967296<=n->ZaD n=8/\Zbv n=27):=by
 unfold ZaD Zbv
 refine⟨fun h1=>?_,fun h1 h2=>?_,fun h1 h2=>?_,fun h1=>?_⟩
 ·simp[h,h1]
 ·simp[h,h2,show ¬ n<256 by omega]
 ·simp[h,h2,show ¬ n<256 by omega,show ¬ n<65536 by omega]
 ·simp[h,show ¬ n<256 by omega,show ¬ n<65536 by omega,show ¬ n<4294967296 by omega]
theorem Zhn [Known](h:Hd)(hr:ZaX h=true)(hn:h.2.1<18446744073709551616):AT Tryz.prog 158 [hd h] [] [] (.sl (.own 0) ((ZaO h).map E.byte)) [] [⟨(ZaO h).length,1,5⟩]:=by
 have hm:=Zks hr
 have HN:=hid hn
 clear hn
 refine Zan Tryz.func158 rfl Tryz.ntmps158 rfl rfl ?_
 repeat'(first|(apply Zai Zab;exact Z)|(apply Zah Zab;exact Z)|(apply Zbp;exact Z;all_goals intro hb)|(apply ZaR Zab;(iterate 12 exact Z)))
 ·(apply Zez [] [0];(apply Zad Zab;exact Z);(iterate 7 exact Z))
  ·have hb':h.2.2=true:=hb
   rw[show ZaO h=[ZbW h.1.toNat 31] by simp[ZaO,hb']]
   exact congrArg (fun x:Int=>D.sl (.own 0) [E.int .u8 x]) (ZcT h.1 31 hm (by decide))
  ·rfl
  ·(have hb':h.2.2=true:=hb);rw[show ZaO h=[ZbW h.1.toNat 31] by simp[ZaO,hb']];rfl
 ·(apply Zez [] [0];(apply Zad Zab;exact Z);(iterate 7 exact Z))
  ·have hb':h.2.2=false := ‹_›
   have h24:=of_decide_eq_true hb
   have h24':h.2.1<24:=by omega
   rw[show ZaO h=[ZbW h.1.toNat h.2.1] by simp[ZaO,hb',Zbv,ZaD,h24',beN]]
   have e1:IntKind.u8.wrap ((h.2.1:Nat):Int)=((h.2.1:Nat):Int):=by rw[IntKind.wrap_u8'];omega
   have e:=congrArg (fun x:Int=>D.sl (.own 0) [E.int .u8 x]) (ZcT h.1 h.2.1 hm (by omega))
   rw[<- e1]at e
   exact e
  ·rfl
  ·(have hb':h.2.2=false := ‹_›);(have h24:=of_decide_eq_true hb);(have h24':h.2.1<24:=by omega);rw[show ZaO h=[ZbW h.1.toNat h.2.1] by simp[ZaO,hb',Zbv,ZaD,h24',beN]];rfl
 have hb':h.2.2=false := ‹_›
 have h24:¬ h.2.1<24:=by have:=of_decide_eq_false hb;omega
 have hw:ZaO h=ZbW h.1.toNat (Zbv h.2.1)::beN h.2.1 (ZaD h.2.1):=by simp[ZaO,hb']
 have hfs:=Zk4 h.2.1 h24
 refine ZaG (fun k tm bx fr=>∃ sz inf:Int,((k=3/\sz=1/\inf=24)\/(k=2/\sz=2/\inf=25/\256<=h.2.1)\/(k=1/\sz=4/\inf=26/\65536<=h.2.1)\/(k=0/\sz=8/\inf=27/\4294967296<=h.2.1))/\tm=[(1,.ptr 0 0),(3,.int .u8 (IntKind.u8.wrap (IntKind.i64.wrap (32*h.1)))),(4,.int .i64 sz),(5,.int .u8 inf)]/\bx=[[.int .i64 h.1,.int .u64 (h.2.1:Int),.bool h.2.2]]/\fr=[]) 4 (Lands.mk' (m:=3) (by decide) ⟨1,24,.inl ⟨rfl,rfl,rfl⟩,rfl,rfl,rfl⟩ ?_ rfl rfl rfl rfl rfl rfl) ?_
 ·exact .cons rfl (.cons rfl (.cons rfl (.cons rfl .nil)))
 rintro k tm bx fr ⟨sz,inf,hc,rfl,rfl,rfl⟩
 rcases hc with⟨rfl,rfl,rfl⟩ | ⟨rfl,rfl,rfl,hge⟩ | ⟨rfl,rfl,rfl,hge⟩ | ⟨rfl,rfl,rfl,hge⟩
 ·have hd:decide ((1:Int)<8)=true:=by decide
  rcases Nat.lt_or_ge h.2.1 256 with hlt|hge2
  ·have hq:decide ((h.2.1:Int) ≥ ((2 ^ 8:Nat):Int))=false:=by
    rw[show((2 ^ 8:Nat):Int)=256 from rfl];simp;omega
   have hf:=hfs.1 hlt
   have hU:=Zbi (beN h.2.1 1)
   repeat'(first|(apply Zaa (Zds 8 (by decide));kernel_rfl;(iterate 4 exact Z))|(apply Zaa (Zgt h.2.1 1 HN.out (by decide));kernel_rfl;(iterate 4 exact Z))|(apply ZbV Zab;(iterate 11 exact Z);exact Zak rfl;exact Zak rfl;exact List.cons_ne_nil _ _;decide +kernel;decide +kernel;exact Z;exact Z)|(apply Zai Zab;exact Z)|(apply Zah Zab;exact Z)|(apply Zaw Zab;exact Z)|(apply Zae;(iterate 3 exact Z);exact Go.Zqy)|(apply Zaj;exact Z;exact Go.Zqy;exact Z;exact Z)|(apply Zaf;exact Z;exact Go.Zqy)|(apply ZaR Zab;(iterate 12 exact Z))|(apply Zam 8 ZaK;decide +kernel;kernel_rfl;kernel_rfl;kernel_rfl;exact Z;exact Z)|(apply Zaq;(iterate 4 exact Z))|exact AE.nil _ _ _ _|(apply Zat;exact Z)|(apply Zax;exact Z;exact Z;decide +kernel;exact Z)|(apply Zay;exact Z)|exact AO.nil _ _ _|(apply Zap;(decide +kernel))|exact AOs.nil|exact ZaE rfl rfl)
   ·(apply Zez [] [0];(apply Zad Zab;exact Z);(iterate 7 exact Z))
    ·have e:=congrArg (fun x:Int=>D.sl (.own 0) (E.int .u8 x::(beN h.2.1 1).map E.byte)) (ZcT h.1 24 hm (by decide))
     rw[hw,hf.1,hf.2]
     exact e
    ·rfl
    ·simp only[hw,hf.1,List.length_cons,List.length_nil,List.length_map,Za2];rfl
  ·have hq:decide ((h.2.1:Int) ≥ ((2 ^ 8:Nat):Int))=true:=by
    rw[show((2 ^ 8:Nat):Int)=256 from rfl];simp;omega
   repeat'(first|(apply Zaa (Zds 8 (by decide));kernel_rfl;(iterate 4 exact Z))|(apply Zai Zab;exact Z)|(apply Zah Zab;exact Z)|(apply Zaw Zab;exact Z)|(apply Zae;(iterate 3 exact Z);exact Go.Zqy)|(apply Zaj;exact Z;exact Go.Zqy;exact Z;exact Z)|(apply Zac;exact Z;exact Go.Zqy)|refine Zbe ?_|(apply Zam 8 ZaK;decide +kernel;kernel_rfl;kernel_rfl;kernel_rfl;exact Z;exact Z)|(apply Zaq;(iterate 4 exact Z))|exact AE.nil _ _ _ _|(apply Zat;exact Z)|(apply Zax;exact Z;exact Z;decide +kernel;exact Z)|(apply Zay;exact Z)|exact AO.nil _ _ _|(apply Zap;(decide +kernel))|exact AOs.nil|exact ZaE rfl rfl)
   refine Lands.mk' (m:=2) (by decide) ⟨2,25,.inr (.inl ⟨rfl,rfl,rfl,hge2⟩),rfl,rfl,rfl⟩ ?_ rfl rfl rfl rfl rfl rfl
   exact .cons rfl (.cons rfl (.cons rfl (.cons rfl .nil)))
 ·have hd:decide ((2:Int)<8)=true:=by decide
  rcases Nat.lt_or_ge h.2.1 65536 with hlt|hge2
  ·have hq:decide ((h.2.1:Int) ≥ ((2 ^ 16:Nat):Int))=false:=by
    rw[show((2 ^ 16:Nat):Int)=65536 from rfl];simp;omega
   have hf:=hfs.2.1 hge hlt
   have hU:=Zbi (beN h.2.1 2)
   repeat'(first|(apply Zaa (Zds 16 (by decide));kernel_rfl;(iterate 4 exact Z))|(apply Zaa (Zgt h.2.1 2 HN.out (by decide));kernel_rfl;(iterate 4 exact Z))|(apply ZbV Zab;(iterate 11 exact Z);exact Zak rfl;exact Zak rfl;exact List.cons_ne_nil _ _;decide +kernel;decide +kernel;exact Z;exact Z)|(apply Zai Zab;exact Z)|(apply Zah Zab;exact Z)|(apply Zaw Zab;exact Z)|(apply Zae;(iterate 3 exact Z);exact Go.Zqy)|(apply Zaj;exact Z;exact Go.Zqy;exact Z;exact Z)|(apply Zaf;exact Z;exact Go.Zqy)|(apply ZaR Zab;(iterate 12 exact Z))|(apply Zam 8 ZaK;decide +kernel;kernel_rfl;kernel_rfl;kernel_rfl;exact Z;exact Z)|(apply Zaq;(iterate 4 exact Z))|exact AE.nil _ _ _ _|(apply Zat;exact Z)|(apply Zax;exact Z;exact Z;decide +kernel;exact Z)|(apply Zay;exact Z)|exact AO.nil _ _ _|(apply Zap;(decide +kernel))|exact AOs.nil|exact ZaE rfl rfl)
   ·(apply Zez [] [0];(apply Zad Zab;exact Z);(iterate 7 exact Z))
    ·have e:=congrArg (fun x:Int=>D.sl (.own 0) (E.int .u8 x::(beN h.2.1 2).map E.byte)) (ZcT h.1 25 hm (by decide))
     rw[hw,hf.1,hf.2]
     exact e
    ·rfl
    ·simp only[hw,hf.1,List.length_cons,List.length_nil,List.length_map,Za2];rfl
  ·have hq:decide ((h.2.1:Int) ≥ ((2 ^ 16:Nat):Int))=true:=by
    rw[show((2 ^ 16:Nat):Int)=65536 from rfl];simp;omega
   repeat'(first|(apply Zaa (Zds 16 (by decide));kernel_rfl;(iterate 4 exact Z))|(apply Zai Zab;exact Z)|(apply Zah Zab;exact Z)|(apply Zaw Zab;exact Z)|(apply Zae;(iterate 3 exact Z);exact Go.Zqy)|(apply Zaj;exact Z;exact Go.Zqy;exact Z;exact Z)|(apply Zac;exact Z;exact Go.Zqy)|refine Zbe ?_|(apply Zam 8 ZaK;decide +kernel;kernel_rfl;kernel_rfl;kernel_rfl;exact Z;exact Z)|(apply Zaq;(iterate 4 exact Z))|exact AE.nil _ _ _ _|(apply Zat;exact Z)|(apply Zax;exact Z;exact Z;decide +kernel;exact Z)|(apply Zay;exact Z)|exact AO.nil _ _ _|(apply Zap;(decide +kernel))|exact AOs.nil|exact ZaE rfl rfl)
   refine Lands.mk' (m:=1) (by decide) ⟨4,26,.inr (.inr (.inl ⟨rfl,rfl,rfl,hge2⟩)),rfl,rfl,rfl⟩ ?_ rfl rfl rfl rfl rfl rfl
   exact .cons rfl (.cons rfl (.cons rfl (.cons rfl .nil)))
 ·have hd:decide ((4:Int)<8)=true:=by decide
  rcases Nat.lt_or_ge h.2.1 4294967296 with hlt|hge2
  ·have hq:decide ((h.2.1:Int) ≥ ((2 ^ 32:Nat):Int))=false:=by
    rw[show((2 ^ 32:Nat):Int)=4294967296 from rfl];simp;omega
   have hf:=hfs.2.2.1 hge hlt
   have hU:=Zbi (beN h.2.1 4)
   repeat'(first|(apply Zaa (Zds 32 (by decide));kernel_rfl;(iterate 4 exact Z))|(apply Zaa (Zgt h.2.1 4 HN.out (by decide));kernel_rfl;(iterate 4 exact Z))|(apply ZbV Zab;(iterate 11 exact Z);exact Zak rfl;exact Zak rfl;exact List.cons_ne_nil _ _;decide +kernel;decide +kernel;exact Z;exact Z)|(apply Zai Zab;exact Z)|(apply Zah Zab;exact Z)|(apply Zaw Zab;exact Z)|(apply Zae;(iterate 3 exact Z);exact Go.Zqy)|(apply Zaj;exact Z;exact Go.Zqy;exact Z;exact Z)|(apply Zaf;exact Z;exact Go.Zqy)|(apply ZaR Zab;(iterate 12 exact Z))|(apply Zam 8 ZaK;decide +kernel;kernel_rfl;kernel_rfl;kernel_rfl;exact Z;exact Z)|(apply Zaq;(iterate 4 exact Z))|exact AE.nil _ _ _ _|(apply Zat;exact Z)|(apply Zax;exact Z;exact Z;decide +kernel;exact Z)|(apply Zay;exact Z)|exact AO.nil _ _ _|(apply Zap;(decide +kernel))|exact AOs.nil|exact ZaE rfl rfl)
   ·(apply Zez [] [0];(apply Zad Zab;exact Z);(iterate 7 exact Z))
    ·have e:=congrArg (fun x:Int=>D.sl (.own 0) (E.int .u8 x::(beN h.2.1 4).map E.byte)) (ZcT h.1 26 hm (by decide))
     rw[hw,hf.1,hf.2]
     exact e
    ·rfl
    ·simp only[hw,hf.1,List.length_cons,List.length_nil,List.length_map,Za2];rfl
  ·have hq:decide ((h.2.1:Int) ≥ ((2 ^ 32:Nat):Int))=true:=by
    rw[show((2 ^ 32:Nat):Int)=4294967296 from rfl];simp;omega
   repeat'(first|(apply Zaa (Zds 32 (by decide));kernel_rfl;(iterate 4 exact Z))|(apply Zai Zab;exact Z)|(apply Zah Zab;exact Z)|(apply Zaw Zab;exact Z)|(apply Zae;(iterate 3 exact Z);exact Go.Zqy)|(apply Zaj;exact Z;exact Go.Zqy;exact Z;exact Z)|(apply Zac;exact Z;exact Go.Zqy)|refine Zbe ?_|(apply Zam 8 ZaK;decide +kernel;kernel_rfl;kernel_rfl;kernel_rfl;exact Z;exact Z)|(apply Zaq;(iterate 4 exact Z))|exact AE.nil _ _ _ _|(apply Zat;exact Z)|(apply Zax;exact Z;exact Z;decide +kernel;exact Z)|(apply Zay;exact Z)|exact AO.nil _ _ _|(apply Zap;(decide +kernel))|exact AOs.nil|exact ZaE rfl rfl)
   refine Lands.mk' (m:=0) (by decide) ⟨8,27,.inr (.inr (.inr ⟨rfl,rfl,rfl,hge2⟩)),rfl,rfl,rfl⟩ ?_ rfl rfl rfl rfl rfl rfl
   exact .cons rfl (.cons rfl (.cons rfl (.cons rfl .nil)))
 ·have hd:decide ((8:Int)<8)=false:=by decide
  have hf:=hfs.2.2.2 hge
  have hU:=Zbi (beN h.2.1 8)
  repeat'(first|(apply Zaa (Zgt h.2.1 8 HN.out (by decide));kernel_rfl;(iterate 4 exact Z))|(apply ZbV Zab;(iterate 11 exact Z);exact Zak rfl;exact Zak rfl;exact List.cons_ne_nil _ _;decide +kernel;decide +kernel;exact Z;exact Z)|(apply Zai Zab;exact Z)|(apply Zah Zab;exact Z)|(apply Zaw Zab;exact Z)|(apply Zau;(iterate 3 exact Z);exact Go.Zqy)|(apply Zag;exact Z;exact Go.Zqy;exact Z;exact Z)|(apply Zaf;exact Z;exact Go.Zqy)|(apply ZaR Zab;(iterate 12 exact Z))|(apply Zam 8 ZaK;decide +kernel;kernel_rfl;kernel_rfl;kernel_rfl;exact Z;exact Z)|(apply Zaq;(iterate 4 exact Z))|exact AE.nil _ _ _ _|(apply Zat;exact Z)|(apply Zax;exact Z;exact Z;decide +kernel;exact Z)|(apply Zay;exact Z)|exact AO.nil _ _ _|(apply Zap;(decide +kernel))|exact AOs.nil|exact ZaE rfl rfl)
  ·(apply Zez [] [0];(apply Zad Zab;exact Z);(iterate 7 exact Z))
   ·have e:=congrArg (fun x:Int=>D.sl (.own 0) (E.int .u8 x::(beN h.2.1 8).map E.byte)) (ZcT h.1 27 hm (by decide))
    rw[hw,hf.1,hf.2]
    exact e
   ·rfl
   ·simp only[hw,hf.1,List.length_cons,List.length_nil,List.length_map,Za2];rfl
end Go.Proofs.YtakblclkflnnpaaGreatDoor
end
section
open Go.RowKit Go.Pl Go.Av
namespace Go.Proofs.YtakblclkflnnpaaGreatDoor
set_option maxHeartbeats 4000000
mutual
def ZfH:It->Nat->Nat
 | .mk k n b l,m=>Zc4 l m 1
def Zc4:List It->Nat->Nat->Nat
 | [],_,n=>n
 | x::l,m,n=>if n<=m then Zc4 l m (n+ZfH x m) else n
end
theorem Zho:∀(l:List It) (m n:Nat),n<=Zc4 l m n
 | [],m,n=>by rw[Zc4];omega
 | x::l,m,n=>by
  rw[Zc4]
  split
  ·have:=Zho l m (n+ZfH x m);omega
  ·omega
mutual
theorem Zme:∀(x:It) (m:Nat),ZfH x m<=ZdB x
 | .mk k n b l,m=>by
  rw[ZfH,ZdB]
  have:=Zhp l m 1
  omega
theorem Zhp:∀(l:List It) (m n:Nat),Zc4 l m n<=n+Zdh l
 | [],m,n=>by rw[Zc4];omega
 | x::l,m,n=>by
  rw[Zc4,Zdh]
  split
  ·have h1:=Zme x m
   have h2:=Zhp l m (n+ZfH x m)
   omega
  ·omega
end
mutual
theorem Zmf:∀(x:It) (m:Nat),ZfH x m<=m->ZdB x=ZfH x m
 | .mk k n b l,m,h=>by
  rw[ZfH]at h ⊢
  rw[ZdB]
  exact Zhq l m 1 h
theorem Zhq:∀(l:List It) (m n:Nat),Zc4 l m n<=m->n+Zdh l=Zc4 l m n
 | [],m,n,h=>by rw[Zc4,Zdh];omega
 | x::l,m,n,h=>by
  rw[Zc4]at h ⊢
  rw[Zdh]
  split at h
  ·rename_i hn
   rw[if_pos hn]
   have h1:=Zho l m (n+ZfH x m)
   have h2:=Zmf x m (by omega)
   have h3:=Zhq l m (n+ZfH x m) h
   omega
  ·omega
end
mutual
def Zmg:It->Nat->Nat
 | .mk k n b l,m=>Zev l m 1
def Zev:List It->Nat->Nat->Nat
 | [],_,n=>n
 | x::l,0,n=>n
 | x::l,m+1,n=>Zev l (m+1) (if n<1+Zmg x m then 1+Zmg x m else n)
end
theorem Zi6:∀(l:List It) (m n:Nat),n<=Zev l m n
 | [],m,n=>by rw[Zev];omega
 | x::l,0,n=>by rw[Zev];omega
 | x::l,m+1,n=>by
  rw[Zev]
  have:=Zi6 l (m+1) (if n<1+Zmg x m then 1+Zmg x m else n)
  split at this<;>(try split)<;>omega
mutual
theorem ZnB:∀(x:It) (m:Nat),Zmg x m<=m+1
 | .mk k n b l,m=>by
  rw[Zmg]
  exact Zi7 l m 1 (by omega)
theorem Zi7:∀(l:List It) (m n:Nat),n<=m+1->Zev l m n<=m+1
 | [],m,n,h=>by rw[Zev];omega
 | x::l,0,n,h=>by rw[Zev];omega
 | x::l,m+1,n,h=>by
  rw[Zev]
  have:=ZnB x m
  exact Zi7 l (m+1) _ (by split<;>omega)
end
mutual
theorem Zmh:∀(x:It) (m d:Nat),d<=m->(Zmg x m<=d ↔ Zdu x d=true)
 | .mk k n b l,m,0,h=>by
  have:=Zi6 l m 1
  rw[Zmg,Zdu]
  simp;omega
 | .mk k n b l,m,d+1,h=>by
  rw[Zmg,Zdu,Zhr l m 1 d (by omega)]
  simp
theorem Zhr:∀(l:List It) (m n d:Nat),d+1<=m->(Zev l m n<=d+1 ↔ n<=d+1/\Zdg l d=true)
 | [],m,n,d,h=>by rw[Zev,Zdg];simp
 | x::l,0,n,d,h=>by omega
 | x::l,m+1,n,d,h=>by
  rw[Zev,Zdg,Bool.and_eq_true,Zhr l (m+1) _ d (by omega),<- Zmh x m d (by omega)]
  split
  ·exact⟨fun⟨h1,h2⟩=>⟨by omega,by omega,h2⟩,fun⟨h1,h2,h3⟩=>⟨by omega,h3⟩⟩
  ·exact⟨fun⟨h1,h2⟩=>⟨by omega,by omega,h2⟩,fun⟨h1,h2,h3⟩=>⟨by omega,h3⟩⟩
end
end Go.Proofs.YtakblclkflnnpaaGreatDoor
end
section
open Go.RowKit Go.Pl Go.Av
namespace Go.Proofs.YtakblclkflnnpaaGreatDoor
set_option maxHeartbeats 4000000
theorem Zhs:∀ {l:List It},Zgj l=true->∀ y ∈ l,ZdC y=true
 | x::l,h,y,hy=>by
  rw[Zgj,Bool.and_eq_true]at h
  rcases List.mem_cons.1 hy with rfl|hy
  ·exact h.1
  ·exact Zhs h.2 y hy
theorem ZjD (h:Hd):∃ c t,ZaO h=c::t:=by
 unfold ZaO
 split
 ·exact⟨_,_,rfl⟩
 ·exact⟨_,_,rfl⟩
theorem Zht [Known]:∀(x:It),wfI x->ZdC x=true->(Za6 x).length<=1099511627776->AP Tryz.prog 110 [itD x] (byE (Za6 x)) []:=by
 refine It.ind fun k n b l ih hw hfi hlim=>?_
 obtain⟨hn,hb,hl,hws⟩:=hw
 rw[ZdC,Bool.and_eq_true]at hfi
 obtain⟨ho,hfs⟩:=hfi
 have hlen:=Zas l
 have hk7:=Zek ho
 have hr:ZaX (k,(It.mk k n b l).hn,false)=true:=by simp[ZaX];exact hk7
 have hhn:(It.mk k n b l).hn<18446744073709551616:=by simp only[It.hn];(repeat' split)<;>omega
 have hput:Za6 (.mk k n b l)=ZaO (k,(It.mk k n b l).hn,false)++(b++Zbd l):=by rw[Za6,if_pos hr]
 have hW:=Zhn (k,(It.mk k n b l).hn,false) hr hhn
 obtain⟨c0,t0,hcw⟩:=ZjD (k,(It.mk k n b l).hn,false)
 rw[hput]at hlim ⊢
 rw[hcw]at hW hlim ⊢
 have hU0:=Zbi (c0::t0)
 have hU1:=Zbi b
 clear hr hhn hcw hput
 have eb:IntKind.u64.wrap (((b.map E.byte).length:Nat):Int)=((b.length:Nat):Int):=by rw[List.length_map,IntKind.wrap_u64];omega
 have el:IntKind.u64.wrap (((ZaC l).length:Nat):Int)=((l.length:Nat):Int):=by rw[hlen,IntKind.wrap_u64];omega
 rcases ZfV ho with⟨rfl,rfl,rfl⟩ | ⟨rfl,rfl,rfl⟩ | ⟨rfl,rfl,rfl,_⟩ | ⟨rfl,rfl,rfl⟩
 ·replace hW:AT Tryz.prog _ [.agg [.int .i64 0,.int .u64 (n:Int),.bool false]] [] [] _ [] _:=hW
  refine AP.ofA ?_
  refine Zan Tryz.func110 rfl Tryz.ntmps110 rfl rfl ?_
  repeat'(first|(apply ZaS [] [] (hW);kernel_rfl;(iterate 10 exact Z))|refine Zbj 70 ?_|refine ZbA ?_|(apply Zai Zab;exact Z)|(apply Zah Zab;exact Z)|(apply Zaw Zab;exact Z)|(apply Zaf;exact Z;exact Go.Zqy)|(apply Zao Zab;(iterate 4 exact Z))|(apply ZaH Zab;(iterate 6 exact Z)))
  all_goals(apply Zaz [];(apply Zad Zab;exact Z);(iterate 4 exact Z))
  ·rw[Zbd,List.append_nil,List.append_nil]
  ·rfl
 ·replace hW:AT Tryz.prog _ [.agg [.int .i64 2,.int .u64 (b.length:Int),.bool false]] [] [] _ [] _:=hW
  rcases b with _|⟨c1,b⟩
  ·refine AP.ofA ?_
   refine Zan Tryz.func110 rfl Tryz.ntmps110 rfl rfl ?_
   repeat'(first|rw[eb]|(apply ZaS [] [] (hW);kernel_rfl;(iterate 10 exact Z))|refine Zbj 70 ?_|refine ZbA ?_|(apply Zai Zab;exact Z)|(apply Zah Zab;exact Z)|(apply Zaw Zab;exact Z)|(apply Zac;exact Z;exact Go.Zqy)|(apply Zaf;exact Z;exact Go.Zqy)|(apply Zao Zab;(iterate 4 exact Z))|(apply ZaH Zab;(iterate 6 exact Z)))
   all_goals(apply Zaz [];(apply Zad Zab;exact Z);(iterate 4 exact Z))
   ·rw[Zbd,List.append_nil,List.append_nil]
   ·rfl
  ·refine AP.ofA ?_
   refine Zan Tryz.func110 rfl Tryz.ntmps110 rfl rfl ?_
   repeat'(first|rw[eb]|(apply ZaS [] [] (hW);kernel_rfl;(iterate 10 exact Z))|refine Zbj 70 ?_|refine ZbA ?_|(apply Zai Zab;exact Z)|(apply Zah Zab;exact Z)|(apply Zaw Zab;exact Z)|(apply Zac;exact Z;exact Go.Zqy)|(apply Zaf;exact Z;exact Go.Zqy)|(apply Zao Zab;(iterate 4 exact Z))|(apply ZaI Zab;(iterate 6 exact Z);(first|with_reducible assumption|decide +kernel|exact Z|rotate_left);exact Z;exact Z;(first|exact Zak rfl|with_reducible assumption|decide +kernel|rotate_left);(first|exact Zak rfl|with_reducible assumption|decide +kernel|rotate_left);(first|exact Go.Zqy|rotate_left);(first|exact Go.Zqy|rotate_left);(first|exact Go.Zqy|rotate_left);exact Z;exact Z))
   all_goals first|(apply Zaz [];(apply Zad Zab;exact Z);(iterate 4 exact Z))|(first|rfl|(simp only[List.length_append,List.length_cons,List.length_nil,List.length_map,Zas];done)|(simp only[List.length_append,List.length_cons,List.length_nil,List.length_map,Zas]at *;(try unfold maxLen);(try simp only[Nat.add_mul]);omega))
   ·rw[Zbd,List.append_nil];exact congrArg (D.sl .ext) (List.map_append (f:=E.byte) (l₁:=c0::t0) (l₂:=c1::b)).symm
   ·rfl
 ·replace hW:AT Tryz.prog _ [.agg [.int .i64 3,.int .u64 (b.length:Int),.bool false]] [] [] _ [] _:=hW
  rcases b with _|⟨c1,b⟩
  ·refine AP.ofA ?_
   refine Zan Tryz.func110 rfl Tryz.ntmps110 rfl rfl ?_
   repeat'(first|rw[eb]|(apply ZaS [] [] (hW);kernel_rfl;(iterate 10 exact Z))|refine Zbj 70 ?_|refine ZbA ?_|(apply Zai Zab;exact Z)|(apply Zah Zab;exact Z)|(apply Zaw Zab;exact Z)|(apply Zac;exact Z;exact Go.Zqy)|(apply Zaf;exact Z;exact Go.Zqy)|(apply Zao Zab;(iterate 4 exact Z))|(apply ZaH Zab;(iterate 6 exact Z)))
   all_goals(apply Zaz [];(apply Zad Zab;exact Z);(iterate 4 exact Z))
   ·rw[Zbd,List.append_nil,List.append_nil]
   ·rfl
  ·refine AP.ofA ?_
   refine Zan Tryz.func110 rfl Tryz.ntmps110 rfl rfl ?_
   repeat'(first|rw[eb]|(apply ZaS [] [] (hW);kernel_rfl;(iterate 10 exact Z))|refine Zbj 70 ?_|refine ZbA ?_|(apply Zai Zab;exact Z)|(apply Zah Zab;exact Z)|(apply Zaw Zab;exact Z)|(apply Zac;exact Z;exact Go.Zqy)|(apply Zaf;exact Z;exact Go.Zqy)|(apply Zao Zab;(iterate 4 exact Z))|(apply ZaI Zab;(iterate 6 exact Z);(first|with_reducible assumption|decide +kernel|exact Z|rotate_left);exact Z;exact Z;(first|exact Zak rfl|with_reducible assumption|decide +kernel|rotate_left);(first|exact Zak rfl|with_reducible assumption|decide +kernel|rotate_left);(first|exact Go.Zqy|rotate_left);(first|exact Go.Zqy|rotate_left);(first|exact Go.Zqy|rotate_left);exact Z;exact Z))
   all_goals first|(apply Zaz [];(apply Zad Zab;exact Z);(iterate 4 exact Z))|(first|rfl|(simp only[List.length_append,List.length_cons,List.length_nil,List.length_map,Zas];done)|(simp only[List.length_append,List.length_cons,List.length_nil,List.length_map,Zas]at *;(try unfold maxLen);(try simp only[Nat.add_mul]);omega))
   ·rw[Zbd,List.append_nil];exact congrArg (D.sl .ext) (List.map_append (f:=E.byte) (l₁:=c0::t0) (l₂:=c1::b)).symm
   ·rfl
 ·replace hW:AT Tryz.prog _ [.agg [.int .i64 4,.int .u64 (l.length:Int),.bool false]] [] [] _ [] _:=hW
  refine AP.ofA ?_
  refine Zan Tryz.func110 rfl Tryz.ntmps110 rfl rfl ?_
  repeat'(first|rw[el]|(apply ZaS [] [] (hW);kernel_rfl;(iterate 10 exact Z))|(apply Zai Zab;exact Z)|(apply Zah Zab;exact Z)|(apply Zac;exact Z;exact Go.Zqy)|(apply Zao Zab;(iterate 4 exact Z))|(apply ZaH Zab;(iterate 6 exact Z)))
  refine ZaG (fun f tm bx fr=>∃(i c:Nat) (M:List E),f+i=l.length/\c=M.length/\M=((c0::t0)++Zbd (l.take i)).map E.byte/\tm=[(1,.ptr 0 0),(4,.sl (.own 0) M),(5,.int .i64 (i:Int))]/\bx=[itC 4 0 [] l,[.int .i64 4,.int .u64 (l.length:Int),.bool false]]/\fr=[⟨c,1,5⟩]) (l.length+1) (Lands.mk' (m:=l.length) (Nat.lt_succ_self _) ⟨0,(c0::t0).length,(c0::t0).map E.byte,rfl,by rw[List.length_map],by rw[List.take_zero,Zbd,List.append_nil],rfl,rfl,rfl⟩ ?_ rfl rfl rfl rfl rfl rfl) ?_
  ·exact .cons rfl (.cons rfl (.cons rfl .nil))
  rintro f tm bx fr ⟨i,c,M,hf,hc,hM,rfl,rfl,rfl⟩
  subst hc
  have hU:=Zcd l
  have hUM:Uni 1 M:=by rw[hM];exact Zbi _
  have hMl:M.length=(c0::t0).length+(Zbd (l.take i)).length:=by rw[hM,List.length_map,List.length_append]
  rcases Nat.lt_or_ge i l.length with hlt|hge
  ·have hdl:decide ((i:Int)<((ZaC l).length:Int))=true:=decide_eq_true (by omega)
   obtain⟨⟨k1,n1,b2,l1⟩,hy⟩:∃ y,l[i]?=some y:=⟨_,List.getElem?_eq_getElem hlt⟩
   have hv:(ZaC l)[((i:Nat):Int).toNat]?=some (.agg [.int .i64 k1,.int .u64 (n1:Int),.sl (b2.map E.byte),.sl (ZaC l1)]):=by
    rw[Int.toNat_natCast,ZaL,List.getElem?_map,hy];rfl
   have hmem:=List.mem_of_getElem? hy
   have hps:=ZaJ hy
   have hpl:=ZaT l (i+1)
   have hps2:=congrArg List.length hps
   rw[List.length_append]at hps2
   rw[List.length_append,List.nil_append]at hlim
   have hfy:=Zhs hfs _ hmem
   have hc:=ih _ hmem (Za7 hws _ hmem) hfy (by omega)
   rw[ZdC,Bool.and_eq_true]at hfy
   have hk1:=Zek hfy.1
   have hpos:=Ziy (x:=.mk k1 n1 b2 l1) hk1
   generalize Za6 (.mk k1 n1 b2 l1)=Q at hc hps hps2 hpos
   obtain⟨q0,Q,rfl⟩:∃ q0 Q',Q=q0::Q':=by
    cases Q with
    | nil=>simp at hpos
    | cons q Q=>exact⟨q,Q,rfl⟩
   have hUQ:=Zbi (q0::Q)
   have ei:IntKind.i64.wrap ((i:Int)+1)=((i+1:Nat):Int):=by rw[IntWalk.i64_in _ (by omega)];omega
   repeat'(first|rw[ei]|(apply Zaa (hc);kernel_rfl;(iterate 4 exact Z))|(apply Zai Zab;exact Z)|(apply Zah Zab;exact Z)|(apply Zaw Zab;exact Z)|(apply Zac;exact Z;exact Go.Zqy)|(apply Zao Zab;(iterate 4 exact Z))|(apply ZaI Zab;(iterate 6 exact Z);(first|with_reducible assumption|decide +kernel|exact Z|rotate_left);exact Z;exact Z;(first|exact Zak rfl|with_reducible assumption|decide +kernel|rotate_left);(first|exact Zak rfl|with_reducible assumption|decide +kernel|rotate_left);(first|exact Go.Zqy|rotate_left);(first|exact Go.Zqy|rotate_left);(first|exact Go.Zqy|rotate_left);exact Z;exact Z)|(apply Zav Zab;(iterate 6 exact Z);(first|exact Go.Zqy|rotate_left);(first|with_reducible assumption|decide +kernel|exact Z);(first|exact Zak rfl|with_reducible assumption|decide +kernel|rotate_left)))
   all_goals first|(first|rfl|(simp only[List.length_append,List.length_cons,List.length_nil,List.length_map,Zas];done)|(simp only[List.length_append,List.length_cons,List.length_nil,List.length_map,Zas]at *;(try unfold maxLen);(try simp only[Nat.add_mul]);omega))|skip
   refine Lands.mk' (m:=f-1) (by omega) ⟨i+1,M.length+((q0::Q).map E.byte).length,M++(q0::Q).map E.byte,by omega,by rw[List.length_append],by rw[hM,hps,<- List.map_append,List.append_assoc],rfl,rfl,rfl⟩ ?_ rfl rfl rfl rfl rfl rfl
   exact .cons rfl (.cons rfl (.cons rfl .nil))
  ·have hdl:decide ((i:Int)<((ZaC l).length:Int))=false:=decide_eq_false (by omega)
   rw[List.take_of_length_le hge]at hM
   repeat'(first|(apply Zai Zab;exact Z)|(apply Zah Zab;exact Z)|(apply Zaw Zab;exact Z)|(apply Zaf;exact Z;exact Go.Zqy)|(apply Zao Zab;(iterate 4 exact Z)))
   all_goals(apply Zaz [];(apply Zad Zab;exact Z);(iterate 4 exact Z))
   ·rw[hM];rfl
   ·rfl
end Go.Proofs.YtakblclkflnnpaaGreatDoor
end
