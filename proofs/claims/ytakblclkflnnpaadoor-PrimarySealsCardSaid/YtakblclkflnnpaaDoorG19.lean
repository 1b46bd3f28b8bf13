/- The document's powers of two, tails and heads' bytes; the bytes lie in a row of their own. -/
import Derived.Test.YtakblclkflnnpaaDoorG17
import Derived.Test.YtakblclkflnnpaaDoorG09
import Derived.Test.YtakblclkflnnpaaDoorG18
set_option linter.unusedVariables false
set_option linter.unusedSimpArgs false
section
open Go.RowKit Go.Pl Go.Av
namespace Go.Proofs.YtakblclkflnnpaaDoor
set_option maxHeartbeats 1000000
theorem Zc5 [Known](n:Nat)(hn:n<=32):AP Tryd.prog 104 [.int .i64 (n:Int)] (.int .u64 ((2 ^ n:Nat):Int)) []:=by
 refine Zao Tryd.func104 rfl Tryd.ntmps104 rfl rfl ?_
 repeat'(first|(apply Zah Zab;exact Z))
 refine ZaC (fun k tm bx fr=>∃ i,k+i=n/\tm=[(0,.int .i64 (n:Int)),(3,.int .u64 ((2 ^ i:Nat):Int)),(4,.int .i64 (i:Int))]/\bx=[]/\fr=[]) (n+1) (Lands.mk' (m:=n) (Nat.lt_succ_self _) ⟨0,rfl,rfl,rfl,rfl⟩ ?_ rfl rfl rfl rfl rfl rfl) ?_
 ·exact .cons rfl (.cons rfl (.cons rfl .nil))
 rintro k tm bx fr ⟨i,hk,rfl,rfl,rfl⟩
 rcases Nat.lt_or_ge i n with hlt|hge
 ·have hd:decide ((i:Int)<(n:Int))=true:=by simp;omega
  have hp:2 ^ (i+1)<=2 ^ 32:=Nat.pow_le_pow_right (by decide) (by omega)
  have hp':2 ^ (i+1)=2*2 ^ i:=by rw[Nat.pow_succ];omega
  have e1:IntKind.u64.wrap (2*((2 ^ i:Nat):Int))=((2 ^ (i+1):Nat):Int):=by rw[IntKind.wrap_u64];omega
  have e2:IntKind.i64.wrap ((i:Int)+1)=((i+1:Nat):Int):=by rw[IntWalk.i64_in _ (by omega)];omega
  repeat'(first|rw[e1]|rw[e2]|(apply Zah Zab;exact Z)|(apply Zac;exact Z;(first|with_reducible assumption|(solve|simp only[bn])))|refine Zcp ?_)
  refine Lands.mk' (m:=k-1) (by omega) ⟨i+1,by omega,rfl,rfl,rfl⟩ ?_ rfl rfl rfl rfl rfl rfl
  exact .cons rfl (.cons rfl (.cons rfl .nil))
 ·have hd:decide ((i:Int)<(n:Int))=false:=by simp;omega
  repeat'(first|(apply Zah Zab;exact Z)|(apply Zae;exact Z;(first|with_reducible assumption|(solve|simp only[bn]))))
  (apply ZlS (ts:=[]);(apply Zad Zab;exact Z);exact Za2 _;exact Z;rotate_left;exact Z)
  obtain rfl:i=n:=by omega
  rfl
theorem Zf3 (n k:Nat):beN n (k+1)=UInt8.ofNat (n/256 ^ k)::beN n k:=by
 unfold beN
 rw[List.range_succ_eq_map,List.map_cons,List.map_map]
 congr 1
 apply List.map_congr_left
 intro i hi
 have hi:i<k:=by simpa using hi
 simp only[Function.comp]
 rw[show k+1-1-i.succ=k-1-i from by omega]
theorem Zfo [Known](n f:Nat)(hn:n<18446744073709551616)(hf:f<=8):AP Tryd.prog 105 [.int .u64 (n:Int),.int .i64 (f:Int)] (byE (beN n f)) []:=by
 refine AP.weak ?_
 refine Zao Tryd.func105 rfl Tryd.ntmps105 rfl rfl ?_
 repeat'(first|(apply Zah Zab;exact Z))
 refine ZaC (fun k tm bx fr=>∃ i,k+i=f/\tm=[(0,.int .u64 ((n/256 ^ i:Nat):Int)),(1,.int .i64 (f:Int)),(5,byE (beN n i)),(6,.int .i64 (i:Int))]/\bx=[]/\fr=[]) (f+1) (Lands.mk' (m:=f) (Nat.lt_succ_self _) ⟨0,rfl,rfl,rfl,rfl⟩ ?_ rfl rfl rfl rfl rfl rfl) ?_
 ·refine .cons ?_ (.cons rfl (.wk rfl (.cons rfl .nil)))
  rw[Nat.pow_zero,Nat.div_one];rfl
 rintro k tm bx fr ⟨i,hk,rfl,rfl,rfl⟩
 have hle:n/256 ^ i<=n:=Nat.div_le_self _ _
 have hdd:n/256 ^ (i+1)=n/256 ^ i/256:=by rw[Nat.pow_succ,Nat.div_div_eq_div_mul]
 rcases Nat.lt_or_ge i f with hlt|hge
 ·have hd:decide ((i:Int)<(f:Int))=true:=by simp;omega
  have e1:E.int .u8 (IntKind.u8.wrap (((n/256 ^ i:Nat):Int).tmod 256))=E.byte (UInt8.ofNat (n/256 ^ i)):=by
   unfold E.byte
   rw[IntKind.wrap_u8',UInt8.toNat_ofNat',Int.tmod_eq_emod_of_nonneg (Int.natCast_nonneg _)]
   congr 1
   omega
  have e2:IntKind.i64.wrap ((i:Int)+1)=((i+1:Nat):Int):=by rw[IntWalk.i64_in _ (by omega)];omega
  have e3:IntKind.u64.wrap (((n/256 ^ i:Nat):Int).tdiv 256)=((n/256 ^ (i+1):Nat):Int):=by
   rw[hdd]
   generalize n/256 ^ i=q at hle
   rw[Int.tdiv_eq_ediv_of_nonneg (Int.natCast_nonneg _),IntKind.wrap_u64];omega
  have hU:=Zbg (beN n i)
  have hne:i ≠ 0->(beN n i).map E.byte ≠ []:=fun h0 e=>by
   have:=congrArg List.length e
   rw[List.length_map,ZaZ]at this
   exact h0 this
  have hlb:=ZaZ n i
  rcases Nat.eq_zero_or_pos i with rfl|h0
  ·repeat'(first|rw[e2]|rw[e3]|(apply Zaj Zab;exact Z)|(apply Zah Zab;exact Z)|(apply Zac;exact Z;(first|with_reducible assumption|(solve|simp only[bn])))|(apply ZfQ Zab;(iterate 12 exact Z))|(apply ZaE Zab;(iterate 6 exact Z))|(apply ZeH;exact Z;exact Z;(first|exact Qb|rotate_left);exact Z)|(apply ZeI;exact Z;exact Z;(first|exact Qb|rotate_left);exact Z))
   refine Lands.mk' (m:=k-1) (by omega) ⟨1,by omega,rfl,rfl,rfl⟩ ?_ rfl rfl rfl rfl rfl rfl
   refine .cons rfl (.cons rfl (.wk ?_ (.cons rfl .nil)))
   rw[Zf3]
   exact congrArg (fun x=>D.sl .ext [x]) e1
  ·have hne:=hne (by omega)
   repeat'(first|rw[e2]|rw[e3]|(apply Zaj Zab;exact Z)|(apply Zah Zab;exact Z)|(apply Zac;exact Z;(first|with_reducible assumption|(solve|simp only[bn])))|(apply ZfQ Zab;(iterate 12 exact Z))|(apply ZaI Zab;(iterate 6 exact Z);(first|with_reducible assumption|exact Z|rotate_left);exact Z;exact Z;(first|exact Zag rfl|with_reducible assumption|rotate_left);(first|exact Zag rfl|with_reducible assumption|rotate_left);(first|exact Qb|rotate_left);(first|exact Qb|rotate_left);(first|exact Qb|rotate_left);exact Z;exact Z)|(apply ZeH;exact Z;exact Z;(first|exact Qb|rotate_left);exact Z)|(apply ZeI;exact Z;exact Z;(first|exact Qb|rotate_left);exact Z))
   ·refine Lands.mk' (m:=k-1) (by omega) ⟨i+1,by omega,rfl,rfl,rfl⟩ ?_ rfl rfl rfl rfl rfl rfl
    refine .cons rfl (.cons rfl (.wk ?_ (.cons rfl .nil)))
    rw[Zf3]
    exact congrArg (fun x=>D.sl .ext (x::(beN n i).map E.byte)) e1
   ·show 1+((beN n i).map E.byte).length<=maxLen
    rw[List.length_map,hlb];unfold maxLen;omega
   ·show(1+((beN n i).map E.byte).length)*1<=140737488355328
    rw[List.length_map,hlb];omega
 ·have hd:decide ((i:Int)<(f:Int))=false:=by simp;omega
  repeat'(first|(apply Zah Zab;exact Z)|(apply Zae;exact Z;(first|with_reducible assumption|(solve|simp only[bn]))))
  (apply Zmt;(apply Zad Zab;exact Z);exact Z)
  obtain rfl:i=f:=by omega
  rfl
theorem Zcy (m:Int)(i:Nat)(hm:0<=m/\m<=7)(hi:i<32):IntKind.u8.wrap (IntKind.u8.wrap (IntKind.i64.wrap (32*m))+(i:Int))=((ZbH m.toNat i).toNat:Int):=by
 unfold ZbH
 rw[IntWalk.i64_in _ (by omega),IntKind.wrap_u8',IntKind.wrap_u8',UInt8.toNat_ofNat']
 omega
theorem Zi8 (n:Nat)(h:¬ n<24):(n<256->ZaH n=1/\Zbl n=24)/\(256<=n->n<65536->ZaH n=2/\Zbl n=25)/\(65536<=n->n<4294967296->ZaH n=4/\Zbl n=26)/\(4294967296<=n->ZaH n=8/\Zbl n=27):=by
 unfold ZaH Zbl
 refine⟨fun h1=>?_,fun h1 h2=>?_,fun h1 h2=>?_,fun h1=>?_⟩
 ·simp[h,h1]
 ·simp[h,h2,show ¬ n<256 by omega]
 ·simp[h,h2,show ¬ n<256 by omega,show ¬ n<65536 by omega]
 ·simp[h,show ¬ n<256 by omega,show ¬ n<65536 by omega,show ¬ n<4294967296 by omega]
theorem Zf4 [Known](h:Hd)(hr:Za8 h=true)(hn:h.2.1<18446744073709551616):AT Tryd.prog 88 [hd h] [] [] (.sl (.own 0) ((ZaR h).map E.byte)) [] [⟨(ZaR h).length,1,5⟩]:=by
 have hm:=ZiW hr
 have HN:=hid hn
 clear hn
 refine Zao Tryd.func88 rfl Tryd.ntmps88 rfl rfl ?_
 repeat'(first|(apply Zaj Zab;exact Z)|(apply Zah Zab;exact Z)|(apply Zcf;exact Z;all_goals intro hb)|(apply Za0 Zab;(iterate 12 exact Z)))
 ·(apply ZdS [] [0];(apply Zad Zab;exact Z);(iterate 7 exact Z))
  ·have hb':h.2.2=true:=hb
   rw[show ZaR h=[ZbH h.1.toNat 31] by simp[ZaR,hb']]
   exact congrArg (fun x:Int=>D.sl (.own 0) [E.int .u8 x]) (Zcy h.1 31 hm (by decide))
  ·rfl
  ·(have hb':h.2.2=true:=hb);rw[show ZaR h=[ZbH h.1.toNat 31] by simp[ZaR,hb']];rfl
 ·(apply ZdS [] [0];(apply Zad Zab;exact Z);(iterate 7 exact Z))
  ·have hb':h.2.2=false := ‹_›
   have h24:=of_decide_eq_true hb
   have h24':h.2.1<24:=by omega
   rw[show ZaR h=[ZbH h.1.toNat h.2.1] by simp[ZaR,hb',Zbl,ZaH,h24',beN]]
   have e1:IntKind.u8.wrap ((h.2.1:Nat):Int)=((h.2.1:Nat):Int):=by rw[IntKind.wrap_u8'];omega
   have e:=congrArg (fun x:Int=>D.sl (.own 0) [E.int .u8 x]) (Zcy h.1 h.2.1 hm (by omega))
   rw[<- e1]at e
   exact e
  ·rfl
  ·(have hb':h.2.2=false := ‹_›);(have h24:=of_decide_eq_true hb);(have h24':h.2.1<24:=by omega);rw[show ZaR h=[ZbH h.1.toNat h.2.1] by simp[ZaR,hb',Zbl,ZaH,h24',beN]];rfl
 have hb':h.2.2=false := ‹_›
 have h24:¬ h.2.1<24:=by have:=of_decide_eq_false hb;omega
 have hw:ZaR h=ZbH h.1.toNat (Zbl h.2.1)::beN h.2.1 (ZaH h.2.1):=by simp[ZaR,hb']
 have hfs:=Zi8 h.2.1 h24
 refine ZaC (fun k tm bx fr=>∃ sz inf:Int,((k=3/\sz=1/\inf=24)\/(k=2/\sz=2/\inf=25/\256<=h.2.1)\/(k=1/\sz=4/\inf=26/\65536<=h.2.1)\/(k=0/\sz=8/\inf=27/\4294967296<=h.2.1))/\tm=[(1,.ptr 0 0),(3,.int .u8 (IntKind.u8.wrap (IntKind.i64.wrap (32*h.1)))),(4,.int .i64 sz),(5,.int .u8 inf)]/\bx=[[.int .i64 h.1,.int .u64 (h.2.1:Int),.bool h.2.2]]/\fr=[]) 4 (Lands.mk' (m:=3) (by decide) ⟨1,24,.inl ⟨rfl,rfl,rfl⟩,rfl,rfl,rfl⟩ ?_ rfl rfl rfl rfl rfl rfl) ?_
 ·exact .cons rfl (.cons rfl (.cons rfl (.cons rfl .nil)))
 rintro k tm bx fr ⟨sz,inf,hc,rfl,rfl,rfl⟩
 rcases hc with⟨rfl,rfl,rfl⟩ | ⟨rfl,rfl,rfl,hge⟩ | ⟨rfl,rfl,rfl,hge⟩ | ⟨rfl,rfl,rfl,hge⟩
 ·have hd:decide ((1:Int)<8)=true:=by decide
  rcases Nat.lt_or_ge h.2.1 256 with hlt|hge2
  ·have hq:decide ((h.2.1:Int) ≥ ((2 ^ 8:Nat):Int))=false:=by
    rw[show((2 ^ 8:Nat):Int)=256 from rfl];simp;omega
   have hf:=hfs.1 hlt
   have hU:=Zbg (beN h.2.1 1)
   repeat'(first|(apply Zaa (Zc5 8 (by decide));kernel_rfl;(iterate 4 exact Z))|(apply Zaa (Zfo h.2.1 1 HN.out (by decide));kernel_rfl;(iterate 4 exact Z))|(apply ZbN Zab;(iterate 11 exact Z);exact Zag rfl;exact Zag rfl;exact List.cons_ne_nil _ _;decide +kernel;decide +kernel;exact Z;exact Z)|(apply Zaj Zab;exact Z)|(apply Zah Zab;exact Z)|(apply Zay Zab;exact Z)|(apply Zaf;(iterate 3 exact Z);exact Qt)|(apply Zam;exact Z;exact Qt;exact Z;exact Z)|(apply Zae;exact Z;exact Qt)|(apply Za0 Zab;(iterate 12 exact Z))|(apply Zap 8 ZaY;decide +kernel;kernel_rfl;kernel_rfl;kernel_rfl;exact Z;exact Z)|(apply Zas;(iterate 4 exact Z))|exact AE.nil _ _ _ _|(apply Zau;exact Z)|(apply ZaA;exact Z;exact Z;decide +kernel;exact Z)|(apply ZaB;exact Z)|exact AO.nil _ _ _|(apply Zar;(decide +kernel))|exact AOs.nil|exact ZaN rfl rfl)
   ·(apply ZdS [] [0];(apply Zad Zab;exact Z);(iterate 7 exact Z))
    ·have e:=congrArg (fun x:Int=>D.sl (.own 0) (E.int .u8 x::(beN h.2.1 1).map E.byte)) (Zcy h.1 24 hm (by decide))
     rw[hw,hf.1,hf.2]
     exact e
    ·rfl
    ·simp only[hw,hf.1,List.length_cons,List.length_nil,List.length_map,ZaZ];rfl
  ·have hq:decide ((h.2.1:Int) ≥ ((2 ^ 8:Nat):Int))=true:=by
    rw[show((2 ^ 8:Nat):Int)=256 from rfl];simp;omega
   repeat'(first|(apply Zaa (Zc5 8 (by decide));kernel_rfl;(iterate 4 exact Z))|(apply Zaj Zab;exact Z)|(apply Zah Zab;exact Z)|(apply Zay Zab;exact Z)|(apply Zaf;(iterate 3 exact Z);exact Qt)|(apply Zam;exact Z;exact Qt;exact Z;exact Z)|(apply Zac;exact Z;exact Qt)|refine Zcp ?_|(apply Zap 8 ZaY;decide +kernel;kernel_rfl;kernel_rfl;kernel_rfl;exact Z;exact Z)|(apply Zas;(iterate 4 exact Z))|exact AE.nil _ _ _ _|(apply Zau;exact Z)|(apply ZaA;exact Z;exact Z;decide +kernel;exact Z)|(apply ZaB;exact Z)|exact AO.nil _ _ _|(apply Zar;(decide +kernel))|exact AOs.nil|exact ZaN rfl rfl)
   refine Lands.mk' (m:=2) (by decide) ⟨2,25,.inr (.inl ⟨rfl,rfl,rfl,hge2⟩),rfl,rfl,rfl⟩ ?_ rfl rfl rfl rfl rfl rfl
   exact .cons rfl (.cons rfl (.cons rfl (.cons rfl .nil)))
 ·have hd:decide ((2:Int)<8)=true:=by decide
  rcases Nat.lt_or_ge h.2.1 65536 with hlt|hge2
  ·have hq:decide ((h.2.1:Int) ≥ ((2 ^ 16:Nat):Int))=false:=by
    rw[show((2 ^ 16:Nat):Int)=65536 from rfl];simp;omega
   have hf:=hfs.2.1 hge hlt
   have hU:=Zbg (beN h.2.1 2)
   repeat'(first|(apply Zaa (Zc5 16 (by decide));kernel_rfl;(iterate 4 exact Z))|(apply Zaa (Zfo h.2.1 2 HN.out (by decide));kernel_rfl;(iterate 4 exact Z))|(apply ZbN Zab;(iterate 11 exact Z);exact Zag rfl;exact Zag rfl;exact List.cons_ne_nil _ _;decide +kernel;decide +kernel;exact Z;exact Z)|(apply Zaj Zab;exact Z)|(apply Zah Zab;exact Z)|(apply Zay Zab;exact Z)|(apply Zaf;(iterate 3 exact Z);exact Qt)|(apply Zam;exact Z;exact Qt;exact Z;exact Z)|(apply Zae;exact Z;exact Qt)|(apply Za0 Zab;(iterate 12 exact Z))|(apply Zap 8 ZaY;decide +kernel;kernel_rfl;kernel_rfl;kernel_rfl;exact Z;exact Z)|(apply Zas;(iterate 4 exact Z))|exact AE.nil _ _ _ _|(apply Zau;exact Z)|(apply ZaA;exact Z;exact Z;decide +kernel;exact Z)|(apply ZaB;exact Z)|exact AO.nil _ _ _|(apply Zar;(decide +kernel))|exact AOs.nil|exact ZaN rfl rfl)
   ·(apply ZdS [] [0];(apply Zad Zab;exact Z);(iterate 7 exact Z))
    ·have e:=congrArg (fun x:Int=>D.sl (.own 0) (E.int .u8 x::(beN h.2.1 2).map E.byte)) (Zcy h.1 25 hm (by decide))
     rw[hw,hf.1,hf.2]
     exact e
    ·rfl
    ·simp only[hw,hf.1,List.length_cons,List.length_nil,List.length_map,ZaZ];rfl
  ·have hq:decide ((h.2.1:Int) ≥ ((2 ^ 16:Nat):Int))=true:=by
    rw[show((2 ^ 16:Nat):Int)=65536 from rfl];simp;omega
   repeat'(first|(apply Zaa (Zc5 16 (by decide));kernel_rfl;(iterate 4 exact Z))|(apply Zaj Zab;exact Z)|(apply Zah Zab;exact Z)|(apply Zay Zab;exact Z)|(apply Zaf;(iterate 3 exact Z);exact Qt)|(apply Zam;exact Z;exact Qt;exact Z;exact Z)|(apply Zac;exact Z;exact Qt)|refine Zcp ?_|(apply Zap 8 ZaY;decide +kernel;kernel_rfl;kernel_rfl;kernel_rfl;exact Z;exact Z)|(apply Zas;(iterate 4 exact Z))|exact AE.nil _ _ _ _|(apply Zau;exact Z)|(apply ZaA;exact Z;exact Z;decide +kernel;exact Z)|(apply ZaB;exact Z)|exact AO.nil _ _ _|(apply Zar;(decide +kernel))|exact AOs.nil|exact ZaN rfl rfl)
   refine Lands.mk' (m:=1) (by decide) ⟨4,26,.inr (.inr (.inl ⟨rfl,rfl,rfl,hge2⟩)),rfl,rfl,rfl⟩ ?_ rfl rfl rfl rfl rfl rfl
   exact .cons rfl (.cons rfl (.cons rfl (.cons rfl .nil)))
 ·have hd:decide ((4:Int)<8)=true:=by decide
  rcases Nat.lt_or_ge h.2.1 4294967296 with hlt|hge2
  ·have hq:decide ((h.2.1:Int) ≥ ((2 ^ 32:Nat):Int))=false:=by
    rw[show((2 ^ 32:Nat):Int)=4294967296 from rfl];simp;omega
   have hf:=hfs.2.2.1 hge hlt
   have hU:=Zbg (beN h.2.1 4)
   repeat'(first|(apply Zaa (Zc5 32 (by decide));kernel_rfl;(iterate 4 exact Z))|(apply Zaa (Zfo h.2.1 4 HN.out (by decide));kernel_rfl;(iterate 4 exact Z))|(apply ZbN Zab;(iterate 11 exact Z);exact Zag rfl;exact Zag rfl;exact List.cons_ne_nil _ _;decide +kernel;decide +kernel;exact Z;exact Z)|(apply Zaj Zab;exact Z)|(apply Zah Zab;exact Z)|(apply Zay Zab;exact Z)|(apply Zaf;(iterate 3 exact Z);exact Qt)|(apply Zam;exact Z;exact Qt;exact Z;exact Z)|(apply Zae;exact Z;exact Qt)|(apply Za0 Zab;(iterate 12 exact Z))|(apply Zap 8 ZaY;decide +kernel;kernel_rfl;kernel_rfl;kernel_rfl;exact Z;exact Z)|(apply Zas;(iterate 4 exact Z))|exact AE.nil _ _ _ _|(apply Zau;exact Z)|(apply ZaA;exact Z;exact Z;decide +kernel;exact Z)|(apply ZaB;exact Z)|exact AO.nil _ _ _|(apply Zar;(decide +kernel))|exact AOs.nil|exact ZaN rfl rfl)
   ·(apply ZdS [] [0];(apply Zad Zab;exact Z);(iterate 7 exact Z))
    ·have e:=congrArg (fun x:Int=>D.sl (.own 0) (E.int .u8 x::(beN h.2.1 4).map E.byte)) (Zcy h.1 26 hm (by decide))
     rw[hw,hf.1,hf.2]
     exact e
    ·rfl
    ·simp only[hw,hf.1,List.length_cons,List.length_nil,List.length_map,ZaZ];rfl
  ·have hq:decide ((h.2.1:Int) ≥ ((2 ^ 32:Nat):Int))=true:=by
    rw[show((2 ^ 32:Nat):Int)=4294967296 from rfl];simp;omega
   repeat'(first|(apply Zaa (Zc5 32 (by decide));kernel_rfl;(iterate 4 exact Z))|(apply Zaj Zab;exact Z)|(apply Zah Zab;exact Z)|(apply Zay Zab;exact Z)|(apply Zaf;(iterate 3 exact Z);exact Qt)|(apply Zam;exact Z;exact Qt;exact Z;exact Z)|(apply Zac;exact Z;exact Qt)|refine Zcp ?_|(apply Zap 8 ZaY;decide +kernel;kernel_rfl;kernel_rfl;kernel_rfl;exact Z;exact Z)|(apply Zas;(iterate 4 exact Z))|exact AE.nil _ _ _ _|(apply Zau;exact Z)|(apply ZaA;exact Z;exact Z;decide +kernel;exact Z)|(apply ZaB;exact Z)|exact AO.nil _ _ _|(apply Zar;(decide +kernel))|exact AOs.nil|exact ZaN rfl rfl)
   refine Lands.mk' (m:=0) (by decide) ⟨8,27,.inr (.inr (.inr ⟨rfl,rfl,rfl,hge2⟩)),rfl,rfl,rfl⟩ ?_ rfl rfl rfl rfl rfl rfl
   exact .cons rfl (.cons rfl (.cons rfl (.cons rfl .nil)))
 ·have hd:decide ((8:Int)<8)=false:=by decide
  have hf:=hfs.2.2.2 hge
  have hU:=Zbg (beN h.2.1 8)
  repeat'(first|(apply Zaa (Zfo h.2.1 8 HN.out (by decide));kernel_rfl;(iterate 4 exact Z))|(apply ZbN Zab;(iterate 11 exact Z);exact Zag rfl;exact Zag rfl;exact List.cons_ne_nil _ _;decide +kernel;decide +kernel;exact Z;exact Z)|(apply Zaj Zab;exact Z)|(apply Zah Zab;exact Z)|(apply Zay Zab;exact Z)|(apply Zav;(iterate 3 exact Z);exact Qt)|(apply Zai;exact Z;exact Qt;exact Z;exact Z)|(apply Zae;exact Z;exact Qt)|(apply Za0 Zab;(iterate 12 exact Z))|(apply Zap 8 ZaY;decide +kernel;kernel_rfl;kernel_rfl;kernel_rfl;exact Z;exact Z)|(apply Zas;(iterate 4 exact Z))|exact AE.nil _ _ _ _|(apply Zau;exact Z)|(apply ZaA;exact Z;exact Z;decide +kernel;exact Z)|(apply ZaB;exact Z)|exact AO.nil _ _ _|(apply Zar;(decide +kernel))|exact AOs.nil|exact ZaN rfl rfl)
  ·(apply ZdS [] [0];(apply Zad Zab;exact Z);(iterate 7 exact Z))
   ·have e:=congrArg (fun x:Int=>D.sl (.own 0) (E.int .u8 x::(beN h.2.1 8).map E.byte)) (Zcy h.1 27 hm (by decide))
    rw[hw,hf.1,hf.2]
    exact e
   ·rfl
   ·simp only[hw,hf.1,List.length_cons,List.length_nil,List.length_map,ZaZ];rfl
end Go.Proofs.YtakblclkflnnpaaDoor
end
section
open Go.RowKit Go.Pl Go.Av
namespace Go.Proofs.YtakblclkflnnpaaDoor
set_option maxHeartbeats 4000000
mutual
def Zcn:It->Nat->Nat
 | .mk k n b l,m=>ZbW l m 1
def ZbW:List It->Nat->Nat->Nat
 | [],_,n=>n
 | x::l,m,n=>if n<=m then ZbW l m (n+Zcn x m) else n
end
theorem Zf5:∀(l:List It) (m n:Nat),n<=ZbW l m n
 | [],m,n=>by rw[ZbW];omega
 | x::l,m,n=>by
  rw[ZbW]
  split
  ·have:=Zf5 l m (n+Zcn x m);omega
  ·omega
mutual
theorem Zfp:∀(x:It) (m:Nat),Zcn x m<=Zbq x
 | .mk k n b l,m=>by
  rw[Zcn,Zbq]
  have:=Zf6 l m 1
  omega
theorem Zf6:∀(l:List It) (m n:Nat),ZbW l m n<=n+Za6 l
 | [],m,n=>by rw[ZbW];omega
 | x::l,m,n=>by
  rw[ZbW,Za6]
  split
  ·have h1:=Zfp x m
   have h2:=Zf6 l m (n+Zcn x m)
   omega
  ·omega
end
mutual
theorem Zhs:∀(x:It) (m:Nat),Zcn x m<=m->Zbq x=Zcn x m
 | .mk k n b l,m,h=>by
  rw[Zcn]at h ⊢
  rw[Zbq]
  exact Zf7 l m 1 h
theorem Zf7:∀(l:List It) (m n:Nat),ZbW l m n<=m->n+Za6 l=ZbW l m n
 | [],m,n,h=>by rw[ZbW,Za6];omega
 | x::l,m,n,h=>by
  rw[ZbW]at h ⊢
  rw[Za6]
  split at h
  ·rename_i hn
   rw[if_pos hn]
   have h1:=Zf5 l m (n+Zcn x m)
   have h2:=Zhs x m (by omega)
   have h3:=Zf7 l m (n+Zcn x m) h
   omega
  ·omega
end
mutual
def Zfy:It->Nat->Nat
 | .mk k n b l,m=>ZcK l m 1
def ZcK:List It->Nat->Nat->Nat
 | [],_,n=>n
 | x::l,0,n=>n
 | x::l,m+1,n=>ZcK l (m+1) (if n<1+Zfy x m then 1+Zfy x m else n)
end
theorem Zht:∀(l:List It) (m n:Nat),n<=ZcK l m n
 | [],m,n=>by rw[ZcK];omega
 | x::l,0,n=>by rw[ZcK];omega
 | x::l,m+1,n=>by
  rw[ZcK]
  have:=Zht l (m+1) (if n<1+Zfy x m then 1+Zfy x m else n)
  split at this<;>(try split)<;>omega
mutual
theorem Zi9:∀(x:It) (m:Nat),Zfy x m<=m+1
 | .mk k n b l,m=>by
  rw[Zfy]
  exact Zhu l m 1 (by omega)
theorem Zhu:∀(l:List It) (m n:Nat),n<=m+1->ZcK l m n<=m+1
 | [],m,n,h=>by rw[ZcK];omega
 | x::l,0,n,h=>by rw[ZcK];omega
 | x::l,m+1,n,h=>by
  rw[ZcK]
  have:=Zi9 x m
  exact Zhu l (m+1) _ (by split<;>omega)
end
mutual
theorem Zhv:∀(x:It) (m d:Nat),d<=m->(Zfy x m<=d ↔ Zbp x d=true)
 | .mk k n b l,m,0,h=>by
  have:=Zht l m 1
  rw[Zfy,Zbp]
  simp;omega
 | .mk k n b l,m,d+1,h=>by
  rw[Zfy,Zbp,Zf8 l m 1 d (by omega)]
  simp
theorem Zf8:∀(l:List It) (m n d:Nat),d+1<=m->(ZcK l m n<=d+1 ↔ n<=d+1/\ZbA l d=true)
 | [],m,n,d,h=>by rw[ZcK,ZbA];simp
 | x::l,0,n,d,h=>by omega
 | x::l,m+1,n,d,h=>by
  rw[ZcK,ZbA,Bool.and_eq_true,Zf8 l (m+1) _ d (by omega),<- Zhv x m d (by omega)]
  split
  ·exact⟨fun⟨h1,h2⟩=>⟨by omega,by omega,h2⟩,fun⟨h1,h2,h3⟩=>⟨by omega,h3⟩⟩
  ·exact⟨fun⟨h1,h2⟩=>⟨by omega,by omega,h2⟩,fun⟨h1,h2,h3⟩=>⟨by omega,h3⟩⟩
end
theorem Zja (x:It):(decide (Zfy x 7<=6)&&(decide (Zcn x 257<=256)&&Zbw x))=Zaw x:=by
 rw[ZbR]
 have h1:=Zhv x 7 6 (by omega)
 have h2:=Zfp x 257
 have h3:Zcn x 257<=256->Zbq x=Zcn x 257:=fun h=>Zhs x 257 (by omega)
 have e1:decide (Zfy x 7<=6)=Zbp x 6:=by
  cases hd:Zbp x 6 with
  | true=>exact decide_eq_true (h1.2 hd)
  | false=>exact decide_eq_false fun h=>by rw[h1.1 h]at hd;cases hd
 have e2:decide (Zcn x 257<=256)=decide (Zbq x<=256):=by
  rw[decide_eq_decide]
  exact⟨fun h=>by have:=h3 h;omega,fun h=>by omega⟩
 rw[e1,e2]
theorem Zeq:∀ {l:List It},∀ y ∈ l,Zbq y<=Za6 l
 | x::l,y,hy=>by
  rw[Za6]
  rcases List.mem_cons.1 hy with rfl|hy
  ·omega
  ·have:=Zeq y hy;omega
theorem Zlp [Known](m:Nat)(hm:m<=1000):∀(x:It),Zbq x<=1000->AP Tryd.prog 69 [itD x,.int .i64 (m:Int)] (.int .i64 (Zcn x m:Int)) []:=by
 refine It.ind fun k n b l ih hs=>?_
 rw[Zbq]at hs
 have hlen:=Zal l
 have hll:l.length<=Za6 l:=by
  clear ih hs hlen
  induction l with
  | nil=>rw[Za6];exact Nat.le_refl _
  | cons x l ih=>
   obtain⟨k',n',b',l'⟩:=x
   rw[Za6,Zbq,List.length_cons];omega
 show AP Tryd.prog _ [.agg (itC k n b l),_] _ _
 rw[Zcn]
 generalize hfin:ZbW l m 1=fin
 refine AP.ofA ?_
 refine Zao Tryd.func69 rfl Tryd.ntmps69 rfl rfl ?_
 repeat'(first|(apply Zah Zab;exact Z))
 refine ZaC (fun f tm bx fr=>∃(i c:Nat),f+i=l.length/\c+Za6 (l.drop i)<=1001/\ZbW (l.drop i) m c=fin/\tm=[(1,.int .i64 (m:Int)),(2,.ptr 0 0),(5,.int .i64 (c:Int)),(6,.int .i64 (i:Int))]/\bx=[itC k n b l]/\fr=[]) (l.length+1) (Lands.mk' (m:=l.length) (Nat.lt_succ_self _) ⟨0,1,rfl,by rw[List.drop_zero];omega,hfin,rfl,rfl,rfl⟩ ?_ rfl rfl rfl rfl rfl rfl) ?_
 ·exact .cons rfl (.cons rfl (.cons rfl (.cons rfl .nil)))
 rintro f tm bx fr ⟨i,c,hf,hc,hfin,rfl,rfl,rfl⟩
 have hU:=Zbs l
 rcases Nat.lt_or_ge i l.length with hlt|hge
 ·have hdl:decide ((i:Int)<((Zan l).length:Int))=true:=decide_eq_true (by omega)
  obtain⟨⟨k1,n1,b1,l1⟩,hy⟩:∃ y,l[i]?=some y:=⟨_,List.getElem?_eq_getElem hlt⟩
  have hv:(Zan l)[((i:Nat):Int).toNat]?=some (.agg [.int .i64 k1,.int .u64 (n1:Int),.sl (b1.map E.byte),.sl (Zan l1)]):=by
   rw[Int.toNat_natCast,Zax,List.getElem?_map,hy];rfl
  have hdr:l.drop i=It.mk k1 n1 b1 l1::l.drop (i+1):=by
   rw[List.drop_eq_getElem_cons hlt];congr 1
   exact(List.getElem?_eq_some_iff.1 hy).2
  rw[hdr,Za6]at hc
  rw[hdr,ZbW]at hfin
  by_cases hcm:c<=m
  ·have hdm:decide ((c:Int)<=(m:Int))=true:=decide_eq_true (by omega)
   rw[if_pos hcm]at hfin
   have hmem:=List.mem_of_getElem? hy
   have hz:=Zeq _ hmem
   have hzl:=Zfp (.mk k1 n1 b1 l1) m
   have hcy:=ih _ hmem (by omega)
   have ei:IntKind.i64.wrap ((i:Int)+1)=((i+1:Nat):Int):=by rw[IntWalk.i64_in _ (by omega)];omega
   generalize hgr:Zcn (.mk k1 n1 b1 l1) m=r at hcy hfin hzl
   have ec:IntKind.i64.wrap ((c:Int)+(r:Int))=((c+r:Nat):Int):=by rw[IntWalk.i64_in _ (by omega)];omega
   repeat'(first|rw[ec]|rw[ei]|(apply Zaa (hcy);kernel_rfl;(iterate 4 exact Z))|(apply Zaj Zab;exact Z)|(apply Zah Zab;exact Z)|(apply Zay Zab;exact Z)|(apply Zaf;(iterate 3 exact Z);exact Qt)|(apply Zam;exact Z;exact Qt;exact Z;exact Z)|(apply Zac;exact Z;exact Qt)|(apply Zak Zab;(iterate 4 exact Z))|(apply Zat Zab;(iterate 6 exact Z);(first|exact Qt|rotate_left);(first|with_reducible assumption|decide +kernel|exact Z);(first|exact Zag rfl|with_reducible assumption|decide +kernel|rotate_left)))
   refine Lands.mk' (m:=f-1) (by omega) ⟨i+1,c+r,by omega,by omega,hfin,rfl,rfl,rfl⟩ ?_ rfl rfl rfl rfl rfl rfl
   exact .cons rfl (.cons rfl (.cons rfl (.cons rfl .nil)))
  ·have hdm:decide ((c:Int)<=(m:Int))=false:=decide_eq_false (by omega)
   rw[if_neg hcm]at hfin
   subst hfin
   repeat'(first|(apply Zaj Zab;exact Z)|(apply Zah Zab;exact Z)|(apply Zay Zab;exact Z)|(apply Zaf;(iterate 3 exact Z);exact Qt)|(apply Zam;exact Z;exact Qt;exact Z;exact Z)|(apply Zae;exact Z;exact Qt)|(apply Zak Zab;(iterate 4 exact Z)))
   all_goals(apply Zaz [];(apply Zad Zab;exact Z);(iterate 4 exact Z))
   all_goals rfl
 ·have hdl:decide ((i:Int)<((Zan l).length:Int))=false:=decide_eq_false (by omega)
  rw[List.drop_eq_nil_of_le hge,ZbW]at hfin
  subst hfin
  repeat'(first|(apply Zaj Zab;exact Z)|(apply Zah Zab;exact Z)|(apply Zay Zab;exact Z)|(apply Zav;(iterate 3 exact Z);exact Qt)|(apply Zai;exact Z;exact Qt;exact Z;exact Z)|(apply Zae;exact Z;exact Qt)|(apply Zak Zab;(iterate 4 exact Z)))
  all_goals(apply Zaz [];(apply Zad Zab;exact Z);(iterate 4 exact Z))
  all_goals rfl
theorem Zlq [Known]:∀(x:It),wfI x->∀ m:Nat,m<=1000->AP Tryd.prog 68 [itD x,.int .i64 (m:Int)] (.int .i64 (Zfy x m:Int)) []:=by
 refine It.ind fun k n b l ih hw m hm=>?_
 obtain⟨_,_,hl,hws⟩:=hw
 have hlen:=Zal l
 show AP Tryd.prog _ [.agg (itC k n b l),_] _ _
 rw[Zfy]
 generalize hfin:ZcK l m 1=fin
 refine AP.ofA ?_
 refine Zao Tryd.func68 rfl Tryd.ntmps68 rfl rfl ?_
 repeat'(first|(apply Zah Zab;exact Z))
 refine ZaC (fun f tm bx fr=>∃(i c:Nat),f+i=l.length/\c<=m+1/\ZcK (l.drop i) m c=fin/\tm=[(1,.int .i64 (m:Int)),(2,.ptr 0 0),(5,.int .i64 (c:Int)),(6,.int .i64 (i:Int))]/\bx=[itC k n b l]/\fr=[]) (l.length+1) (Lands.mk' (m:=l.length) (Nat.lt_succ_self _) ⟨0,1,rfl,by omega,hfin,rfl,rfl,rfl⟩ ?_ rfl rfl rfl rfl rfl rfl) ?_
 ·exact .cons rfl (.cons rfl (.cons rfl (.cons rfl .nil)))
 rintro f tm bx fr ⟨i,c,hf,hc,hfin,rfl,rfl,rfl⟩
 have hU:=Zbs l
 rcases Nat.lt_or_ge i l.length with hlt|hge
 ·have hdl:decide ((i:Int)<((Zan l).length:Int))=true:=decide_eq_true (by omega)
  obtain⟨⟨k1,n1,b1,l1⟩,hy⟩:∃ y,l[i]?=some y:=⟨_,List.getElem?_eq_getElem hlt⟩
  have hv:(Zan l)[((i:Nat):Int).toNat]?=some (.agg [.int .i64 k1,.int .u64 (n1:Int),.sl (b1.map E.byte),.sl (Zan l1)]):=by
   rw[Int.toNat_natCast,Zax,List.getElem?_map,hy];rfl
  have hdr:l.drop i=It.mk k1 n1 b1 l1::l.drop (i+1):=by
   rw[List.drop_eq_getElem_cons hlt];congr 1
   exact(List.getElem?_eq_some_iff.1 hy).2
  rw[hdr]at hfin
  cases m with
  | zero=>
   rw[ZcK]at hfin
   have hdm:decide (((0:Nat):Int)>0)=false:=by decide
   subst hfin
   repeat'(first|(apply Zaj Zab;exact Z)|(apply Zah Zab;exact Z)|(apply Zay Zab;exact Z)|(apply Zaf;(iterate 3 exact Z);exact Qt)|(apply Zam;exact Z;exact Qt;exact Z;exact Z)|(apply Zae;exact Z;exact Qt)|(apply Zak Zab;(iterate 4 exact Z)))
   all_goals(apply Zaz [];(apply Zad Zab;exact Z);(iterate 4 exact Z))
   all_goals rfl
  | succ m=>
   rw[ZcK]at hfin
   have hdm:decide (((m+1:Nat):Int)>0)=true:=decide_eq_true (by omega)
   have hmem:=List.mem_of_getElem? hy
   have hcy:=ih _ hmem (ZaM hws _ hmem) m (by omega)
   have hzl:=Zi9 (.mk k1 n1 b1 l1) m
   have ei:IntKind.i64.wrap ((i:Int)+1)=((i+1:Nat):Int):=by rw[IntWalk.i64_in _ (by omega)];omega
   have em:IntKind.i64.wrap (((m+1:Nat):Int)-1)=(m:Int):=by rw[IntWalk.i64_in _ (by omega)];omega
   generalize hgr:Zfy (.mk k1 n1 b1 l1) m=r at hcy hfin hzl
   have ec:IntKind.i64.wrap (1+(r:Int))=((1+r:Nat):Int):=by rw[IntWalk.i64_in _ (by omega)];omega
   by_cases hcr:c<1+r
   ·rw[if_pos hcr]at hfin
    have t3:decide (((1+r:Nat):Int)>(c:Int))=true:=decide_eq_true (by omega)
    repeat'(first|rw[ec]|rw[ei]|rw[em]|(apply Zaa (hcy);kernel_rfl;(iterate 4 exact Z))|(apply Zaj Zab;exact Z)|(apply Zah Zab;exact Z)|(apply Zay Zab;exact Z)|(apply Zaf;(iterate 3 exact Z);exact Qt)|(apply Zam;exact Z;exact Qt;exact Z;exact Z)|(apply Zac;exact Z;exact Qt)|(apply Zak Zab;(iterate 4 exact Z))|(apply Zat Zab;(iterate 6 exact Z);(first|exact Qt|rotate_left);(first|with_reducible assumption|decide +kernel|exact Z);(first|exact Zag rfl|with_reducible assumption|decide +kernel|rotate_left)))
    refine Lands.mk' (m:=f-1) (by omega) ⟨i+1,1+r,by omega,by omega,hfin,rfl,rfl,rfl⟩ ?_ rfl rfl rfl rfl rfl rfl
    exact .cons rfl (.cons rfl (.cons rfl (.cons rfl .nil)))
   ·rw[if_neg hcr]at hfin
    have t3:decide (((1+r:Nat):Int)>(c:Int))=false:=decide_eq_false (by omega)
    repeat'(first|rw[ec]|rw[ei]|rw[em]|(apply Zaa (hcy);kernel_rfl;(iterate 4 exact Z))|(apply Zaj Zab;exact Z)|(apply Zah Zab;exact Z)|(apply Zay Zab;exact Z)|(apply Zaf;(iterate 3 exact Z);exact Qt)|(apply Zam;exact Z;exact Qt;exact Z;exact Z)|(apply Zac;exact Z;exact Qt)|(apply Zae;exact Z;exact Qt)|(apply Zak Zab;(iterate 4 exact Z))|(apply Zat Zab;(iterate 6 exact Z);(first|exact Qt|rotate_left);(first|with_reducible assumption|decide +kernel|exact Z);(first|exact Zag rfl|with_reducible assumption|decide +kernel|rotate_left)))
    refine Lands.mk' (m:=f-1) (by omega) ⟨i+1,c,by omega,by omega,hfin,rfl,rfl,rfl⟩ ?_ rfl rfl rfl rfl rfl rfl
    exact .cons rfl (.cons rfl (.cons rfl (.cons rfl .nil)))
 ·have hdl:decide ((i:Int)<((Zan l).length:Int))=false:=decide_eq_false (by omega)
  rw[List.drop_eq_nil_of_le hge]at hfin
  have hfin:c=fin:=by rw[<- hfin,ZcK]
  subst hfin
  repeat'(first|(apply Zaj Zab;exact Z)|(apply Zah Zab;exact Z)|(apply Zay Zab;exact Z)|(apply Zav;(iterate 3 exact Z);exact Qt)|(apply Zai;exact Z;exact Qt;exact Z;exact Z)|(apply Zae;exact Z;exact Qt)|(apply Zak Zab;(iterate 4 exact Z)))
  all_goals(apply Zaz [];(apply Zad Zab;exact Z);(iterate 4 exact Z))
  all_goals rfl
end Go.Proofs.YtakblclkflnnpaaDoor
end
