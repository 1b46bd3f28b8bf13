/- Items: how many there are, how deep they go; that this is what walk counts. Plain laws. -/
import Derived.Test.YtakblclkflnnpaaGreatDoorK23
import Derived.Test.YtakblclkflnnpaaGreatDoorK15
import Derived.Test.YtakblclkflnnpaaGreatDoorK10
import Derived.Test.YtakblclkflnnpaaGreatDoorK17
set_option linter.unusedVariables false
set_option linter.unusedSimpArgs false
section
open Go.RowKit Go.Pl Go.Av
namespace Go.Proofs.YtakblclkflnnpaaGreatDoor
mutual
def ZbL:It->Nat
 | .mk _ _ _ l=>1+Zbg l
def Zbg:List It->Nat
 | []=>0
 | x::l=>ZbL x+Zbg l
end
mutual
def ZbQ:It->Bool
 | .mk k n b l=>Zc2 k n b l&&Zco l
def Zco:List It->Bool
 | []=>true
 | x::l=>ZbQ x&&Zco l
end
mutual
theorem ZjB:∀(x:It) (d m:Nat),Zcj x d m=if ZbK x (7-d)=true/\ZbL x<=m/\ZbQ x=true then some (m-ZbL x) else none
 | .mk k n b l,d,m=>by
  rw[Zcj]
  split
  ·rename_i h
   rw[if_neg]
   rintro⟨h1,_⟩
   rw[show 7-d=0 by omega,ZbK]at h1
   cases h1
  rename_i hd
  rw[show 7-d=(7-(d+1))+1 by omega,ZbK,ZbL,ZbQ]
  split
  ·rename_i h
   rw[if_neg]
   rintro⟨_,h1,_⟩
   omega
  rename_i hm
  cases ho:Zc2 k n b l with
  | false=>
   dsimp only
   rw[if_neg]
   rintro⟨_,_,h1⟩
   simp at h1
  | true=>
   dsimp only
   rw[ZhG l (d+1) (m-1),Bool.true_and]
   by_cases h:Zb1 l (7-(d+1))=true/\Zbg l<=m-1/\Zco l=true
   ·rw[if_pos h,if_pos ⟨h.1,by omega,h.2.2⟩]
    congr 1;omega
   ·rw[if_neg h,if_neg]
    exact fun⟨a,b,c⟩=>h ⟨a,by omega,c⟩
theorem ZhG:∀(l:List It) (d m:Nat),ZbP l d m=if Zb1 l (7-d)=true/\Zbg l<=m/\Zco l=true then some (m-Zbg l) else none
 | [],d,m=>by rw[ZbP,if_pos ⟨by rw[Zb1],by rw[Zbg];omega,by rw[Zco]⟩,Zbg];rfl
 | x::l,d,m=>by
  rw[ZbP,ZjB x d m,Zb1,Zbg,Zco]
  by_cases h:ZbK x (7-d)=true/\ZbL x<=m/\ZbQ x=true
  ·rw[if_pos h]
   dsimp only
   rw[ZhG l d (m-ZbL x),h.1,h.2.2,Bool.true_and,Bool.true_and]
   by_cases h2:Zb1 l (7-d)=true/\Zbg l<=m-ZbL x/\Zco l=true
   ·rw[if_pos h2,if_pos ⟨h2.1,by omega,h2.2.2⟩]
    congr 1;omega
   ·rw[if_neg h2,if_neg]
    exact fun⟨a,b,c⟩=>h2 ⟨a,by omega,c⟩
  ·rw[if_neg h]
   dsimp only
   rw[if_neg]
   rintro⟨a,b,c⟩
   rw[Bool.and_eq_true]at a c
   exact h ⟨a.1,by omega,c.1⟩
end
theorem Zb2 (x:It):ZaC x=(ZbK x 6&&(decide (ZbL x<=256)&&ZbQ x)):=by
 unfold ZaC
 rw[ZjB]
 split
 ·rename_i h
  obtain⟨a,b,c⟩:=h
  rw[show 7-1=6 from rfl]at a
  simp[a,b,c]
 ·rename_i h
  rw[show 7-1=6 from rfl]at h
  show false=_
  cases h2:(ZbK x 6&&(decide (ZbL x<=256)&&ZbQ x)) with
  | false=>rfl
  | true=>
   simp only[Bool.and_eq_true,decide_eq_true_eq]at h2
   exact absurd ⟨h2.1,h2.2.1,h2.2.2⟩ h
mutual
theorem ZeF:∀(x:It) (d e:Nat),ZbK x d=true->d<=e->ZbK x e=true
 | .mk k n b l,0,e,h,_=>by rw[ZbK]at h;cases h
 | .mk k n b l,d+1,0,h,hle=>by omega
 | .mk k n b l,d+1,e+1,h,hle=>by
  rw[ZbK]at h ⊢
  exact Zgs l d e h (by omega)
theorem Zgs:∀(l:List It) (d e:Nat),Zb1 l d=true->d<=e->Zb1 l e=true
 | [],_,_,_,_=>by rw[Zb1]
 | x::l,d,e,h,hle=>by
  rw[Zb1,Bool.and_eq_true]at h ⊢
  exact⟨ZeF x d e h.1 hle,Zgs l d e h.2 hle⟩
end
mutual
theorem Zkl:∀(x:It) (d:Nat) (m:Int),0<=Za7 x d m->(ZbL x:Int)=m-Za7 x d m
 | .mk k n b l,d,m,h=>by
  rw[Za7]at h ⊢
  split at h
  ·omega
  split at h
  ·omega
  rename_i h1 h2
  rw[if_neg h1,if_neg h2,ZbL]
  have:=ZfK l (d+1) (m-1) h
  omega
theorem ZfK:∀(l:List It) (d:Nat) (m:Int),0<=Zbk l d m->(Zbg l:Int)=m-Zbk l d m
 | [],d,m,h=>by rw[Zbk,Zbg];omega
 | x::l,d,m,h=>by
  rw[Zbk]at h ⊢
  split at h
  ·omega
  rename_i h1
  rw[if_neg h1,Zbg]
  have h0:0<=Za7 x d m:=by
   rcases Int.lt_or_le (Za7 x d m) 0 with hlt|hge
   ·have:=Zc5 l d (Za7 x d m) (by have:=Zc4 x d m (by omega);omega);omega
   ·exact hge
  have a:=Zkl x d m h0
  have b:=ZfK l d _ h
  omega
end
end Go.Proofs.YtakblclkflnnpaaGreatDoor
end
section
open Go.RowKit Go.Pl Go.Av
namespace Go.Proofs.YtakblclkflnnpaaGreatDoor
set_option maxHeartbeats 1000000
theorem ZdP [Known](n:Nat)(hn:n<=32):AP Tryz.prog 182 [.int .i64 (n:Int)] (.int .u64 ((2 ^ n:Nat):Int)) []:=by
 refine Zan Tryz.func182 rfl Tryz.ntmps182 rfl rfl ?_
 repeat'(first|(apply Zah Zab;exact Z))
 refine ZaE (fun k tm bx fr=>∃ i,k+i=n/\tm=[(0,.int .i64 (n:Int)),(3,.int .u64 ((2 ^ i:Nat):Int)),(4,.int .i64 (i:Int))]/\bx=[]/\fr=[]) (n+1) (Lands.mk' (m:=n) (Nat.lt_succ_self _) ⟨0,rfl,rfl,rfl,rfl⟩ ?_ rfl rfl rfl rfl rfl rfl) ?_
 ·exact .cons rfl (.cons rfl (.cons rfl .nil))
 rintro k tm bx fr ⟨i,hk,rfl,rfl,rfl⟩
 rcases Nat.lt_or_ge i n with hlt|hge
 ·have hd:decide ((i:Int)<(n:Int))=true:=by simp;omega
  have hp:2 ^ (i+1)<=2 ^ 32:=Nat.pow_le_pow_right (by decide) (by omega)
  have hp':2 ^ (i+1)=2*2 ^ i:=by rw[Nat.pow_succ];omega
  have e1:IntKind.u64.wrap (2*((2 ^ i:Nat):Int))=((2 ^ (i+1):Nat):Int):=by rw[IntKind.wrap_u64];omega
  have e2:IntKind.i64.wrap ((i:Int)+1)=((i+1:Nat):Int):=by rw[IntWalk.i64_in _ (by omega)];omega
  repeat'(first|rw[e1]|rw[e2]|(apply Zah Zab;exact Z)|(apply Zac;exact Z;(first|with_reducible assumption|(solve|simp only[bn])))|refine Zbi ?_)
  refine Lands.mk' (m:=k-1) (by omega) ⟨i+1,by omega,rfl,rfl,rfl⟩ ?_ rfl rfl rfl rfl rfl rfl
  exact .cons rfl (.cons rfl (.cons rfl .nil))
 ·have hd:decide ((i:Int)<(n:Int))=false:=by simp;omega
  repeat'(first|(apply Zah Zab;exact Z)|(apply Zaf;exact Z;(first|with_reducible assumption|(solve|simp only[bn]))))
  (apply Zfk (ts:=[]);(apply Zad Zab;exact Z);exact ZaA _;exact Z;rotate_left;exact Z)
  obtain rfl:i=n:=by omega
  rfl
theorem ZhH (n k:Nat):beN n (k+1)=UInt8.ofNat (n/256 ^ k)::beN n k:=by
 unfold beN
 rw[List.range_succ_eq_map,List.map_cons,List.map_map]
 congr 1
 apply List.map_congr_left
 intro i hi
 have hi:i<k:=by simpa using hi
 simp only[Function.comp]
 rw[show k+1-1-i.succ=k-1-i from by omega]
theorem ZgS [Known](n f:Nat)(hn:n<18446744073709551616)(hf:f<=8):AP Tryz.prog 183 [.int .u64 (n:Int),.int .i64 (f:Int)] (byE (beN n f)) []:=by
 refine AP.weak ?_
 refine Zan Tryz.func183 rfl Tryz.ntmps183 rfl rfl ?_
 repeat'(first|(apply Zah Zab;exact Z))
 refine ZaE (fun k tm bx fr=>∃ i,k+i=f/\tm=[(0,.int .u64 ((n/256 ^ i:Nat):Int)),(1,.int .i64 (f:Int)),(5,byE (beN n i)),(6,.int .i64 (i:Int))]/\bx=[]/\fr=[]) (f+1) (Lands.mk' (m:=f) (Nat.lt_succ_self _) ⟨0,rfl,rfl,rfl,rfl⟩ ?_ rfl rfl rfl rfl rfl rfl) ?_
 ·refine .cons ?_ (.cons rfl (.wk rfl (.cons rfl .nil)))
  rw[Nat.pow_zero,Nat.div_one];rfl
 rintro k tm bx fr ⟨i,hk,rfl,rfl,rfl⟩
 have hle:n/256 ^ i<=n:=Nat.div_le_self _ _
 have hdd:n/256 ^ (i+1)=n/256 ^ i/256:=by rw[Nat.pow_succ,Nat.div_div_eq_div_mul]
 rcases Nat.lt_or_ge i f with hlt|hge
 ·have hd:decide ((i:Int)<(f:Int))=true:=by simp;omega
  have e1:E.int .u8 (IntKind.u8.wrap (((n/256 ^ i:Nat):Int).tmod 256))=E.byte (UInt8.ofNat (n/256 ^ i)):=by
   unfold E.byte
   rw[IntKind.wrap_u8',UInt8.toNat_ofNat',Int.tmod_eq_emod_of_nonneg (Int.natCast_nonneg _)]
   congr 1
   omega
  have e2:IntKind.i64.wrap ((i:Int)+1)=((i+1:Nat):Int):=by rw[IntWalk.i64_in _ (by omega)];omega
  have e3:IntKind.u64.wrap (((n/256 ^ i:Nat):Int).tdiv 256)=((n/256 ^ (i+1):Nat):Int):=by
   rw[hdd]
   generalize n/256 ^ i=q at hle
   rw[Int.tdiv_eq_ediv_of_nonneg (Int.natCast_nonneg _),IntKind.wrap_u64];omega
  have hU:=Zbm (beN n i)
  have hne:i ≠ 0->(beN n i).map E.byte ≠ []:=fun h0 e=>by
   have:=congrArg List.length e
   rw[List.length_map,Za4]at this
   exact h0 this
  have hlb:=Za4 n i
  rcases Nat.eq_zero_or_pos i with rfl|h0
  ·repeat'(first|rw[e2]|rw[e3]|(apply Zaj Zab;exact Z)|(apply Zah Zab;exact Z)|(apply Zac;exact Z;(first|with_reducible assumption|(solve|simp only[bn])))|(apply Zfw Zab;(iterate 12 exact Z))|(apply ZaG Zab;(iterate 6 exact Z))|(apply Zd2;exact Z;exact Z;(first|exact Go.ZrK|rotate_left);exact Z)|(apply Zd3;exact Z;exact Z;(first|exact Go.ZrK|rotate_left);exact Z))
   refine Lands.mk' (m:=k-1) (by omega) ⟨1,by omega,rfl,rfl,rfl⟩ ?_ rfl rfl rfl rfl rfl rfl
   refine .cons rfl (.cons rfl (.wk ?_ (.cons rfl .nil)))
   rw[ZhH]
   exact congrArg (fun x=>D.sl .ext [x]) e1
  ·have hne:=hne (by omega)
   repeat'(first|rw[e2]|rw[e3]|(apply Zaj Zab;exact Z)|(apply Zah Zab;exact Z)|(apply Zac;exact Z;(first|with_reducible assumption|(solve|simp only[bn])))|(apply Zfw Zab;(iterate 12 exact Z))|(apply ZaJ Zab;(iterate 6 exact Z);(first|with_reducible assumption|exact Z|rotate_left);exact Z;exact Z;(first|exact Zai rfl|with_reducible assumption|rotate_left);(first|exact Zai rfl|with_reducible assumption|rotate_left);(first|exact Go.ZrK|rotate_left);(first|exact Go.ZrK|rotate_left);(first|exact Go.ZrK|rotate_left);exact Z;exact Z)|(apply Zd2;exact Z;exact Z;(first|exact Go.ZrK|rotate_left);exact Z)|(apply Zd3;exact Z;exact Z;(first|exact Go.ZrK|rotate_left);exact Z))
   ·refine Lands.mk' (m:=k-1) (by omega) ⟨i+1,by omega,rfl,rfl,rfl⟩ ?_ rfl rfl rfl rfl rfl rfl
    refine .cons rfl (.cons rfl (.wk ?_ (.cons rfl .nil)))
    rw[ZhH]
    exact congrArg (fun x=>D.sl .ext (x::(beN n i).map E.byte)) e1
   ·show 1+((beN n i).map E.byte).length<=maxLen
    rw[List.length_map,hlb];unfold maxLen;omega
   ·show(1+((beN n i).map E.byte).length)*1<=140737488355328
    rw[List.length_map,hlb];omega
 ·have hd:decide ((i:Int)<(f:Int))=false:=by simp;omega
  repeat'(first|(apply Zah Zab;exact Z)|(apply Zaf;exact Z;(first|with_reducible assumption|(solve|simp only[bn]))))
  (apply ZpY;(apply Zad Zab;exact Z);exact Z)
  obtain rfl:i=f:=by omega
  rfl
theorem Zc6 (m:Int)(i:Nat)(hm:0<=m/\m<=7)(hi:i<32):IntKind.u8.wrap (IntKind.u8.wrap (IntKind.i64.wrap (32*m))+(i:Int))=((Zb7 m.toNat i).toNat:Int):=by
 unfold Zb7
 rw[IntWalk.i64_in _ (by omega),IntKind.wrap_u8',IntKind.wrap_u8',UInt8.toNat_ofNat']
 omega
theorem ZlE (n:Nat)(h:¬ n<24):(n<256->ZaD n=1/\ZbA n=24)/\(256<=n->n<65536->ZaD n=2/\ZbA n=25)/\(65536<=n->n<4294967296->ZaD n=4/\ZbA n=26)/\(4294967296<=n->ZaD n=8/\ZbA n=27):=by
 unfold ZaD ZbA
 refine⟨fun h1=>?_,fun h1 h2=>?_,fun h1 h2=>?_,fun h1=>?_⟩
 ·simp[h,h1]
 ·simp[h,h2,show ¬ n<256 by omega]
 ·simp[h,h2,show ¬ n<256 by omega,show ¬ n<65536 by omega]
 ·simp[h,show ¬ n<256 by omega,show ¬ n<65536 by omega,show ¬ n<4294967296 by omega]
theorem ZhI [Known](h:Hd)(hr:ZaZ h=true)(hn:h.2.1<18446744073709551616):AT Tryz.prog 158 [hd h] [] [] (.sl (.own 0) ((ZaN h).map E.byte)) [] [⟨(ZaN h).length,1,5⟩]:=by
 have hm:=Zlm hr
 have HN:=hid hn
 clear hn
 refine Zan Tryz.func158 rfl Tryz.ntmps158 rfl rfl ?_
 repeat'(first|(apply Zaj Zab;exact Z)|(apply Zah Zab;exact Z)|(apply Zbw;exact Z;all_goals intro hb)|(apply ZaX Zab;(iterate 12 exact Z)))
 ·(apply ZeR [] [0];(apply Zad Zab;exact Z);(iterate 7 exact Z))
  ·have hb':h.2.2=true:=hb
   rw[show ZaN h=[Zb7 h.1.toNat 31] by simp[ZaN,hb']]
   exact congrArg (fun x:Int=>D.sl (.own 0) [E.int .u8 x]) (Zc6 h.1 31 hm (by decide))
  ·rfl
  ·(have hb':h.2.2=true:=hb);rw[show ZaN h=[Zb7 h.1.toNat 31] by simp[ZaN,hb']];rfl
 ·(apply ZeR [] [0];(apply Zad Zab;exact Z);(iterate 7 exact Z))
  ·have hb':h.2.2=false := ‹_›
   have h24:=of_decide_eq_true hb
   have h24':h.2.1<24:=by omega
   rw[show ZaN h=[Zb7 h.1.toNat h.2.1] by simp[ZaN,hb',ZbA,ZaD,h24',beN]]
   have e1:IntKind.u8.wrap ((h.2.1:Nat):Int)=((h.2.1:Nat):Int):=by rw[IntKind.wrap_u8'];omega
   have e:=congrArg (fun x:Int=>D.sl (.own 0) [E.int .u8 x]) (Zc6 h.1 h.2.1 hm (by omega))
   rw[<- e1]at e
   exact e
  ·rfl
  ·(have hb':h.2.2=false := ‹_›);(have h24:=of_decide_eq_true hb);(have h24':h.2.1<24:=by omega);rw[show ZaN h=[Zb7 h.1.toNat h.2.1] by simp[ZaN,hb',ZbA,ZaD,h24',beN]];rfl
 have hb':h.2.2=false := ‹_›
 have h24:¬ h.2.1<24:=by have:=of_decide_eq_false hb;omega
 have hw:ZaN h=Zb7 h.1.toNat (ZbA h.2.1)::beN h.2.1 (ZaD h.2.1):=by simp[ZaN,hb']
 have hfs:=ZlE h.2.1 h24
 refine ZaE (fun k tm bx fr=>∃ sz inf:Int,((k=3/\sz=1/\inf=24)\/(k=2/\sz=2/\inf=25/\256<=h.2.1)\/(k=1/\sz=4/\inf=26/\65536<=h.2.1)\/(k=0/\sz=8/\inf=27/\4294967296<=h.2.1))/\tm=[(1,.ptr 0 0),(3,.int .u8 (IntKind.u8.wrap (IntKind.i64.wrap (32*h.1)))),(4,.int .i64 sz),(5,.int .u8 inf)]/\bx=[[.int .i64 h.1,.int .u64 (h.2.1:Int),.bool h.2.2]]/\fr=[]) 4 (Lands.mk' (m:=3) (by decide) ⟨1,24,.inl ⟨rfl,rfl,rfl⟩,rfl,rfl,rfl⟩ ?_ rfl rfl rfl rfl rfl rfl) ?_
 ·exact .cons rfl (.cons rfl (.cons rfl (.cons rfl .nil)))
 rintro k tm bx fr ⟨sz,inf,hc,rfl,rfl,rfl⟩
 rcases hc with⟨rfl,rfl,rfl⟩ | ⟨rfl,rfl,rfl,hge⟩ | ⟨rfl,rfl,rfl,hge⟩ | ⟨rfl,rfl,rfl,hge⟩
 ·have hd:decide ((1:Int)<8)=true:=by decide
  rcases Nat.lt_or_ge h.2.1 256 with hlt|hge2
  ·have hq:decide ((h.2.1:Int) ≥ ((2 ^ 8:Nat):Int))=false:=by
    rw[show((2 ^ 8:Nat):Int)=256 from rfl];simp;omega
   have hf:=hfs.1 hlt
   have hU:=Zbm (beN h.2.1 1)
   repeat'(first|(apply Zaa (ZdP 8 (by decide));kernel_rfl;(iterate 4 exact Z))|(apply Zaa (ZgS h.2.1 1 HN.out (by decide));kernel_rfl;(iterate 4 exact Z))|(apply ZbI Zab;(iterate 11 exact Z);exact Zai rfl;exact Zai rfl;exact List.cons_ne_nil _ _;decide +kernel;decide +kernel;exact Z;exact Z)|(apply Zaj Zab;exact Z)|(apply Zah Zab;exact Z)|(apply Zav Zab;exact Z)|(apply Zae;(iterate 3 exact Z);exact Go.ZrJ)|(apply Zak;exact Z;exact Go.ZrJ;exact Z;exact Z)|(apply Zaf;exact Z;exact Go.ZrJ)|(apply ZaX Zab;(iterate 12 exact Z))|(apply Zao 8 ZaL;decide +kernel;kernel_rfl;kernel_rfl;kernel_rfl;exact Z;exact Z)|(apply Zaq;(iterate 4 exact Z))|exact AE.nil _ _ _ _|(apply Zat;exact Z)|(apply Zay;exact Z;exact Z;decide +kernel;exact Z)|(apply Zaz;exact Z)|exact AO.nil _ _ _|(apply Zap;(decide +kernel))|exact AOs.nil|exact ZaH rfl rfl)
   ·(apply ZeR [] [0];(apply Zad Zab;exact Z);(iterate 7 exact Z))
    ·have e:=congrArg (fun x:Int=>D.sl (.own 0) (E.int .u8 x::(beN h.2.1 1).map E.byte)) (Zc6 h.1 24 hm (by decide))
     rw[hw,hf.1,hf.2]
     exact e
    ·rfl
    ·simp only[hw,hf.1,List.length_cons,List.length_nil,List.length_map,Za4];rfl
  ·have hq:decide ((h.2.1:Int) ≥ ((2 ^ 8:Nat):Int))=true:=by
    rw[show((2 ^ 8:Nat):Int)=256 from rfl];simp;omega
   repeat'(first|(apply Zaa (ZdP 8 (by decide));kernel_rfl;(iterate 4 exact Z))|(apply Zaj Zab;exact Z)|(apply Zah Zab;exact Z)|(apply Zav Zab;exact Z)|(apply Zae;(iterate 3 exact Z);exact Go.ZrJ)|(apply Zak;exact Z;exact Go.ZrJ;exact Z;exact Z)|(apply Zac;exact Z;exact Go.ZrJ)|refine Zbi ?_|(apply Zao 8 ZaL;decide +kernel;kernel_rfl;kernel_rfl;kernel_rfl;exact Z;exact Z)|(apply Zaq;(iterate 4 exact Z))|exact AE.nil _ _ _ _|(apply Zat;exact Z)|(apply Zay;exact Z;exact Z;decide +kernel;exact Z)|(apply Zaz;exact Z)|exact AO.nil _ _ _|(apply Zap;(decide +kernel))|exact AOs.nil|exact ZaH rfl rfl)
   refine Lands.mk' (m:=2) (by decide) ⟨2,25,.inr (.inl ⟨rfl,rfl,rfl,hge2⟩),rfl,rfl,rfl⟩ ?_ rfl rfl rfl rfl rfl rfl
   exact .cons rfl (.cons rfl (.cons rfl (.cons rfl .nil)))
 ·have hd:decide ((2:Int)<8)=true:=by decide
  rcases Nat.lt_or_ge h.2.1 65536 with hlt|hge2
  ·have hq:decide ((h.2.1:Int) ≥ ((2 ^ 16:Nat):Int))=false:=by
    rw[show((2 ^ 16:Nat):Int)=65536 from rfl];simp;omega
   have hf:=hfs.2.1 hge hlt
   have hU:=Zbm (beN h.2.1 2)
   repeat'(first|(apply Zaa (ZdP 16 (by decide));kernel_rfl;(iterate 4 exact Z))|(apply Zaa (ZgS h.2.1 2 HN.out (by decide));kernel_rfl;(iterate 4 exact Z))|(apply ZbI Zab;(iterate 11 exact Z);exact Zai rfl;exact Zai rfl;exact List.cons_ne_nil _ _;decide +kernel;decide +kernel;exact Z;exact Z)|(apply Zaj Zab;exact Z)|(apply Zah Zab;exact Z)|(apply Zav Zab;exact Z)|(apply Zae;(iterate 3 exact Z);exact Go.ZrJ)|(apply Zak;exact Z;exact Go.ZrJ;exact Z;exact Z)|(apply Zaf;exact Z;exact Go.ZrJ)|(apply ZaX Zab;(iterate 12 exact Z))|(apply Zao 8 ZaL;decide +kernel;kernel_rfl;kernel_rfl;kernel_rfl;exact Z;exact Z)|(apply Zaq;(iterate 4 exact Z))|exact AE.nil _ _ _ _|(apply Zat;exact Z)|(apply Zay;exact Z;exact Z;decide +kernel;exact Z)|(apply Zaz;exact Z)|exact AO.nil _ _ _|(apply Zap;(decide +kernel))|exact AOs.nil|exact ZaH rfl rfl)
   ·(apply ZeR [] [0];(apply Zad Zab;exact Z);(iterate 7 exact Z))
    ·have e:=congrArg (fun x:Int=>D.sl (.own 0) (E.int .u8 x::(beN h.2.1 2).map E.byte)) (Zc6 h.1 25 hm (by decide))
     rw[hw,hf.1,hf.2]
     exact e
    ·rfl
    ·simp only[hw,hf.1,List.length_cons,List.length_nil,List.length_map,Za4];rfl
  ·have hq:decide ((h.2.1:Int) ≥ ((2 ^ 16:Nat):Int))=true:=by
    rw[show((2 ^ 16:Nat):Int)=65536 from rfl];simp;omega
   repeat'(first|(apply Zaa (ZdP 16 (by decide));kernel_rfl;(iterate 4 exact Z))|(apply Zaj Zab;exact Z)|(apply Zah Zab;exact Z)|(apply Zav Zab;exact Z)|(apply Zae;(iterate 3 exact Z);exact Go.ZrJ)|(apply Zak;exact Z;exact Go.ZrJ;exact Z;exact Z)|(apply Zac;exact Z;exact Go.ZrJ)|refine Zbi ?_|(apply Zao 8 ZaL;decide +kernel;kernel_rfl;kernel_rfl;kernel_rfl;exact Z;exact Z)|(apply Zaq;(iterate 4 exact Z))|exact AE.nil _ _ _ _|(apply Zat;exact Z)|(apply Zay;exact Z;exact Z;decide +kernel;exact Z)|(apply Zaz;exact Z)|exact AO.nil _ _ _|(apply Zap;(decide +kernel))|exact AOs.nil|exact ZaH rfl rfl)
   refine Lands.mk' (m:=1) (by decide) ⟨4,26,.inr (.inr (.inl ⟨rfl,rfl,rfl,hge2⟩)),rfl,rfl,rfl⟩ ?_ rfl rfl rfl rfl rfl rfl
   exact .cons rfl (.cons rfl (.cons rfl (.cons rfl .nil)))
 ·have hd:decide ((4:Int)<8)=true:=by decide
  rcases Nat.lt_or_ge h.2.1 4294967296 with hlt|hge2
  ·have hq:decide ((h.2.1:Int) ≥ ((2 ^ 32:Nat):Int))=false:=by
    rw[show((2 ^ 32:Nat):Int)=4294967296 from rfl];simp;omega
   have hf:=hfs.2.2.1 hge hlt
   have hU:=Zbm (beN h.2.1 4)
   repeat'(first|(apply Zaa (ZdP 32 (by decide));kernel_rfl;(iterate 4 exact Z))|(apply Zaa (ZgS h.2.1 4 HN.out (by decide));kernel_rfl;(iterate 4 exact Z))|(apply ZbI Zab;(iterate 11 exact Z);exact Zai rfl;exact Zai rfl;exact List.cons_ne_nil _ _;decide +kernel;decide +kernel;exact Z;exact Z)|(apply Zaj Zab;exact Z)|(apply Zah Zab;exact Z)|(apply Zav Zab;exact Z)|(apply Zae;(iterate 3 exact Z);exact Go.ZrJ)|(apply Zak;exact Z;exact Go.ZrJ;exact Z;exact Z)|(apply Zaf;exact Z;exact Go.ZrJ)|(apply ZaX Zab;(iterate 12 exact Z))|(apply Zao 8 ZaL;decide +kernel;kernel_rfl;kernel_rfl;kernel_rfl;exact Z;exact Z)|(apply Zaq;(iterate 4 exact Z))|exact AE.nil _ _ _ _|(apply Zat;exact Z)|(apply Zay;exact Z;exact Z;decide +kernel;exact Z)|(apply Zaz;exact Z)|exact AO.nil _ _ _|(apply Zap;(decide +kernel))|exact AOs.nil|exact ZaH rfl rfl)
   ·(apply ZeR [] [0];(apply Zad Zab;exact Z);(iterate 7 exact Z))
    ·have e:=congrArg (fun x:Int=>D.sl (.own 0) (E.int .u8 x::(beN h.2.1 4).map E.byte)) (Zc6 h.1 26 hm (by decide))
     rw[hw,hf.1,hf.2]
     exact e
    ·rfl
    ·simp only[hw,hf.1,List.length_cons,List.length_nil,List.length_map,Za4];rfl
  ·have hq:decide ((h.2.1:Int) ≥ ((2 ^ 32:Nat):Int))=true:=by
    rw[show((2 ^ 32:Nat):Int)=4294967296 from rfl];simp;omega
   repeat'(first|(apply Zaa (ZdP 32 (by decide));kernel_rfl;(iterate 4 exact Z))|(apply Zaj Zab;exact Z)|(apply Zah Zab;exact Z)|(apply Zav Zab;exact Z)|(apply Zae;(iterate 3 exact Z);exact Go.ZrJ)|(apply Zak;exact Z;exact Go.ZrJ;exact Z;exact Z)|(apply Zac;exact Z;exact Go.ZrJ)|refine Zbi ?_|(apply Zao 8 ZaL;decide +kernel;kernel_rfl;kernel_rfl;kernel_rfl;exact Z;exact Z)|(apply Zaq;(iterate 4 exact Z))|exact AE.nil _ _ _ _|(apply Zat;exact Z)|(apply Zay;exact Z;exact Z;decide +kernel;exact Z)|(apply Zaz;exact Z)|exact AO.nil _ _ _|(apply Zap;(decide +kernel))|exact AOs.nil|exact ZaH rfl rfl)
   refine Lands.mk' (m:=0) (by decide) ⟨8,27,.inr (.inr (.inr ⟨rfl,rfl,rfl,hge2⟩)),rfl,rfl,rfl⟩ ?_ rfl rfl rfl rfl rfl rfl
   exact .cons rfl (.cons rfl (.cons rfl (.cons rfl .nil)))
 ·have hd:decide ((8:Int)<8)=false:=by decide
  have hf:=hfs.2.2.2 hge
  have hU:=Zbm (beN h.2.1 8)
  repeat'(first|(apply Zaa (ZgS h.2.1 8 HN.out (by decide));kernel_rfl;(iterate 4 exact Z))|(apply ZbI Zab;(iterate 11 exact Z);exact Zai rfl;exact Zai rfl;exact List.cons_ne_nil _ _;decide +kernel;decide +kernel;exact Z;exact Z)|(apply Zaj Zab;exact Z)|(apply Zah Zab;exact Z)|(apply Zav Zab;exact Z)|(apply Zas;(iterate 3 exact Z);exact Go.ZrJ)|(apply Zag;exact Z;exact Go.ZrJ;exact Z;exact Z)|(apply Zaf;exact Z;exact Go.ZrJ)|(apply ZaX Zab;(iterate 12 exact Z))|(apply Zao 8 ZaL;decide +kernel;kernel_rfl;kernel_rfl;kernel_rfl;exact Z;exact Z)|(apply Zaq;(iterate 4 exact Z))|exact AE.nil _ _ _ _|(apply Zat;exact Z)|(apply Zay;exact Z;exact Z;decide +kernel;exact Z)|(apply Zaz;exact Z)|exact AO.nil _ _ _|(apply Zap;(decide +kernel))|exact AOs.nil|exact ZaH rfl rfl)
  ·(apply ZeR [] [0];(apply Zad Zab;exact Z);(iterate 7 exact Z))
   ·have e:=congrArg (fun x:Int=>D.sl (.own 0) (E.int .u8 x::(beN h.2.1 8).map E.byte)) (Zc6 h.1 27 hm (by decide))
    rw[hw,hf.1,hf.2]
    exact e
   ·rfl
   ·simp only[hw,hf.1,List.length_cons,List.length_nil,List.length_map,Za4];rfl
end Go.Proofs.YtakblclkflnnpaaGreatDoor
end
section
open Go.RowKit Go.Pl Go.Av
namespace Go.Proofs.YtakblclkflnnpaaGreatDoor
set_option maxHeartbeats 4000000
mutual
def ZcW:It->Nat->Nat
 | .mk k n b l,m=>Zct l m 1
def Zct:List It->Nat->Nat->Nat
 | [],_,n=>n
 | x::l,m,n=>if n<=m then Zct l m (n+ZcW x m) else n
end
theorem ZhJ:∀(l:List It) (m n:Nat),n<=Zct l m n
 | [],m,n=>by rw[Zct];omega
 | x::l,m,n=>by
  rw[Zct]
  split
  ·have:=ZhJ l m (n+ZcW x m);omega
  ·omega
mutual
theorem ZgT:∀(x:It) (m:Nat),ZcW x m<=ZbL x
 | .mk k n b l,m=>by
  rw[ZcW,ZbL]
  have:=ZhK l m 1
  omega
theorem ZhK:∀(l:List It) (m n:Nat),Zct l m n<=n+Zbg l
 | [],m,n=>by rw[Zct];omega
 | x::l,m,n=>by
  rw[Zct,Zbg]
  split
  ·have h1:=ZgT x m
   have h2:=ZhK l m (n+ZcW x m)
   omega
  ·omega
end
mutual
theorem ZjC:∀(x:It) (m:Nat),ZcW x m<=m->ZbL x=ZcW x m
 | .mk k n b l,m,h=>by
  rw[ZcW]at h ⊢
  rw[ZbL]
  exact ZhL l m 1 h
theorem ZhL:∀(l:List It) (m n:Nat),Zct l m n<=m->n+Zbg l=Zct l m n
 | [],m,n,h=>by rw[Zct,Zbg];omega
 | x::l,m,n,h=>by
  rw[Zct]at h ⊢
  rw[Zbg]
  split at h
  ·rename_i hn
   rw[if_pos hn]
   have h1:=ZhJ l m (n+ZcW x m)
   have h2:=ZjC x m (by omega)
   have h3:=ZhL l m (n+ZcW x m) h
   omega
  ·omega
end
mutual
def Zg7:It->Nat->Nat
 | .mk k n b l,m=>Zdq l m 1
def Zdq:List It->Nat->Nat->Nat
 | [],_,n=>n
 | x::l,0,n=>n
 | x::l,m+1,n=>Zdq l (m+1) (if n<1+Zg7 x m then 1+Zg7 x m else n)
end
theorem ZjD:∀(l:List It) (m n:Nat),n<=Zdq l m n
 | [],m,n=>by rw[Zdq];omega
 | x::l,0,n=>by rw[Zdq];omega
 | x::l,m+1,n=>by
  rw[Zdq]
  have:=ZjD l (m+1) (if n<1+Zg7 x m then 1+Zg7 x m else n)
  split at this<;>(try split)<;>omega
mutual
theorem ZlF:∀(x:It) (m:Nat),Zg7 x m<=m+1
 | .mk k n b l,m=>by
  rw[Zg7]
  exact ZjE l m 1 (by omega)
theorem ZjE:∀(l:List It) (m n:Nat),n<=m+1->Zdq l m n<=m+1
 | [],m,n,h=>by rw[Zdq];omega
 | x::l,0,n,h=>by rw[Zdq];omega
 | x::l,m+1,n,h=>by
  rw[Zdq]
  have:=ZlF x m
  exact ZjE l (m+1) _ (by split<;>omega)
end
mutual
theorem ZjF:∀(x:It) (m d:Nat),d<=m->(Zg7 x m<=d ↔ ZbK x d=true)
 | .mk k n b l,m,0,h=>by
  have:=ZjD l m 1
  rw[Zg7,ZbK]
  simp;omega
 | .mk k n b l,m,d+1,h=>by
  rw[Zg7,ZbK,ZhM l m 1 d (by omega)]
  simp
theorem ZhM:∀(l:List It) (m n d:Nat),d+1<=m->(Zdq l m n<=d+1 ↔ n<=d+1/\Zb1 l d=true)
 | [],m,n,d,h=>by rw[Zdq,Zb1];simp
 | x::l,0,n,d,h=>by omega
 | x::l,m+1,n,d,h=>by
  rw[Zdq,Zb1,Bool.and_eq_true,ZhM l (m+1) _ d (by omega),<- ZjF x m d (by omega)]
  split
  ·exact⟨fun⟨h1,h2⟩=>⟨by omega,by omega,h2⟩,fun⟨h1,h2,h3⟩=>⟨by omega,h3⟩⟩
  ·exact⟨fun⟨h1,h2⟩=>⟨by omega,by omega,h2⟩,fun⟨h1,h2,h3⟩=>⟨by omega,h3⟩⟩
end
theorem ZlG (x:It):(decide (Zg7 x 7<=6)&&(decide (ZcW x 257<=256)&&ZbQ x))=ZaC x:=by
 rw[Zb2]
 have h1:=ZjF x 7 6 (by omega)
 have h2:=ZgT x 257
 have h3:ZcW x 257<=256->ZbL x=ZcW x 257:=fun h=>ZjC x 257 (by omega)
 have e1:decide (Zg7 x 7<=6)=ZbK x 6:=by
  cases hd:ZbK x 6 with
  | true=>exact decide_eq_true (h1.2 hd)
  | false=>exact decide_eq_false fun h=>by rw[h1.1 h]at hd;cases hd
 have e2:decide (ZcW x 257<=256)=decide (ZbL x<=256):=by
  rw[decide_eq_decide]
  exact⟨fun h=>by have:=h3 h;omega,fun h=>by omega⟩
 rw[e1,e2]
theorem ZfL:∀ {l:List It},∀ y ∈ l,ZbL y<=Zbg l
 | x::l,y,hy=>by
  rw[Zbg]
  rcases List.mem_cons.1 hy with rfl|hy
  ·omega
  ·have:=ZfL y hy;omega
theorem Zoy [Known](m:Nat)(hm:m<=1000):∀(x:It),ZbL x<=1000->AP Tryz.prog 174 [itD x,.int .i64 (m:Int)] (.int .i64 (ZcW x m:Int)) []:=by
 refine It.ind fun k n b l ih hs=>?_
 rw[ZbL]at hs
 have hlen:=Zar l
 have hll:l.length<=Zbg l:=by
  clear ih hs hlen
  induction l with
  | nil=>rw[Zbg];exact Nat.le_refl _
  | cons x l ih=>
   obtain⟨k',n',b',l'⟩:=x
   rw[Zbg,ZbL,List.length_cons];omega
 show AP Tryz.prog _ [.agg (itC k n b l),_] _ _
 rw[ZcW]
 generalize hfin:Zct l m 1=fin
 refine AP.ofA ?_
 refine Zan Tryz.func174 rfl Tryz.ntmps174 rfl rfl ?_
 repeat'(first|(apply Zah Zab;exact Z))
 refine ZaE (fun f tm bx fr=>∃(i c:Nat),f+i=l.length/\c+Zbg (l.drop i)<=1001/\Zct (l.drop i) m c=fin/\tm=[(1,.int .i64 (m:Int)),(2,.ptr 0 0),(5,.int .i64 (c:Int)),(6,.int .i64 (i:Int))]/\bx=[itC k n b l]/\fr=[]) (l.length+1) (Lands.mk' (m:=l.length) (Nat.lt_succ_self _) ⟨0,1,rfl,by rw[List.drop_zero];omega,hfin,rfl,rfl,rfl⟩ ?_ rfl rfl rfl rfl rfl rfl) ?_
 ·exact .cons rfl (.cons rfl (.cons rfl (.cons rfl .nil)))
 rintro f tm bx fr ⟨i,c,hf,hc,hfin,rfl,rfl,rfl⟩
 have hU:=Zb8 l
 rcases Nat.lt_or_ge i l.length with hlt|hge
 ·have hdl:decide ((i:Int)<((Zax l).length:Int))=true:=decide_eq_true (by omega)
  obtain⟨⟨k1,n1,b1,l1⟩,hy⟩:∃ y,l[i]?=some y:=⟨_,List.getElem?_eq_getElem hlt⟩
  have hv:(Zax l)[((i:Nat):Int).toNat]?=some (.agg [.int .i64 k1,.int .u64 (n1:Int),.sl (b1.map E.byte),.sl (Zax l1)]):=by
   rw[Int.toNat_natCast,ZaI,List.getElem?_map,hy];rfl
  have hdr:l.drop i=It.mk k1 n1 b1 l1::l.drop (i+1):=by
   rw[List.drop_eq_getElem_cons hlt];congr 1
   exact(List.getElem?_eq_some_iff.1 hy).2
  rw[hdr,Zbg]at hc
  rw[hdr,Zct]at hfin
  by_cases hcm:c<=m
  ·have hdm:decide ((c:Int)<=(m:Int))=true:=decide_eq_true (by omega)
   rw[if_pos hcm]at hfin
   have hmem:=List.mem_of_getElem? hy
   have hz:=ZfL _ hmem
   have hzl:=ZgT (.mk k1 n1 b1 l1) m
   have hcy:=ih _ hmem (by omega)
   have ei:IntKind.i64.wrap ((i:Int)+1)=((i+1:Nat):Int):=by rw[IntWalk.i64_in _ (by omega)];omega
   generalize hgr:ZcW (.mk k1 n1 b1 l1) m=r at hcy hfin hzl
   have ec:IntKind.i64.wrap ((c:Int)+(r:Int))=((c+r:Nat):Int):=by rw[IntWalk.i64_in _ (by omega)];omega
   repeat'(first|rw[ec]|rw[ei]|(apply Zaa (hcy);kernel_rfl;(iterate 4 exact Z))|(apply Zaj Zab;exact Z)|(apply Zah Zab;exact Z)|(apply Zav Zab;exact Z)|(apply Zae;(iterate 3 exact Z);exact Go.ZrJ)|(apply Zak;exact Z;exact Go.ZrJ;exact Z;exact Z)|(apply Zac;exact Z;exact Go.ZrJ)|(apply Zam Zab;(iterate 4 exact Z))|(apply Zau Zab;(iterate 6 exact Z);(first|exact Go.ZrJ|rotate_left);(first|with_reducible assumption|decide +kernel|exact Z);(first|exact Zai rfl|with_reducible assumption|decide +kernel|rotate_left)))
   refine Lands.mk' (m:=f-1) (by omega) ⟨i+1,c+r,by omega,by omega,hfin,rfl,rfl,rfl⟩ ?_ rfl rfl rfl rfl rfl rfl
   exact .cons rfl (.cons rfl (.cons rfl (.cons rfl .nil)))
  ·have hdm:decide ((c:Int)<=(m:Int))=false:=decide_eq_false (by omega)
   rw[if_neg hcm]at hfin
   subst hfin
   repeat'(first|(apply Zaj Zab;exact Z)|(apply Zah Zab;exact Z)|(apply Zav Zab;exact Z)|(apply Zae;(iterate 3 exact Z);exact Go.ZrJ)|(apply Zak;exact Z;exact Go.ZrJ;exact Z;exact Z)|(apply Zaf;exact Z;exact Go.ZrJ)|(apply Zam Zab;(iterate 4 exact Z)))
   all_goals(apply Zaw [];(apply Zad Zab;exact Z);(iterate 4 exact Z))
   all_goals rfl
 ·have hdl:decide ((i:Int)<((Zax l).length:Int))=false:=decide_eq_false (by omega)
  rw[List.drop_eq_nil_of_le hge,Zct]at hfin
  subst hfin
  repeat'(first|(apply Zaj Zab;exact Z)|(apply Zah Zab;exact Z)|(apply Zav Zab;exact Z)|(apply Zas;(iterate 3 exact Z);exact Go.ZrJ)|(apply Zag;exact Z;exact Go.ZrJ;exact Z;exact Z)|(apply Zaf;exact Z;exact Go.ZrJ)|(apply Zam Zab;(iterate 4 exact Z)))
  all_goals(apply Zaw [];(apply Zad Zab;exact Z);(iterate 4 exact Z))
  all_goals rfl
theorem Zoz [Known]:∀(x:It),wfI x->∀ m:Nat,m<=1000->AP Tryz.prog 173 [itD x,.int .i64 (m:Int)] (.int .i64 (Zg7 x m:Int)) []:=by
 refine It.ind fun k n b l ih hw m hm=>?_
 obtain⟨_,_,hl,hws⟩:=hw
 have hlen:=Zar l
 show AP Tryz.prog _ [.agg (itC k n b l),_] _ _
 rw[Zg7]
 generalize hfin:Zdq l m 1=fin
 refine AP.ofA ?_
 refine Zan Tryz.func173 rfl Tryz.ntmps173 rfl rfl ?_
 repeat'(first|(apply Zah Zab;exact Z))
 refine ZaE (fun f tm bx fr=>∃(i c:Nat),f+i=l.length/\c<=m+1/\Zdq (l.drop i) m c=fin/\tm=[(1,.int .i64 (m:Int)),(2,.ptr 0 0),(5,.int .i64 (c:Int)),(6,.int .i64 (i:Int))]/\bx=[itC k n b l]/\fr=[]) (l.length+1) (Lands.mk' (m:=l.length) (Nat.lt_succ_self _) ⟨0,1,rfl,by omega,hfin,rfl,rfl,rfl⟩ ?_ rfl rfl rfl rfl rfl rfl) ?_
 ·exact .cons rfl (.cons rfl (.cons rfl (.cons rfl .nil)))
 rintro f tm bx fr ⟨i,c,hf,hc,hfin,rfl,rfl,rfl⟩
 have hU:=Zb8 l
 rcases Nat.lt_or_ge i l.length with hlt|hge
 ·have hdl:decide ((i:Int)<((Zax l).length:Int))=true:=decide_eq_true (by omega)
  obtain⟨⟨k1,n1,b1,l1⟩,hy⟩:∃ y,l[i]?=some y:=⟨_,List.getElem?_eq_getElem hlt⟩
  have hv:(Zax l)[((i:Nat):Int).toNat]?=some (.agg [.int .i64 k1,.int .u64 (n1:Int),.sl (b1.map E.byte),.sl (Zax l1)]):=by
   rw[Int.toNat_natCast,ZaI,List.getElem?_map,hy];rfl
  have hdr:l.drop i=It.mk k1 n1 b1 l1::l.drop (i+1):=by
   rw[List.drop_eq_getElem_cons hlt];congr 1
   exact(List.getElem?_eq_some_iff.1 hy).2
  rw[hdr]at hfin
  cases m with
  | zero=>
   rw[Zdq]at hfin
   have hdm:decide (((0:Nat):Int)>0)=false:=by decide
   subst hfin
   repeat'(first|(apply Zaj Zab;exact Z)|(apply Zah Zab;exact Z)|(apply Zav Zab;exact Z)|(apply Zae;(iterate 3 exact Z);exact Go.ZrJ)|(apply Zak;exact Z;exact Go.ZrJ;exact Z;exact Z)|(apply Zaf;exact Z;exact Go.ZrJ)|(apply Zam Zab;(iterate 4 exact Z)))
   all_goals(apply Zaw [];(apply Zad Zab;exact Z);(iterate 4 exact Z))
   all_goals rfl
  | succ m=>
   rw[Zdq]at hfin
   have hdm:decide (((m+1:Nat):Int)>0)=true:=decide_eq_true (by omega)
   have hmem:=List.mem_of_getElem? hy
   have hcy:=ih _ hmem (ZaY hws _ hmem) m (by omega)
   have hzl:=ZlF (.mk k1 n1 b1 l1) m
   have ei:IntKind.i64.wrap ((i:Int)+1)=((i+1:Nat):Int):=by rw[IntWalk.i64_in _ (by omega)];omega
   have em:IntKind.i64.wrap (((m+1:Nat):Int)-1)=(m:Int):=by rw[IntWalk.i64_in _ (by omega)];omega
   generalize hgr:Zg7 (.mk k1 n1 b1 l1) m=r at hcy hfin hzl
   have ec:IntKind.i64.wrap (1+(r:Int))=((1+r:Nat):Int):=by rw[IntWalk.i64_in _ (by omega)];omega
   by_cases hcr:c<1+r
   ·rw[if_pos hcr]at hfin
    have t3:decide (((1+r:Nat):Int)>(c:Int))=true:=decide_eq_true (by omega)
    repeat'(first|rw[ec]|rw[ei]|rw[em]|(apply Zaa (hcy);kernel_rfl;(iterate 4 exact Z))|(apply Zaj Zab;exact Z)|(apply Zah Zab;exact Z)|(apply Zav Zab;exact Z)|(apply Zae;(iterate 3 exact Z);exact Go.ZrJ)|(apply Zak;exact Z;exact Go.ZrJ;exact Z;exact Z)|(apply Zac;exact Z;exact Go.ZrJ)|(apply Zam Zab;(iterate 4 exact Z))|(apply Zau Zab;(iterate 6 exact Z);(first|exact Go.ZrJ|rotate_left);(first|with_reducible assumption|decide +kernel|exact Z);(first|exact Zai rfl|with_reducible assumption|decide +kernel|rotate_left)))
    refine Lands.mk' (m:=f-1) (by omega) ⟨i+1,1+r,by omega,by omega,hfin,rfl,rfl,rfl⟩ ?_ rfl rfl rfl rfl rfl rfl
    exact .cons rfl (.cons rfl (.cons rfl (.cons rfl .nil)))
   ·rw[if_neg hcr]at hfin
    have t3:decide (((1+r:Nat):Int)>(c:Int))=false:=decide_eq_false (by omega)
    repeat'(first|rw[ec]|rw[ei]|rw[em]|(apply Zaa (hcy);kernel_rfl;(iterate 4 exact Z))|(apply Zaj Zab;exact Z)|(apply Zah Zab;exact Z)|(apply Zav Zab;exact Z)|(apply Zae;(iterate 3 exact Z);exact Go.ZrJ)|(apply Zak;exact Z;exact Go.ZrJ;exact Z;exact Z)|(apply Zac;exact Z;exact Go.ZrJ)|(apply Zaf;exact Z;exact Go.ZrJ)|(apply Zam Zab;(iterate 4 exact Z))|(apply Zau Zab;(iterate 6 exact Z);(first|exact Go.ZrJ|rotate_left);(first|with_reducible assumption|decide +kernel|exact Z);(first|exact Zai rfl|with_reducible assumption|decide +kernel|rotate_left)))
    refine Lands.mk' (m:=f-1) (by omega) ⟨i+1,c,by omega,by omega,hfin,rfl,rfl,rfl⟩ ?_ rfl rfl rfl rfl rfl rfl
    exact .cons rfl (.cons rfl (.cons rfl (.cons rfl .nil)))
 ·have hdl:decide ((i:Int)<((Zax l).length:Int))=false:=decide_eq_false (by omega)
  rw[List.drop_eq_nil_of_le hge]at hfin
  have hfin:c=fin:=by rw[<- hfin,Zdq]
  subst hfin
  repeat'(first|(apply Zaj Zab;exact Z)|(apply Zah Zab;exact Z)|(apply Zav Zab;exact Z)|(apply Zas;(iterate 3 exact Z);exact Go.ZrJ)|(apply Zag;exact Z;exact Go.ZrJ;exact Z;exact Z)|(apply Zaf;exact Z;exact Go.ZrJ)|(apply Zam Zab;(iterate 4 exact Z)))
  all_goals(apply Zaw [];(apply Zad Zab;exact Z);(iterate 4 exact Z))
  all_goals rfl
end Go.Proofs.YtakblclkflnnpaaGreatDoor
end
