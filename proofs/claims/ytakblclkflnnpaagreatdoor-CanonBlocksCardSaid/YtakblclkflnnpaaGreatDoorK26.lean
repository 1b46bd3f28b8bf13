/- Package eid, package ident: names and numbers, and which is ahead. -/
import Derived.Test.YtakblclkflnnpaaGreatDoorK25
import Derived.Test.YtakblclkflnnpaaGreatDoorK07
import Derived.Test.YtakblclkflnnpaaGreatDoorK09
import Derived.Test.YtakblclkflnnpaaGreatDoorK12
import Derived.Test.YtakblclkflnnpaaGreatDoorK21
set_option linter.unusedVariables false
set_option linter.unusedSimpArgs false
section
open Go.RowKit Go.Pl Go.Av
namespace Go.Proofs.YtakblclkflnnpaaGreatDoor
set_option maxHeartbeats 4000000
theorem ZjG [Known](s:List UInt8)(m:Nat)(hm:m<128):AP Tryz.prog 150 [.str s,.int .i32 (m:Int)] (.bool (s.all (okB m))) []:=by
 refine⟨fun g w vs hmem hl hv=>?_⟩
 obtain⟨v0,v1,rfl⟩:∃ v0 v1,vs=[v0,v1]:=by
  match vs,hl with
  | [v0,v1],_=>exact⟨v0,v1,rfl⟩
 have h0:=(hv 0 _ _ rfl rfl).str_inv.1
 have h1:=(hv 1 _ _ rfl rfl).int_inv
 subst h0 h1
 exact(Zkn ⟨s.toArray⟩ m hm w _ rfl).mono fun e w' ⟨he,hb⟩=>Zi6 hmem hb he (.bool _)
structure EidV where
 i:Bool
 n:Nat
 s:Nat
 h:List UInt8
 d:List UInt8
 deriving DecidableEq
abbrev eC (x:EidV):List D:=[.bool x.i,.int .u64 (x.n:Int),.int .u64 (x.s:Int),.str x.h,.str x.d]
def ZdR:EidV:=⟨false,0,0,[],[]⟩
def isZ (x:EidV):Bool:=x.i==false&&((x.n:Int)==0&&((x.s:Int)==0&&(x.h==[]&&(x.d==[]&&true))))
def Za3 (x:EidV):Bool:=
 if isZ x then true
 else if x.i then(x.i==true&&((x.n:Int)==(x.n:Int)&&((x.s:Int)==(x.s:Int)&&(x.h==[]&&(x.d==[]&&true)))))&&decide ((x.n:Int) ≥ 1)&&decide ((x.n:Int)<=4294967295)&&decide ((x.s:Int)<=4294967295)
 else(x.i==false&&((x.n:Int)==0&&((x.s:Int)==0&&(x.h==x.h&&(x.d==x.d&&true)))))&&decide ((x.h.length:Int) ≥ 1)&&decide ((x.h.length:Int)<=16)&&decide ((x.d.length:Int)<=24)&&x.h.all (okB 45)&&x.d.all (okB 47)
theorem ZgU {x:EidV}(h:isZ x=true):Za3 x=true:=by unfold Za3;rw[if_pos h]
theorem ZgV {x:EidV}(h:isZ x=false)(hi:x.i=true):Za3 x=((x.i==true&&((x.n:Int)==(x.n:Int)&&((x.s:Int)==(x.s:Int)&&(x.h==[]&&(x.d==[]&&true)))))&&decide ((x.n:Int) ≥ 1)&&decide ((x.n:Int)<=4294967295)&&decide ((x.s:Int)<=4294967295)):=by
 unfold Za3;rw[if_neg (by rw[h];decide),if_pos hi]
theorem ZgW {x:EidV}(h:isZ x=false)(hi:x.i=false):Za3 x=((x.i==false&&((x.n:Int)==0&&((x.s:Int)==0&&(x.h==x.h&&(x.d==x.d&&true)))))&&decide ((x.h.length:Int) ≥ 1)&&decide ((x.h.length:Int)<=16)&&decide ((x.d.length:Int)<=24)&&x.h.all (okB 45)&&x.d.all (okB 47)):=by
 unfold Za3;rw[if_neg (by rw[h];decide),if_neg (by rw[hi];decide)]
theorem ZhP [Known](x:EidV):AP Tryz.prog 91 [.agg (eC x)] (.bool (Za3 x)) []:=by
 refine AP.ofA ?_
 refine Zan Tryz.func91 rfl Tryz.ntmps91 rfl rfl ?_
 cases hz:isZ x with
 | true=>
  rw[ZgU hz]
  unfold isZ at hz
  repeat'(first|(apply Zaj Zab;exact Z)|(apply Zah Zab;exact Z)|(apply Zav Zab;exact Z)|(apply Zac;exact Z;(first|with_reducible assumption|(solve|simp only[bn])))|(apply Zi4 Zab;(iterate 4 exact Z);kernel_rfl;kernel_rfl;(iterate 3 exact Z)))
  (apply Zaw [];(apply Zad Zab;exact Z);(iterate 4 exact Z))
  all_goals rfl
 | false=>
  cases hi:x.i with
  | true=>
   rw[ZgV hz hi]
   unfold isZ at hz
   repeat'(first|(apply Zaj Zab;exact Z)|(apply Zah Zab;exact Z)|(apply Zav Zab;exact Z)|(apply Zae;(iterate 3 exact Z);(first|with_reducible assumption|(solve|simp only[bn])))|(apply Zas;(iterate 3 exact Z);(first|with_reducible assumption|(solve|simp only[bn])))|(apply Zbo;exact Z;exact Z;all_goals intro hb)|(apply Zak;exact Z;(first|with_reducible assumption|(solve|simp only[bn]));exact Z;exact Z)|(apply Zag;exact Z;(first|with_reducible assumption|(solve|simp only[bn]));exact Z;exact Z)|(apply Zac;exact Z;(first|with_reducible assumption|(solve|simp only[bn])))|(apply Zaf;exact Z;(first|with_reducible assumption|(solve|simp only[bn])))|(apply Zi4 Zab;(iterate 4 exact Z);kernel_rfl;kernel_rfl;(iterate 3 exact Z)))
   all_goals(apply Zaw [];(apply Zad Zab;exact Z);(iterate 4 exact Z))
   all_goals first|rfl|(clear hi hz;simp only[*];done)|(clear hi hz;simp only[*];simp only[Bool.and_true,Bool.true_and,Bool.and_false,Bool.false_and];done)
  | false=>
   rw[ZgW hz hi]
   unfold isZ at hz
   repeat'(first|(apply Zaa (ZjG x.h 45 (by decide));kernel_rfl;(iterate 4 exact Z))|(apply Zaa (ZjG x.d 47 (by decide));kernel_rfl;(iterate 4 exact Z))|(apply Zaj Zab;exact Z)|(apply Zah Zab;exact Z)|(apply Zav Zab;exact Z)|(apply Zae;(iterate 3 exact Z);(first|with_reducible assumption|(solve|simp only[bn])))|(apply Zas;(iterate 3 exact Z);(first|with_reducible assumption|(solve|simp only[bn])))|(apply Zbo;exact Z;exact Z;all_goals intro hb)|(apply Zak;exact Z;(first|with_reducible assumption|(solve|simp only[bn]));exact Z;exact Z)|(apply Zag;exact Z;(first|with_reducible assumption|(solve|simp only[bn]));exact Z;exact Z)|(apply Zaf;exact Z;(first|with_reducible assumption|(solve|simp only[bn])))|(apply Zbl Zab;(iterate 4 exact Z))|(apply Zi4 Zab;(iterate 4 exact Z);kernel_rfl;kernel_rfl;(iterate 3 exact Z)))
   all_goals(apply Zaw [];(apply Zad Zab;exact Z);(iterate 4 exact Z))
   all_goals first|rfl|(clear hi hz;simp only[*];done)|(clear hi hz;simp only[*];simp only[Bool.and_true,Bool.true_and,Bool.and_false,Bool.false_and];done)
abbrev Zp4 (s:Int):Int:=s.fdiv (2 ^ (min (Int.toNat 1) IntKind.u32.bits))
def Zc7 (s p:Int):Int:=match(bits .and .u32 s 1==1) with
 | true=>bits .xor .u32 (Zp4 s) p
 | false=>Zp4 s
theorem Zm0 [Known](s p:Int):AP Tryz.prog 213 [.int .u32 s,.int .u32 p] (.int .u32 (Zc7 s p)) []:=by
 unfold Zc7
 cases t:(bits .and .u32 s 1==1)
 all_goals
  refine AP.ofA ?_
  refine Zan Tryz.func213 rfl Tryz.ntmps213 rfl rfl ?_
  repeat'(first|(apply Zaj Zab;exact Z)|(apply Zah Zab;exact Z)|(apply Zac;exact Z;exact Go.ZrJ)|(apply Zaf;exact Z;exact Go.ZrJ)|(apply ZbD;exact Z;exact Z;(first|exact Go.ZrJ|rotate_left);exact Z))
  all_goals(apply Zaw [];(apply Zad Zab;exact Z);(iterate 4 exact Z))
  all_goals rfl
def ZlI (s:Int)(c:UInt8)(p:Int):Int:=
 Zc7 (Zc7 (Zc7 (Zc7 (Zc7 (Zc7 (Zc7 (Zc7 (bits .xor .u32 s (IntKind.u32.wrap (c.toNat:Int))) p) p) p) p) p) p) p) p
theorem ZlJ [Known](s p:Int)(c:UInt8):AP Tryz.prog 205 [.int .u32 s,.int .u8 (c.toNat:Int),.int .u32 p] (.int .u32 (ZlI s c p)) []:=by
 refine AP.ofA ?_
 refine Zan Tryz.func205 rfl Tryz.ntmps205 rfl rfl ?_
 repeat'(first|(apply Zaa (Zm0 _ _);kernel_rfl;(iterate 4 exact Z))|refine Zbf 20 ?_|refine Zbs ?_|(apply Zaj Zab;exact Z)|(apply Zah Zab;exact Z)|(apply Zac;exact Z;exact Go.ZrJ)|(apply Zaf;exact Z;exact Go.ZrJ))
 all_goals(apply Zaw [];(apply Zad Zab;exact Z);(iterate 4 exact Z))
 all_goals rfl
def Zm1 (s p:Int)(b:List UInt8):Int:=b.foldl (fun s c=>ZlI s c p) s
theorem ZnI [Known](s p:Int)(b:List UInt8)(hb:b.length<=1000000000):AP Tryz.prog 190 [.int .u32 s,byE b,.int .u32 p] (.int .u32 (Zm1 s p b)) []:=by
 have hl:(b.map E.byte).length=b.length:=List.length_map ..
 have hU:=Zbm b
 generalize hfin:Zm1 s p b=fin
 refine AP.ofA ?_
 refine Zan Tryz.func190 rfl Tryz.ntmps190 rfl rfl ?_
 repeat'(first|(apply Zaj Zab;exact Z)|(apply Zah Zab;exact Z)|(apply Zam Zab;(iterate 4 exact Z)))
 refine ZaE (fun k tm bx fr=>∃(i:Nat) (q:Int) (o:D),k+i=b.length/\Zm1 q p (b.drop i)=fin/\tm=[(0,.int .u32 q),(1,byE b),(2,.int .u32 p),(6,.int .u32 0),(9,byE b),(10,.int .i64 (b.length:Int)),(11,.int .i64 (i:Int))]/\bx=[]/\fr=[]) (b.length+1) (Lands.mk' (m:=b.length) (Nat.lt_succ_self _) ⟨0,s,.tup [],by omega,hfin,rfl,rfl,rfl⟩ ?_ rfl rfl rfl rfl rfl rfl) ?_
 ·exact .cons rfl (.cons rfl (.cons rfl (.cons rfl (.cons rfl (.cons (by rw[<- hl];rfl) (.cons rfl .nil))))))
 rintro k tm bx fr ⟨i,q,o,hk,hq,rfl,rfl,rfl⟩
 rcases Nat.lt_or_ge i b.length with hlt|hge
 ·have hd:decide ((i:Int)<(b.length:Int))=true:=decide_eq_true (by omega)
  obtain⟨c,hc⟩:∃ c,b[i]?=some c:=⟨_,List.getElem?_eq_getElem hlt⟩
  have hv:(b.map E.byte)[((i:Nat):Int).toNat]?=some (E.byte c):=by
   rw[Int.toNat_natCast,List.getElem?_map,hc];rfl
  have hdr:b.drop i=c::b.drop (i+1):=by
   rw[List.drop_eq_getElem_cons hlt];congr 1
   exact(List.getElem?_eq_some_iff.1 hc).2
  rw[hdr]at hq
  have hq2:Zm1 (ZlI q c p) p (b.drop (i+1))=fin:=hq
  have ei:IntKind.i64.wrap ((i:Int)+1)=((i+1:Nat):Int):=by rw[IntWalk.i64_in _ (by omega)];omega
  repeat'(first|(apply Zaa (ZlJ _ _ _);kernel_rfl;(iterate 4 exact Z))|rw[ei]|(apply Zaj Zab;exact Z)|(apply Zah Zab;exact Z)|(apply Zac;exact Z;exact Go.ZrJ)|(apply Zau Zab;(iterate 6 exact Z);(first|exact Go.ZrJ|rotate_left);(first|with_reducible assumption|decide +kernel|exact Z);(first|exact Zai rfl|with_reducible assumption|decide +kernel|rotate_left)))
  refine Lands.mk' (m:=k-1) (by omega) ⟨i+1,_,.tup [],by omega,hq2,rfl,rfl,rfl⟩ ?_ rfl rfl rfl rfl rfl rfl
  exact .cons rfl (.cons rfl (.cons rfl (.cons rfl (.cons rfl (.cons rfl (.cons rfl .nil))))))
 ·have hd:decide ((i:Int)<(b.length:Int))=false:=decide_eq_false (by omega)
  rw[List.drop_eq_nil_of_le hge]at hq
  have hq:q=fin:=hq
  subst hq
  repeat'(first|(apply Zah Zab;exact Z)|(apply Zaf;exact Z;exact Go.ZrJ))
  all_goals(apply Zaw [];(apply Zad Zab;exact Z);(iterate 4 exact Z))
  all_goals rfl
def Zek (b:List UInt8):Int:=bits .xor .u16 (if IntKind.u16.signed then -1 else IntKind.u16.max) (IntKind.u16.wrap (Zm1 65535 33800 b))
def ZeG (b:List UInt8):Int:=bits .xor .u32 (if IntKind.u32.signed then -1 else IntKind.u32.max) (Zm1 4294967295 2197175160 b)
theorem Zm2 [Known](b:List UInt8)(hb:b.length<=1000000000):AP Tryz.prog 169 [byE b] (.int .u16 (Zek b)) []:=by
 have hR:=ZnI 65535 33800 b hb
 refine AP.ofA ?_
 refine Zan Tryz.func169 rfl Tryz.ntmps169 rfl rfl ?_
 repeat'(first|(apply Zaa (hR);kernel_rfl;(iterate 4 exact Z))|(apply ZnF;exact Z;exact Z)|(apply Zaj Zab;exact Z)|(apply Zah Zab;exact Z))
 all_goals(apply Zaw [];(apply Zad Zab;exact Z);(iterate 4 exact Z))
 all_goals rfl
theorem ZoC [Known](b:List UInt8)(hb:b.length<=1000000000):AP Tryz.prog 170 [byE b] (.int .u32 (ZeG b)) []:=by
 have hR:=ZnI 4294967295 2197175160 b hb
 refine AP.ofA ?_
 refine Zan Tryz.func170 rfl Tryz.ntmps170 rfl rfl ?_
 repeat'(first|(apply Zaa (hR);kernel_rfl;(iterate 4 exact Z))|(apply ZnF;exact Z;exact Z)|(apply Zaj Zab;exact Z)|(apply Zah Zab;exact Z))
 all_goals(apply Zaw [];(apply Zad Zab;exact Z);(iterate 4 exact Z))
 all_goals rfl
def ZaR (s:Nat)(l:List It):It:=.mk 4 0 [] (l++[.mk 2 0 (List.replicate (2*s) 0) []])
abbrev shU (k:IntKind)(z:Int)(q:Int):Int:=IntKind.u8.wrap (z.fdiv (2 ^ (min q.toNat k.bits)))
def Zp5 (s:Nat)(b:List UInt8):List E:=
 if s=1 then [.int .u8 (shU .u16 (Zek b) 8),.int .u8 (IntKind.u8.wrap (Zek b))]
 else [.int .u8 (shU .u32 (ZeG b) 24),.int .u8 (shU .u32 (ZeG b) 16),.int .u8 (shU .u32 (ZeG b) 8),.int .u8 (IntKind.u8.wrap (ZeG b))]
def by8 (z:Int):UInt8:=UInt8.ofNat (IntKind.u8.wrap z).toNat
theorem Zqr (z:Int):E.byte (by8 z)=.int .u8 (IntKind.u8.wrap z):=by
 have h:0<=IntKind.u8.wrap z/\IntKind.u8.wrap z<256:=by
  rw[IntKind.wrap_u8];omega
 show E.int .u8 ((by8 z).toNat:Int)=_
 have e:((by8 z).toNat:Int)=IntKind.u8.wrap z:=by
  unfold by8
  rw[UInt8.toNat_ofNat']
  omega
 rw[e]
def Ze3 (s:Nat)(b:List UInt8):List UInt8:=
 if s=1 then [by8 ((Zek b).fdiv (2 ^ (min (8:Int).toNat IntKind.u16.bits))),by8 (Zek b)]
 else [by8 ((ZeG b).fdiv (2 ^ (min (24:Int).toNat IntKind.u32.bits))),by8 ((ZeG b).fdiv (2 ^ (min (16:Int).toNat IntKind.u32.bits))),by8 ((ZeG b).fdiv (2 ^ (min (8:Int).toNat IntKind.u32.bits))),by8 (ZeG b)]
theorem ZlK (s:Nat)(b:List UInt8):(Ze3 s b).map E.byte=Zp5 s b:=by
 unfold Ze3 Zp5
 split<;>simp only[List.map_cons,List.map_nil,Zqr]
theorem ZgX (s:Nat)(b:List UInt8)(hs:s=1\/s=2):(Ze3 s b).length=2*s:=by
 unfold Ze3
 rcases hs with rfl|rfl<;>rfl
theorem ZgY:∀ {l r:List It},wfs l->wfs r->wfs (l++r)
 | [],r,_,h=>h
 | x::l,r,h1,h2=>⟨h1.1,ZgY h1.2 h2⟩
theorem ZlL {s:Nat}{l:List It}(hs:s=1\/s=2)(hws:wfs l)(hl:l.length<=1000000):wfI (ZaR s l):=by
 refine⟨by decide,by simp,by simp;omega,ZgY hws ⟨⟨by decide,?_,by simp,trivial⟩,trivial⟩⟩
 rcases hs with rfl|rfl<;>decide
theorem Zgt [Known](s:Nat)(hs:s=1\/s=2):AP Tryz.prog 142 [.int .i64 (s:Int)] (.int .i64 ((2*s:Nat):Int)) []:=by
 rcases hs with rfl|rfl
 all_goals
  refine AP.ofA ?_
  refine Zan Tryz.func142 rfl Tryz.ntmps142 rfl rfl ?_
  repeat'(first|(apply Zah Zab;exact Z))
  all_goals(apply Zaw [];(apply Zad Zab;exact Z);(iterate 4 exact Z))
  all_goals rfl
theorem ZjH [Known][KnownU8](l:List It)(s:Nat)(hs:s=1\/s=2)(hne:l ≠ [])(hws:wfs l)(hl:l.length<=1000000)(hlim:(Za9 (ZaR s l)).length<=1000000000) :
  AP Tryz.prog 141 [.sl .ext (Zax l),.int .i64 (s:Int)] (match ZaC (ZaR s l) with|true=>.tup [byE (Ze3 s (Za9 (ZaR s l))),.int .i64 0]|false=>.tup [.sl .ext [],.int .i64 3]) []:=by
 have hwz:=ZlL hs hws hl
 have hC:=ZlH l hne hl
 have hW:=ZhA (ZaR s l) hwz (by omega) (Zch _ hwz)
 have hU:=Zb8 l
 have hlen:=Zar l
 have hmx:(Zax l).length<=1000000:=by omega
 have hZ:=Zgt s hs
 have hB:=Zfa (List.replicate (2*s) 0) (by rcases hs with rfl|rfl<;>decide)
 have hL:=ZgP (l++[.mk 2 0 (List.replicate (2*s) 0) []]) (by simp;omega) hwz.2.2.2
 have hSh:=Zm2 (Za9 (ZaR s l)) hlim
 have hLo:=ZoC (Za9 (ZaR s l)) hlim
 rw[Zb4]at hL
 have eZ:itD (.mk 4 0 [] (l++[.mk 2 0 (List.replicate (2*s) 0) []]))=itD (ZaR s l):=rfl
 rw[eZ]at hL
 unfold byE
 rw[ZlK]
 rw[<- hlen]at hC
 cases hr:ZaC (ZaR s l) with
 | false=>
  rw[hr]at hW
  replace hW:AP Tryz.prog 112 [itD (ZaR s l)] (.tup [.sl .ext [],.int .i64 3]) []:=hW
  have eL:itD (ZaR s l)=.agg [.int .i64 4,.int .u64 0,.sl .ext [],.sl .ext (Zax (l++[.mk 2 0 (List.replicate (2*s) 0) []]))]:=rfl
  rw[eL]at hL hW
  generalize Zax (l++[.mk 2 0 (List.replicate (2*s) 0) []])=ZL at *
  clear hSh hLo hlim hwz eZ eL
  rcases hs with rfl|rfl
  all_goals
   refine AP.ofA ?_
   refine Zan Tryz.func141 rfl Tryz.ntmps141 rfl rfl ?_
   repeat'(first|(apply ZaS [] [] (hC);kernel_rfl;(iterate 10 exact Z))|(apply Zaa (hZ);kernel_rfl;(iterate 4 exact Z))|(apply ZcR Zab (l:=2);(iterate 12 exact Z))|(apply ZcR Zab (l:=4);(iterate 12 exact Z))|(apply Zaa (hB);kernel_rfl;(iterate 4 exact Z))|(apply Zaa (hL);kernel_rfl;(iterate 4 exact Z))|(apply Zaa (hW);kernel_rfl;(iterate 4 exact Z))|(apply Zaj Zab;exact Z)|(apply Zah Zab;exact Z)|(apply Zav Zab;exact Z)|(apply Zac;exact Z;exact Go.ZrJ)|(apply ZaX Zab;(iterate 12 exact Z))|(apply ZaJ Zab;(iterate 6 exact Z);(first|with_reducible assumption|decide +kernel|exact Z|rotate_left);exact Z;exact Z;(first|exact Zai rfl|with_reducible assumption|decide +kernel|rotate_left);(first|exact Zai rfl|with_reducible assumption|decide +kernel|rotate_left);(first|exact Go.ZrJ|rotate_left);(first|exact Go.ZrJ|rotate_left);(first|exact Go.ZrJ|rotate_left);exact Z;exact Z))
   all_goals first|((apply Zaw [];(apply Zad Zab;exact Z);(iterate 4 exact Z)))|skip
   all_goals first|rfl|(first|rfl|(simp only[List.length_append,List.length_cons,List.length_nil,List.length_map,Zar];done)|(simp only[List.length_append,List.length_cons,List.length_nil,List.length_map,Zar]at *;(try unfold maxLen);(try simp only[Nat.add_mul]);omega))|(simp;done)|(simp;omega)|(simp;unfold maxLen;omega)
 | true=>
  rw[hr]at hW
  replace hW:AP Tryz.prog 112 [itD (ZaR s l)] (.tup [byE (Za9 (ZaR s l)),.int .i64 0]) []:=hW
  have eL:itD (ZaR s l)=.agg [.int .i64 4,.int .u64 0,.sl .ext [],.sl .ext (Zax (l++[.mk 2 0 (List.replicate (2*s) 0) []]))]:=rfl
  rw[eL]at hL hW
  generalize Zax (l++[.mk 2 0 (List.replicate (2*s) 0) []])=ZL at *
  generalize Za9 (ZaR s l)=PZ at *
  clear hlim hwz eZ eL hr
  rcases hs with rfl|rfl
  all_goals
   refine AP.ofA ?_
   refine Zan Tryz.func141 rfl Tryz.ntmps141 rfl rfl ?_
   repeat'(first|(apply ZaS [] [] (hC);kernel_rfl;(iterate 10 exact Z))|(apply Zaa (hZ);kernel_rfl;(iterate 4 exact Z))|(apply ZcR Zab (l:=2);(iterate 12 exact Z))|(apply ZcR Zab (l:=4);(iterate 12 exact Z))|(apply Zaa (hB);kernel_rfl;(iterate 4 exact Z))|(apply Zaa (hL);kernel_rfl;(iterate 4 exact Z))|(apply Zaa (hW);kernel_rfl;(iterate 4 exact Z))|(apply Zaa (hSh);kernel_rfl;(iterate 4 exact Z))|(apply Zaa (hLo);kernel_rfl;(iterate 4 exact Z))|(apply Zaj Zab;exact Z)|(apply Zah Zab;exact Z)|(apply Zac;exact Z;exact Go.ZrJ)|(apply Zaf;exact Z;exact Go.ZrJ)|(apply ZaX Zab;(iterate 12 exact Z))|(apply ZaJ Zab;(iterate 6 exact Z);(first|with_reducible assumption|decide +kernel|exact Z|rotate_left);exact Z;exact Z;(first|exact Zai rfl|with_reducible assumption|decide +kernel|rotate_left);(first|exact Zai rfl|with_reducible assumption|decide +kernel|rotate_left);(first|exact Go.ZrJ|rotate_left);(first|exact Go.ZrJ|rotate_left);(first|exact Go.ZrJ|rotate_left);exact Z;exact Z)|(apply ZbD;exact Z;exact Z;(first|exact Go.ZrJ|rotate_left);exact Z))
   all_goals first|((apply Zaw [];(apply Zad Zab;exact Z);(iterate 4 exact Z)))|skip
   all_goals first|rfl|(first|rfl|(simp only[List.length_append,List.length_cons,List.length_nil,List.length_map,Zar];done)|(simp only[List.length_append,List.length_cons,List.length_nil,List.length_map,Zar]at *;(try unfold maxLen);(try simp only[Nat.add_mul]);omega))|(simp;done)|(simp;omega)|(simp;unfold maxLen;omega)
theorem Zm3 [Known](l:List It)(hne:l ≠ [])(hl:l.length<=2199023255488)(hws:wfs l):AT Tryz.prog 87 [.sl .ext (Zax l)] [] [] (.agg [.int .i64 4,.int .u64 0,.sl .nil [],.sl (.own 0) (Zax l)]) [] [⟨(Zax l).length,4,32⟩]:=by
 have ih':∀ y ∈ l,AP Tryz.prog 145 [itD y] (itD y) []:=fun y hy=>Zht y (ZaY hws y hy)
 have hlen:=Zar l
 refine Zan Tryz.func87 rfl Tryz.ntmps87 rfl rfl ?_
 repeat'(first|(apply Zaj Zab;exact Z)|(apply Zah Zab;exact Z)|(apply Zam Zab;(iterate 4 exact Z)))
 refine ZaE (fun k' tm bx fr=>∃(i c:Nat) (L:List E),k'+i=l.length/\c=L.length/\L=Zax (l.take i)/\tm=[(3,.ptr 1 0),(2,.ptr 0 0),(7,.sl .ext (Zax l)),(8,.int .i64 ((Zax l).length:Int)),(9,.int .i64 (i:Int))] /\
  ((i=0/\bx=[[.int .i64 0,.int .u64 0,.sl .nil [],.sl .nil []],[.int .i64 4,.int .u64 0,.sl .nil [],.sl .nil []]]/\fr=[]) \/
  (bx=[[.int .i64 0,.int .u64 0,.sl .nil [],.sl .nil []],[.int .i64 4,.int .u64 0,.sl .nil [],.sl (.own 0) L]]/\fr=[⟨c,4,32⟩]))) (l.length+1) (Lands.mk' (m:=l.length) (Nat.lt_succ_self _) ⟨0,0,[],rfl,rfl,rfl,rfl,.inl ⟨rfl,rfl,rfl⟩⟩ ?_ rfl rfl rfl rfl rfl rfl) ?_
 ·exact .cons rfl (.cons rfl (.cons rfl (.cons rfl (.cons rfl .nil))))
 rintro k' tm bx fr ⟨i,c,L,hi,hc,hL,rfl,⟨rfl,rfl,rfl⟩ | ⟨rfl,rfl⟩⟩
 ·cases l with
  | nil=>exact absurd rfl hne
  | cons y l=>
   have hc:=ih' y (List.mem_cons_self ..)
   have hU:=Zb8 (y::l)
   have hd:decide (((0:Nat):Int)<((Zax (y::l)).length:Int))=true:=decide_eq_true (by rw[Zax];simp)
   obtain⟨k1,n1,b1,l1⟩:=y
   repeat'(first|(apply Zaa (hc);kernel_rfl;(iterate 4 exact Z))|(apply ZaU Zab;(iterate 6 exact Z);exact Zai rfl;exact List.cons_ne_nil _ _;exact Z;decide +kernel;decide +kernel;(iterate 3 exact Z))|(apply Zaj Zab;exact Z)|(apply Zah Zab;exact Z)|(apply Zav Zab;exact Z)|(apply Zac;exact Z;exact Go.ZrJ)|(apply ZaX Zab;(iterate 12 exact Z))|(apply Zao 5 ZaL;decide +kernel;kernel_rfl;kernel_rfl;kernel_rfl;exact Z;exact Z)|(apply Zaq;(iterate 4 exact Z))|exact AE.nil _ _ _ _|(apply Zat;exact Z)|(apply Zay;exact Z;exact Z;decide +kernel;exact Z)|(apply Zaz;exact Z)|exact AO.nil _ _ _|(apply Zap;(decide +kernel))|exact AOs.nil|exact ZaH rfl rfl|exact Zc0 rfl rfl rfl rfl rfl|(apply Zau Zab;(iterate 6 exact Z);(first|exact Go.ZrJ|rotate_left);(first|with_reducible assumption|decide +kernel|exact Z);(first|exact Zai rfl|with_reducible assumption|decide +kernel|rotate_left)))
   refine Lands.mk' (m:=k'-1) (by simp at hi;omega) ⟨1,1,Zax [It.mk k1 n1 b1 l1],by simp at hi ⊢;omega,rfl,rfl,rfl,.inr ⟨rfl,rfl⟩⟩ ?_ rfl rfl rfl rfl rfl rfl
   exact .cons rfl (.cons rfl (.cons rfl (.cons rfl (.cons rfl .nil))))
 ·have hU:=Zb8 l
  have hU2:Uni 4 L:=hL ▸ Zb8 (l.take i)
  have el:=Zar (l.take i)
  rw[<- hL]at el
  subst hc
  rcases Nat.lt_or_ge i l.length with hlt|hge
  ·have hd:decide ((i:Int)<((Zax l).length:Int))=true:=decide_eq_true (by omega)
   obtain⟨⟨k1,n1,b1,l1⟩,hy⟩:∃ y,l[i]?=some y:=⟨_,List.getElem?_eq_getElem hlt⟩
   have hv:(Zax l)[((i:Nat):Int).toNat]?=some (.agg [.int .i64 k1,.int .u64 (n1:Int),.sl (b1.map E.byte),.sl (Zax l1)]):=by
    rw[Int.toNat_natCast,ZaI,List.getElem?_map,hy];rfl
   have hc:=ih' _ (List.mem_of_getElem? hy)
   have ei:IntKind.i64.wrap ((i:Int)+1)=((i+1:Nat):Int):=by rw[IntWalk.i64_in _ (by omega)];omega
   have hs:L++[E.agg [.int .i64 k1,.int .u64 (n1:Int),.sl (b1.map E.byte),.sl (Zax l1)]]=Zax (l.take (i+1)):=by
    rw[hL,List.take_add_one,hy];exact(Zb4 _ [It.mk k1 n1 b1 l1]).symm
   rw[List.length_take]at el
   repeat'(first|(apply Zaa (hc);kernel_rfl;(iterate 4 exact Z))|rw[ei]|(apply Zaj Zab;exact Z)|(apply Zah Zab;exact Z)|(apply Zav Zab;exact Z)|(apply Zac;exact Z;exact Go.ZrJ)|(apply ZaX Zab;(iterate 12 exact Z))|(apply Zao 5 ZaL;decide +kernel;kernel_rfl;kernel_rfl;kernel_rfl;exact Z;exact Z)|(apply Zaq;(iterate 4 exact Z))|exact AE.nil _ _ _ _|(apply Zat;exact Z)|(apply Zay;exact Z;exact Z;decide +kernel;exact Z)|(apply Zaz;exact Z)|exact AO.nil _ _ _|(apply Zap;(decide +kernel))|exact AOs.nil|exact ZaH rfl rfl|exact Zc0 rfl rfl rfl rfl rfl|(apply ZaJ Zab;(iterate 6 exact Z);(first|with_reducible assumption|decide +kernel|exact Z|rotate_left);exact Z;exact Z;(first|exact Zai rfl|with_reducible assumption|decide +kernel|rotate_left);(first|exact Zai rfl|with_reducible assumption|decide +kernel|rotate_left);(first|exact Go.ZrJ|rotate_left);(first|exact Go.ZrJ|rotate_left);(first|exact Go.ZrJ|rotate_left);exact Z;exact Z)|(apply Zau Zab;(iterate 6 exact Z);(first|exact Go.ZrJ|rotate_left);(first|with_reducible assumption|decide +kernel|exact Z);(first|exact Zai rfl|with_reducible assumption|decide +kernel|rotate_left)))
   ·refine Lands.mk' (m:=k'-1) (by omega) ⟨i+1,L.length+1,_,by omega,by rw[List.length_append];rfl,hs,rfl,.inr ⟨rfl,rfl⟩⟩ ?_ rfl rfl rfl rfl rfl rfl
    exact .cons rfl (.cons rfl (.cons rfl (.cons rfl (.cons rfl .nil))))
   all_goals(first|rfl|(simp only[List.length_append,List.length_cons,List.length_nil,List.length_map,Zar];done)|(simp only[List.length_append,List.length_cons,List.length_nil,List.length_map,Zar]at *;(try unfold maxLen);(try simp only[Nat.add_mul]);omega))
  ·have hd:decide ((i:Int)<((Zax l).length:Int))=false:=decide_eq_false (by omega)
   rw[List.take_of_length_le hge]at hL
   subst hL
   repeat'(first|(apply Zah Zab;exact Z)|(apply Zaf;exact Z;exact Go.ZrJ))
   all_goals(apply ZeR [] [0];(apply Zad Zab;exact Z);(iterate 7 exact Z))
   all_goals rfl
def z0:It:=.mk 0 0 [] []
def Zfc (s:Nat)(l:List It):It:=.mk 4 0 [] (l++[.mk 2 0 (Ze3 s (Za9 (ZaR s l))) []])
def Zf4 (l:List It)(a:Int):It × Int:=match decide (a<0)||decide (a ≥ (l.length:Int)) with
 | true=>(z0,1)
 | false=>match l.all ZaC&&decide (ZaQ l a ≥ 0) with
  | false=>(z0,3)
  | true=>match decide (ZaQ l a>0) with
   | false=>(match ZaC (.mk 4 0 [] l) with|true=>(.mk 4 0 [] l,0)|false=>(z0,3))
   | true=>(match ZaC (ZaR (ZaQ l a).toNat l) with
    | false=>(z0,3)
    | true=>match ZaC (Zfc (ZaQ l a).toNat l) with
     | false=>(z0,3)
     | true=>(Zfc (ZaQ l a).toNat l,0))
abbrev Zm4 (r:It × Int):D:=.tup [itD r.1,.int .i64 r.2]
theorem Zb5 (l:List It)(a:Int):ZaQ l a = -1\/((ZaQ l a=0\/ZaQ l a=1\/ZaQ l a=2)/\0<=a/\a<(l.length:Int)):=by
 unfold ZaQ
 split
 ·exact .inl rfl
 rename_i h0
 cases h:l[a.toNat]? with
 | none=>exact .inl rfl
 | some x=>
  obtain⟨k,n,b,r⟩:=x
  have hlt:=(List.getElem?_eq_some_iff.1 h).1
  dsimp only
  cases t:decide ((n:Int)>2) with
  | true=>exact .inl rfl
  | false=>
   have:=of_decide_eq_false t
   cases It.beq (.mk k n b r) (.mk 0 n [] []) with
   | false=>exact .inl rfl
   | true=>dsimp only;omega
theorem ZnJ {s:Nat}{l:List It}(hs:s=1\/s=2)(hws:wfs l)(hl:l.length<=1000000):wfI (Zfc s l):=by
 refine⟨by decide,by simp,by simp;omega,ZgY hws ⟨⟨by decide,?_,by simp,trivial⟩,trivial⟩⟩
 rw[ZgX _ _ hs]
 omega
theorem ZoD [Known][KnownU8](l:List It)(a:Int)(hws:wfs l)(hl:l.length<=1000000)(hlim:∀ s,s=1\/s=2->(Za9 (ZaR s l)).length<=1000000000):AP Tryz.prog 83 [.sl .ext (Zax l),.int .i64 a] (Zm4 (Zf4 l a)) []:=by
 have hlen:=Zar l
 have hU:=Zb8 l
 have hC:=ZmZ l hws hl
 have hT:=ZhO l hws a
 unfold Zf4
 rw[<- hlen]
 rcases Int.lt_or_le a 0 with h0|h0
 ·have t1:decide (a<0)=true:=decide_eq_true h0
  rw[t1,Bool.true_or]
  dsimp only[z0]
  refine AP.ofA ?_
  refine Zan Tryz.func83 rfl Tryz.ntmps83 rfl rfl ?_
  repeat'(first|(apply Zaj Zab;exact Z)|(apply Zah Zab;exact Z)|(apply Zav Zab;exact Z)|(apply Zal;(iterate 3 exact Z);exact Go.ZrJ)|(apply Zak;exact Z;exact Go.ZrJ;exact Z;exact Z)|(apply Zac;exact Z;exact Go.ZrJ))
  all_goals(apply Zaw [];(apply Zad Zab;exact Z);(iterate 4 exact Z))
  all_goals rfl
 have t1:decide (a<0)=false:=decide_eq_false (by omega)
 rw[t1,Bool.false_or]
 cases t2:decide (a ≥ ((Zax l).length:Int)) with
 | true=>
  dsimp only[z0]
  refine AP.ofA ?_
  refine Zan Tryz.func83 rfl Tryz.ntmps83 rfl rfl ?_
  repeat'(first|(apply Zaj Zab;exact Z)|(apply Zah Zab;exact Z)|(apply Zav Zab;exact Z)|(apply Zae;(iterate 3 exact Z);exact Go.ZrJ)|(apply Zag;exact Z;exact Go.ZrJ;exact Z;exact Z)|(apply Zac;exact Z;exact Go.ZrJ)|(apply Zam Zab;(iterate 4 exact Z)))
  all_goals(apply Zaw [];(apply Zad Zab;exact Z);(iterate 4 exact Z))
  all_goals rfl
 | false=>
 have hne:l ≠ []:=by rintro rfl;have:=of_decide_eq_false t2;simp[Zax]at this;omega
 cases hA:l.all ZaC with
 | false=>
  rw[hA]at hC
  replace hC:AP Tryz.prog 140 _ (.bool true) []:=hC
  rw[Bool.false_and]
  dsimp only[z0]
  generalize ZaQ l a=tv at *
  refine AP.ofA ?_
  refine Zan Tryz.func83 rfl Tryz.ntmps83 rfl rfl ?_
  repeat'(first|(apply Zaa (hC);kernel_rfl;(iterate 4 exact Z))|(apply Zaa (hT);kernel_rfl;(iterate 4 exact Z))|(apply Zaj Zab;exact Z)|(apply Zah Zab;exact Z)|(apply Zav Zab;exact Z)|(apply Zae;(iterate 3 exact Z);exact Go.ZrJ)|(apply Zal;(iterate 3 exact Z);exact Go.ZrJ)|(apply Zak;exact Z;exact Go.ZrJ;exact Z;exact Z)|(apply Zag;exact Z;exact Go.ZrJ;exact Z;exact Z)|(apply Zac;exact Z;exact Go.ZrJ)|(apply Zaf;exact Z;exact Go.ZrJ)|(apply Zam Zab;(iterate 4 exact Z)))
  all_goals(apply Zaw [];(apply Zad Zab;exact Z);(iterate 4 exact Z))
  all_goals rfl
 | true=>
  rw[hA]at hC
  replace hC:AP Tryz.prog 140 _ (.bool false) []:=hC
  rw[Bool.true_and]
  rcases Zb5 l a with e|⟨e|e,_,_⟩
  ·rw[e]at hT ⊢
   dsimp only[z0]
   refine AP.ofA ?_
   refine Zan Tryz.func83 rfl Tryz.ntmps83 rfl rfl ?_
   repeat'(first|(apply Zaa (hC);kernel_rfl;(iterate 4 exact Z))|(apply Zaa (hT);kernel_rfl;(iterate 4 exact Z))|(apply Zaj Zab;exact Z)|(apply Zah Zab;exact Z)|(apply Zav Zab;exact Z)|(apply Zae;(iterate 3 exact Z);exact Go.ZrJ)|(apply Zag;exact Z;exact Go.ZrJ;exact Z;exact Z)|(apply Zac;exact Z;exact Go.ZrJ)|(apply Zaf;exact Z;exact Go.ZrJ)|(apply Zam Zab;(iterate 4 exact Z)))
   all_goals(apply Zaw [];(apply Zad Zab;exact Z);(iterate 4 exact Z))
   all_goals rfl
  ·rw[e]at hT ⊢
   have hL:=ZgP l (by omega) hws
   have hR:=Zch (.mk 4 0 [] l) ⟨by decide,by simp,by omega,hws⟩
   cases hr:ZaC (.mk 4 0 [] l) with
   | false=>
    rw[hr]at hR
    dsimp only[z0]
    refine AP.ofA ?_
    refine Zan Tryz.func83 rfl Tryz.ntmps83 rfl rfl ?_
    repeat'(first|(apply Zaa (hC);kernel_rfl;(iterate 4 exact Z))|(apply Zaa (hT);kernel_rfl;(iterate 4 exact Z))|(apply Zaa (hL);kernel_rfl;(iterate 4 exact Z))|(apply Zaa (hR);kernel_rfl;(iterate 4 exact Z))|(apply Zaj Zab;exact Z)|(apply Zah Zab;exact Z)|(apply Zav Zab;exact Z)|(apply Zae;(iterate 3 exact Z);exact Go.ZrJ)|(apply Zag;exact Z;exact Go.ZrJ;exact Z;exact Z)|(apply Zac;exact Z;exact Go.ZrJ)|(apply Zaf;exact Z;exact Go.ZrJ)|(apply Zam Zab;(iterate 4 exact Z)))
    all_goals(apply Zaw [];(apply Zad Zab;exact Z);(iterate 4 exact Z))
    all_goals rfl
   | true=>
    rw[hr]at hR
    refine AP.ofA ?_
    refine Zan Tryz.func83 rfl Tryz.ntmps83 rfl rfl ?_
    repeat'(first|(apply Zaa (hC);kernel_rfl;(iterate 4 exact Z))|(apply Zaa (hT);kernel_rfl;(iterate 4 exact Z))|(apply Zaa (hL);kernel_rfl;(iterate 4 exact Z))|(apply Zaa (hR);kernel_rfl;(iterate 4 exact Z))|(apply Zaj Zab;exact Z)|(apply Zah Zab;exact Z)|(apply Zav Zab;exact Z)|(apply Zae;(iterate 3 exact Z);exact Go.ZrJ)|(apply Zag;exact Z;exact Go.ZrJ;exact Z;exact Z)|(apply Zaf;exact Z;exact Go.ZrJ)|(apply Zam Zab;(iterate 4 exact Z)))
    all_goals(apply Zaw [];(apply Zad Zab;exact Z);(iterate 4 exact Z))
    all_goals rfl
  ·obtain⟨s,hs,es⟩:∃ s:Nat,(s=1\/s=2)/\ZaQ l a=(s:Int):=⟨(ZaQ l a).toNat,by omega,by omega⟩
   rw[es]at hT ⊢
   rw[Int.toNat_natCast]
   have hS:=ZjH l s hs hne hws hl (hlim s hs)
   have hL:=Zm3 l hne (by omega) hws
   have hsl:=ZgX s (Za9 (ZaR s l)) hs
   have hB:=Zfa (Ze3 s (Za9 (ZaR s l))) (by omega)
   have hR:=Zch (Zfc s l) (ZnJ hs hws hl)
   have hmx:(Zax l).length<=1000000:=by omega
   have d1:decide ((s:Int)<0)=false:=decide_eq_false (by omega)
   have d2:decide ((s:Int)>0)=true:=decide_eq_true (by omega)
   have d3:decide ((s:Int) ≥ 0)=true:=decide_eq_true (by omega)
   rw[d2,d3]
   cases hz:ZaC (ZaR s l) with
   | false=>
    rw[hz]at hS
    dsimp only[z0]
    dsimp only at hS
    refine AP.ofA ?_
    refine Zan Tryz.func83 rfl Tryz.ntmps83 rfl rfl ?_
    repeat'(first|(apply Zaa (hC);kernel_rfl;(iterate 4 exact Z))|(apply Zaa (hT);kernel_rfl;(iterate 4 exact Z))|(apply ZaS [] [] (hL);kernel_rfl;(iterate 10 exact Z))|(apply Zaa (hS);kernel_rfl;(iterate 4 exact Z))|(apply Zaj Zab;exact Z)|(apply Zah Zab;exact Z)|(apply Zav Zab;exact Z)|(apply Zae;(iterate 3 exact Z);exact Go.ZrJ)|(apply Zag;exact Z;exact Go.ZrJ;exact Z;exact Z)|(apply Zac;exact Z;exact Go.ZrJ)|(apply Zaf;exact Z;exact Go.ZrJ)|(apply Zam Zab;(iterate 4 exact Z)))
    all_goals(apply Zaw [];(apply Zad Zab;exact Z);(iterate 4 exact Z))
    all_goals rfl
   | true=>
    rw[hz]at hS
    dsimp only at hS ⊢
    have eO:itD (Zfc s l)=.agg [.int .i64 4,.int .u64 0,.sl .ext [],.sl .ext (Zax l++[.agg [.int .i64 2,.int .u64 0,.sl ((Ze3 s (Za9 (ZaR s l))).map E.byte),.sl []]])]:=by
     show D.agg [.int .i64 4,.int .u64 0,.sl .ext [],.sl .ext (Zax (l++[.mk 2 0 (Ze3 s (Za9 (ZaR s l))) []]))]=_
     rw[Zb4]
     rfl
    cases hr:ZaC (Zfc s l) with
    | false=>
     rw[hr,eO]at hR
     dsimp only[z0]
     generalize Ze3 s (Za9 (ZaR s l))=SB at *
     refine AP.ofA ?_
     refine Zan Tryz.func83 rfl Tryz.ntmps83 rfl rfl ?_
     repeat'(first|(apply Zaa (hC);kernel_rfl;(iterate 4 exact Z))|(apply Zaa (hT);kernel_rfl;(iterate 4 exact Z))|(apply ZaS [] [] (hL);kernel_rfl;(iterate 10 exact Z))|(apply Zaa (hS);kernel_rfl;(iterate 4 exact Z))|(apply Zaa (hB);kernel_rfl;(iterate 4 exact Z))|(apply Zaa (hR);kernel_rfl;(iterate 4 exact Z))|(apply Zaj Zab;exact Z)|(apply Zah Zab;exact Z)|(apply Zav Zab;exact Z)|(apply Zae;(iterate 3 exact Z);exact Go.ZrJ)|(apply Zag;exact Z;exact Go.ZrJ;exact Z;exact Z)|(apply Zac;exact Z;exact Go.ZrJ)|(apply Zaf;exact Z;exact Go.ZrJ)|(apply Zam Zab;(iterate 4 exact Z))|(apply ZaX Zab;(iterate 12 exact Z))|(apply Zao 5 ZaL;decide +kernel;kernel_rfl;kernel_rfl;kernel_rfl;exact Z;exact Z)|(apply Zaq;(iterate 4 exact Z))|exact AE.nil _ _ _ _|(apply Zat;exact Z)|(apply Zay;exact Z;exact Z;decide +kernel;exact Z)|(apply Zaz;exact Z)|exact AO.nil _ _ _|(apply Zap;(decide +kernel))|exact AOs.nil|exact ZaH rfl rfl|exact Zc0 rfl rfl rfl rfl rfl|(apply ZaJ Zab;(iterate 6 exact Z);(first|with_reducible assumption|decide +kernel|exact Z|rotate_left);exact Z;exact Z;(first|exact Zai rfl|with_reducible assumption|decide +kernel|rotate_left);(first|exact Zai rfl|with_reducible assumption|decide +kernel|rotate_left);(first|exact Go.ZrJ|rotate_left);(first|exact Go.ZrJ|rotate_left);(first|exact Go.ZrJ|rotate_left);exact Z;exact Z))
     all_goals first|((apply Zaw [];(apply Zad Zab;exact Z);(iterate 4 exact Z)))|skip
     all_goals first|rfl|(first|rfl|(simp only[List.length_append,List.length_cons,List.length_nil,List.length_map,Zar];done)|(simp only[List.length_append,List.length_cons,List.length_nil,List.length_map,Zar]at *;(try unfold maxLen);(try simp only[Nat.add_mul]);omega))|(simp;done)|(simp;omega)|(simp;unfold maxLen;omega)
    | true=>
     rw[hr,eO]at hR
     dsimp only[Zm4]
     rw[eO]
     generalize Ze3 s (Za9 (ZaR s l))=SB at *
     refine AP.ofA ?_
     refine Zan Tryz.func83 rfl Tryz.ntmps83 rfl rfl ?_
     repeat'(first|(apply Zaa (hC);kernel_rfl;(iterate 4 exact Z))|(apply Zaa (hT);kernel_rfl;(iterate 4 exact Z))|(apply ZaS [] [] (hL);kernel_rfl;(iterate 10 exact Z))|(apply Zaa (hS);kernel_rfl;(iterate 4 exact Z))|(apply Zaa (hB);kernel_rfl;(iterate 4 exact Z))|(apply Zaa (hR);kernel_rfl;(iterate 4 exact Z))|(apply Zaj Zab;exact Z)|(apply Zah Zab;exact Z)|(apply Zav Zab;exact Z)|(apply Zae;(iterate 3 exact Z);exact Go.ZrJ)|(apply Zag;exact Z;exact Go.ZrJ;exact Z;exact Z)|(apply Zac;exact Z;exact Go.ZrJ)|(apply Zaf;exact Z;exact Go.ZrJ)|(apply Zam Zab;(iterate 4 exact Z))|(apply ZaX Zab;(iterate 12 exact Z))|(apply Zao 5 ZaL;decide +kernel;kernel_rfl;kernel_rfl;kernel_rfl;exact Z;exact Z)|(apply Zaq;(iterate 4 exact Z))|exact AE.nil _ _ _ _|(apply Zat;exact Z)|(apply Zay;exact Z;exact Z;decide +kernel;exact Z)|(apply Zaz;exact Z)|exact AO.nil _ _ _|(apply Zap;(decide +kernel))|exact AOs.nil|exact ZaH rfl rfl|exact Zc0 rfl rfl rfl rfl rfl|(apply ZaJ Zab;(iterate 6 exact Z);(first|with_reducible assumption|decide +kernel|exact Z|rotate_left);exact Z;exact Z;(first|exact Zai rfl|with_reducible assumption|decide +kernel|rotate_left);(first|exact Zai rfl|with_reducible assumption|decide +kernel|rotate_left);(first|exact Go.ZrJ|rotate_left);(first|exact Go.ZrJ|rotate_left);(first|exact Go.ZrJ|rotate_left);exact Z;exact Z))
     all_goals first|((apply Zaw [];(apply Zad Zab;exact Z);(iterate 4 exact Z)))|skip
     all_goals first|rfl|(first|rfl|(simp only[List.length_append,List.length_cons,List.length_nil,List.length_map,Zar];done)|(simp only[List.length_append,List.length_cons,List.length_nil,List.length_map,Zar]at *;(try unfold maxLen);(try simp only[Nat.add_mul]);omega))|(simp;done)|(simp;omega)|(simp;unfold maxLen;omega)
end Go.Proofs.YtakblclkflnnpaaGreatDoor
end
