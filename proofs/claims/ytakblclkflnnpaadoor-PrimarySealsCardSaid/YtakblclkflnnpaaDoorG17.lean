/- Package primary: the sum of a list's bytes. -/
import Derived.Test.YtakblclkflnnpaaDoorG15
import Derived.Test.YtakblclkflnnpaaDoorG16
import Derived.Laws.BitsAllLaws
import Derived.Test.YtakblclkflnnpaaDoorG09
import Derived.Scope
import Derived.Test.YtakblclkflnnpaaDoorG11
import Derived.Test.YtakblclkflnnpaaDoorG14
set_option linter.unusedVariables false
set_option linter.unusedSimpArgs false
section
open Go.RowKit Go.Pl Go.Av
namespace Go.Proofs.YtakblclkflnnpaaDoor
set_option maxHeartbeats 4000000
def ZaK (s:Nat)(l:List It):It:=.mk 4 0 [] (l++[.mk 2 0 (List.replicate (2*s) 0) []])
abbrev shU (k:IntKind)(z:Int)(q:Int):Int:=IntKind.u8.wrap (z.fdiv (2 ^ (min q.toNat k.bits)))
def Zmz (s:Nat)(b:List UInt8):List E:=
 if s=1 then [.int .u8 (shU .u16 (Zdt b) 8),.int .u8 (IntKind.u8.wrap (Zdt b))]
 else [.int .u8 (shU .u32 (ZdA b) 24),.int .u8 (shU .u32 (ZdA b) 16),.int .u8 (shU .u32 (ZdA b) 8),.int .u8 (IntKind.u8.wrap (ZdA b))]
def by8 (z:Int):UInt8:=UInt8.ofNat (IntKind.u8.wrap z).toNat
theorem ZmR (z:Int):E.byte (by8 z)=.int .u8 (IntKind.u8.wrap z):=by
 have h:0<=IntKind.u8.wrap z/\IntKind.u8.wrap z<256:=by
  rw[IntKind.wrap_u8];omega
 show E.int .u8 ((by8 z).toNat:Int)=_
 have e:((by8 z).toNat:Int)=IntKind.u8.wrap z:=by
  unfold by8
  rw[UInt8.toNat_ofNat']
  omega
 rw[e]
def Zdu (s:Nat)(b:List UInt8):List UInt8:=
 if s=1 then [by8 ((Zdt b).fdiv (2 ^ (min (8:Int).toNat IntKind.u16.bits))),by8 (Zdt b)]
 else [by8 ((ZdA b).fdiv (2 ^ (min (24:Int).toNat IntKind.u32.bits))),by8 ((ZdA b).fdiv (2 ^ (min (16:Int).toNat IntKind.u32.bits))),by8 ((ZdA b).fdiv (2 ^ (min (8:Int).toNat IntKind.u32.bits))),by8 (ZdA b)]
theorem ZiZ (s:Nat)(b:List UInt8):(Zdu s b).map E.byte=Zmz s b:=by
 unfold Zdu Zmz
 split<;>simp only[List.map_cons,List.map_nil,ZmR]
theorem Zfi (s:Nat)(b:List UInt8)(hs:s=1\/s=2):(Zdu s b).length=2*s:=by
 unfold Zdu
 rcases hs with rfl|rfl<;>rfl
theorem Zfj:∀ {l r:List It},wfs l->wfs r->wfs (l++r)
 | [],r,_,h=>h
 | x::l,r,h1,h2=>⟨h1.1,Zfj h1.2 h2⟩
theorem Zi0 {s:Nat}{l:List It}(hs:s=1\/s=2)(hws:wfs l)(hl:l.length<=1000000):wfI (ZaK s l):=by
 refine⟨by decide,by simp,by simp;omega,Zfj hws ⟨⟨by decide,?_,by simp,trivial⟩,trivial⟩⟩
 rcases hs with rfl|rfl<;>decide
theorem ZeS [Known](s:Nat)(hs:s=1\/s=2):AP Tryd.prog 37 [.int .i64 (s:Int)] (.int .i64 ((2*s:Nat):Int)) []:=by
 rcases hs with rfl|rfl
 all_goals
  refine AP.ofA ?_
  refine Zao Tryd.func37 rfl Tryd.ntmps37 rfl rfl ?_
  repeat'(first|(apply Zah Zab;exact Z))
  all_goals(apply Zaz [];(apply Zad Zab;exact Z);(iterate 4 exact Z))
  all_goals rfl
theorem Zfk [Known][KnownU8](l:List It)(s:Nat)(hs:s=1\/s=2)(hne:l ≠ [])(hws:wfs l)(hl:l.length<=1000000)(hlim:(ZaX (ZaK s l)).length<=1000000000) :
  AP Tryd.prog 32 [.sl .ext (Zan l),.int .i64 (s:Int)] (match Zaw (ZaK s l) with|true=>.tup [byE (Zdu s (ZaX (ZaK s l))),.int .i64 0]|false=>.tup [.sl .ext [],.int .i64 3]) []:=by
 have hwz:=Zi0 hs hws hl
 have hC:=ZiT l hne hl
 have hW:=ZiY (ZaK s l) hwz (by omega) (ZbJ _ hwz)
 have hU:=Zbs l
 have hlen:=Zal l
 have hmx:(Zan l).length<=1000000:=by omega
 have hZ:=ZeS s hs
 have hB:=ZdT (List.replicate (2*s) 0) (by rcases hs with rfl|rfl<;>decide)
 have hL:=Zb9 (l++[.mk 2 0 (List.replicate (2*s) 0) []]) (by simp;omega) hwz.2.2.2
 have hSh:=Zj7 (ZaX (ZaK s l)) hlim
 have hLo:=Zlh (ZaX (ZaK s l)) hlim
 rw[Zbz]at hL
 have eZ:itD (.mk 4 0 [] (l++[.mk 2 0 (List.replicate (2*s) 0) []]))=itD (ZaK s l):=rfl
 rw[eZ]at hL
 unfold byE
 rw[ZiZ]
 rw[<- hlen]at hC
 cases hr:Zaw (ZaK s l) with
 | false=>
  rw[hr]at hW
  replace hW:AP Tryd.prog 58 [itD (ZaK s l)] (.tup [.sl .ext [],.int .i64 3]) []:=hW
  have eL:itD (ZaK s l)=.agg [.int .i64 4,.int .u64 0,.sl .ext [],.sl .ext (Zan (l++[.mk 2 0 (List.replicate (2*s) 0) []]))]:=rfl
  rw[eL]at hL hW
  generalize Zan (l++[.mk 2 0 (List.replicate (2*s) 0) []])=ZL at *
  clear hSh hLo hlim hwz eZ eL
  rcases hs with rfl|rfl
  all_goals
   refine AP.ofA ?_
   refine Zao Tryd.func32 rfl Tryd.ntmps32 rfl rfl ?_
   repeat'(first|(apply ZaO [] [] (hC);kernel_rfl;(iterate 10 exact Z))|(apply Zaa (hZ);kernel_rfl;(iterate 4 exact Z))|(apply Zcj Zab (l:=2);(iterate 12 exact Z))|(apply Zcj Zab (l:=4);(iterate 12 exact Z))|(apply Zaa (hB);kernel_rfl;(iterate 4 exact Z))|(apply Zaa (hL);kernel_rfl;(iterate 4 exact Z))|(apply Zaa (hW);kernel_rfl;(iterate 4 exact Z))|(apply Zaj Zab;exact Z)|(apply Zah Zab;exact Z)|(apply Zay Zab;exact Z)|(apply Zac;exact Z;exact Qt)|(apply Za0 Zab;(iterate 12 exact Z))|(apply ZaI Zab;(iterate 6 exact Z);(first|with_reducible assumption|decide +kernel|exact Z|rotate_left);exact Z;exact Z;(first|exact Zag rfl|with_reducible assumption|decide +kernel|rotate_left);(first|exact Zag rfl|with_reducible assumption|decide +kernel|rotate_left);(first|exact Qt|rotate_left);(first|exact Qt|rotate_left);(first|exact Qt|rotate_left);exact Z;exact Z))
   all_goals first|((apply Zaz [];(apply Zad Zab;exact Z);(iterate 4 exact Z)))|skip
   all_goals first|rfl|(first|rfl|(simp only[List.length_append,List.length_cons,List.length_nil,List.length_map,Zal];done)|(simp only[List.length_append,List.length_cons,List.length_nil,List.length_map,Zal]at *;(try unfold maxLen);(try simp only[Nat.add_mul]);omega))|(simp;done)|(simp;omega)|(simp;unfold maxLen;omega)
 | true=>
  rw[hr]at hW
  replace hW:AP Tryd.prog 58 [itD (ZaK s l)] (.tup [byE (ZaX (ZaK s l)),.int .i64 0]) []:=hW
  have eL:itD (ZaK s l)=.agg [.int .i64 4,.int .u64 0,.sl .ext [],.sl .ext (Zan (l++[.mk 2 0 (List.replicate (2*s) 0) []]))]:=rfl
  rw[eL]at hL hW
  generalize Zan (l++[.mk 2 0 (List.replicate (2*s) 0) []])=ZL at *
  generalize ZaX (ZaK s l)=PZ at *
  clear hlim hwz eZ eL hr
  rcases hs with rfl|rfl
  all_goals
   refine AP.ofA ?_
   refine Zao Tryd.func32 rfl Tryd.ntmps32 rfl rfl ?_
   repeat'(first|(apply ZaO [] [] (hC);kernel_rfl;(iterate 10 exact Z))|(apply Zaa (hZ);kernel_rfl;(iterate 4 exact Z))|(apply Zcj Zab (l:=2);(iterate 12 exact Z))|(apply Zcj Zab (l:=4);(iterate 12 exact Z))|(apply Zaa (hB);kernel_rfl;(iterate 4 exact Z))|(apply Zaa (hL);kernel_rfl;(iterate 4 exact Z))|(apply Zaa (hW);kernel_rfl;(iterate 4 exact Z))|(apply Zaa (hSh);kernel_rfl;(iterate 4 exact Z))|(apply Zaa (hLo);kernel_rfl;(iterate 4 exact Z))|(apply Zaj Zab;exact Z)|(apply Zah Zab;exact Z)|(apply Zac;exact Z;exact Qt)|(apply Zae;exact Z;exact Qt)|(apply Za0 Zab;(iterate 12 exact Z))|(apply ZaI Zab;(iterate 6 exact Z);(first|with_reducible assumption|decide +kernel|exact Z|rotate_left);exact Z;exact Z;(first|exact Zag rfl|with_reducible assumption|decide +kernel|rotate_left);(first|exact Zag rfl|with_reducible assumption|decide +kernel|rotate_left);(first|exact Qt|rotate_left);(first|exact Qt|rotate_left);(first|exact Qt|rotate_left);exact Z;exact Z)|(apply Zbi;exact Z;exact Z;(first|exact Qt|rotate_left);exact Z))
   all_goals first|((apply Zaz [];(apply Zad Zab;exact Z);(iterate 4 exact Z)))|skip
   all_goals first|rfl|(first|rfl|(simp only[List.length_append,List.length_cons,List.length_nil,List.length_map,Zal];done)|(simp only[List.length_append,List.length_cons,List.length_nil,List.length_map,Zal]at *;(try unfold maxLen);(try simp only[Nat.add_mul]);omega))|(simp;done)|(simp;omega)|(simp;unfold maxLen;omega)
def hN (p s:Nat):Nat:=(s >>> 1) ^^^ (if s.testBit 0 then p else 0)
def itN (p:Nat):Nat->Nat->Nat
 | 0,s=>s
 | k+1,s=>itN p k (hN p s)
def byN (p s c:Nat):Nat:=itN p 8 (s ^^^ c)
def ruN (p s:Nat)(b:List Nat):Nat:=b.foldl (byN p) s
theorem ZmS {p s:Nat}(hp:p<4294967296)(hs:s<4294967296):hN p s<4294967296:=by
 unfold hN
 refine Nat.xor_lt_two_pow (n:=32) ?_ ?_
 ·rw[Nat.shiftRight_eq_div_pow];omega
 ·split<;>omega
theorem Zi1 {p s:Nat}(hp:p<4294967296)(hs:s<4294967296):Zcv (s:Int) (p:Int)=(hN p s:Int):=by
 have h1:bits .and .u32 (s:Int) 1=((s &&& 1:Nat):Int):=u32_and_nat s 1 hs (by decide)
 have h2:Zmx (s:Int)=((s >>> 1:Nat):Int):=by
  unfold Zmx
  rw[Nat.shiftRight_eq_div_pow,show min (Int.toNat 1) IntKind.u32.bits=1 from rfl,Int.fdiv_eq_ediv_of_nonneg _ (by decide)]
  rfl
 unfold Zcv hN
 rw[h1,h2,Nat.testBit_zero,Nat.and_one_is_mod]
 by_cases e:s % 2=1
 ·rw[e]
  show bits .xor .u32 _ _=_
  rw[u32_xor_nat _ _ (by rw[Nat.shiftRight_eq_div_pow];omega) hp]
  simp
 ·have e0:s % 2=0:=by omega
  rw[e0]
  show((s >>> 1:Nat):Int)=_
  simp
theorem Zj9 {p s:Nat}(c:UInt8)(hp:p<4294967296)(hs:s<4294967296):ZiU (s:Int) c (p:Int)=(byN p s c.toNat:Int)/\byN p s c.toNat<4294967296:=by
 have hc:=c.toNat_lt
 have h1:bits .xor .u32 (s:Int) (IntKind.u32.wrap (c.toNat:Int))=((s ^^^ c.toNat:Nat):Int):=by
  rw[IntWalk.u32_in _ (by omega)]
  exact u32_xor_nat s c.toNat hs (by omega)
 have h2:s ^^^ c.toNat<4294967296:=Nat.xor_lt_two_pow (n:=32) hs (by omega)
 unfold ZiU byN
 rw[h1]
 generalize s ^^^ c.toNat=x at *
 have key:∀ y:Nat,y<4294967296->Zcv (y:Int) (p:Int)=(hN p y:Int)/\hN p y<4294967296:=fun y hy=>⟨Zi1 hp hy,ZmS hp hy⟩
 obtain⟨k1,l1⟩:=key x h2
 obtain⟨k2,l2⟩:=key _ l1
 obtain⟨k3,l3⟩:=key _ l2
 obtain⟨k4,l4⟩:=key _ l3
 obtain⟨k5,l5⟩:=key _ l4
 obtain⟨k6,l6⟩:=key _ l5
 obtain⟨k7,l7⟩:=key _ l6
 obtain⟨k8,l8⟩:=key _ l7
 rw[k1,k2,k3,k4,k5,k6,k7,k8]
 exact⟨rfl,l8⟩
theorem ZgB {p:Nat}(hp:p<4294967296):∀(b:List UInt8) (s:Nat),s<4294967296->Zj6 (s:Int) (p:Int) b=(ruN p s (b.map UInt8.toNat):Int)/\ruN p s (b.map UInt8.toNat)<4294967296
 | [],s,h=>⟨rfl,h⟩
 | c::b,s,h=>by
  obtain⟨h1,h2⟩:=Zj9 c hp h
  have ih:=ZgB hp b (byN p s c.toNat) h2
  rw[<- h1]at ih
  exact ih
theorem Zhm {p W:Nat}(hp2:p<2 ^ (W+1)):∀(k s:Nat),s<2 ^ (W+1)->itN p k s<2 ^ (W+1)
 | 0,s,h=>h
 | k+1,s,h=>Zhm hp2 k _ (by
  unfold hN
  refine Nat.xor_lt_two_pow ?_ ?_
  ·rw[Nat.shiftRight_eq_div_pow]
   exact Nat.lt_of_le_of_lt (Nat.div_le_self ..) h
  ·split
   ·exact hp2
   ·exact Nat.two_pow_pos _)
theorem Zi2 {p W:Nat}(hp2:p<2 ^ (W+1))(hW:7<=W):∀(b:List UInt8) (s:Nat),s<2 ^ (W+1)->ruN p s (b.map UInt8.toNat)<2 ^ (W+1)
 | [],s,h=>h
 | c::b,s,h=>by
  have hc:=c.toNat_lt
  have:2 ^ 8<=2 ^ (W+1):=Nat.pow_le_pow_right (by omega) (by omega)
  exact Zi2 hp2 hW b _ (Zhm hp2 8 _ (Nat.xor_lt_two_pow h (by omega)))
theorem Zf1 (b:List UInt8):Zdt b=((65535 ^^^ ruN 33800 65535 (b.map UInt8.toNat):Nat):Int)/\65535 ^^^ ruN 33800 65535 (b.map UInt8.toNat)<65536:=by
 have h1:=(ZgB (p:=33800) (by decide) b 65535 (by decide)).1
 have h2:=Zi2 (p:=33800) (W:=15) (by decide) (by decide) b 65535 (by decide)
 unfold Zdt
 rw[show Zj6 65535 33800 b=_ from h1,IntWalk.u16_in _ (by omega)]
 exact⟨u16_xor_nat 65535 _ (by decide) h2,Nat.xor_lt_two_pow (n:=16) (by decide) h2⟩
theorem Zhn (b:List UInt8):ZdA b=((4294967295 ^^^ ruN 2197175160 4294967295 (b.map UInt8.toNat):Nat):Int)/\4294967295 ^^^ ruN 2197175160 4294967295 (b.map UInt8.toNat)<4294967296:=by
 have h1:=(ZgB (p:=2197175160) (by decide) b 4294967295 (by decide)).1
 have h2:=Zi2 (p:=2197175160) (W:=31) (by decide) (by decide) b 4294967295 (by decide)
 unfold ZdA
 rw[show Zj6 4294967295 2197175160 b=_ from h1]
 exact⟨u32_xor_nat 4294967295 _ (by decide) h2,Nat.xor_lt_two_pow (n:=32) (by decide) h2⟩
end Go.Proofs.YtakblclkflnnpaaDoor
end
section
open Go.RowKit Go.Pl
namespace Go.Av
section
variable {P:Program} {Q:X->St->Prop} {n:Nat} {ee:Nat × Nat} {tm:List (Nat × D)} {bx:List (List D)} {fr:List Fr} {T:Tab}
variable {ops:Array Oper} {rest:List Oper} {t ty:Nat} {pos:String} {after:Array Edge}
end
end Go.Av
end
section
open Go.RowKit Go.Pl Go.Av
namespace Go.Proofs.YtakblclkflnnpaaDoor
set_option maxHeartbeats 4000000
set_option maxHeartbeats 1000000
theorem Zlm {b:List UInt8}{p:Nat}(h:p<b.length):∃ c t,b.drop p=c::t/\(b.map E.byte)[((p:Nat):Int).toNat]?=some (E.byte c)/\t=b.drop (p+1):=by
 refine⟨b[p],b.drop (p+1),List.drop_eq_getElem_cons h,?_,rfl⟩
 rw[Int.toNat_natCast,List.getElem?_map,List.getElem?_eq_getElem h];rfl
theorem Zho {n x:Nat}(h:x<2 ^ n):(2 ^ n-1) ^^^ x=2 ^ n-1-x:=by
 apply Nat.eq_of_testBit_eq
 intro i
 rw[Nat.testBit_xor,Nat.testBit_two_pow_sub_one,show 2 ^ n-1-x=2 ^ n-(x+1) from by omega,Nat.testBit_two_pow_sub_succ h]
 by_cases hi:i<n
 ·simp[hi]
 ·have:x.testBit i=false:=Nat.testBit_lt_two_pow (Nat.lt_of_lt_of_le h (Nat.pow_le_pow_right (by omega) (by omega)))
  simp[hi,this]
theorem Zi3 [Known](b:List UInt8)(hb:b.length<=1099511627776)(f p W:Nat)(hp:p<2 ^ (W+1))(hf:f+1=2 ^ (W+1))(hW:7<=W)(hM:2 ^ (W+1)<=4294967296):AP Tryd.prog 89 [byE b,.int .u64 (f:Int),.int .u64 (p:Int)] (.int .u64 ((f-ruN p f (b.map UInt8.toNat):Nat):Int)) []:=by
 have hl:(b.map E.byte).length=b.length:=List.length_map ..
 have hU:=Zbg b
 have h256:2 ^ 8<=2 ^ (W+1):=Nat.pow_le_pow_right (by omega) (by omega)
 have hf':f<2 ^ (W+1):=by omega
 have hx:∀ s c:Nat,s<2 ^ (W+1)->c<256->s ^^^ c<2 ^ (W+1):=fun s c h1 h2=>Nat.xor_lt_two_pow h1 (by omega)
 have hH:∀ s,s<2 ^ (W+1)->hN p s<2 ^ (W+1):=fun s h=>Zhm hp 1 s h
 have hBy:∀ s c:Nat,s<2 ^ (W+1)->c<256->byN p s c<2 ^ (W+1):=fun s c h1 h2=>Zhm hp 8 _ (hx s c h1 h2)
 generalize hfin:ruN p f (b.map UInt8.toNat)=fin
 refine AP.ofA ?_
 refine Zao Tryd.func89 rfl Tryd.ntmps89 rfl rfl ?_
 repeat'(first|(apply Zah Zab;exact Z))
 refine ZaC (fun k tm bx fr=>∃(i s:Nat),k+i=b.length/\s<2 ^ (W+1)/\ruN p s ((b.drop i).map UInt8.toNat)=fin/\tm=[(0,byE b),(1,.int .u64 (f:Int)),(2,.int .u64 (p:Int)),(7,.int .u64 (s:Int)),(8,.int .i64 (i:Int))]/\bx=[]/\fr=[]) (b.length+1) (Lands.mk' (m:=b.length) (Nat.lt_succ_self _) ⟨0,f,by omega,hf',hfin,rfl,rfl,rfl⟩ ?_ rfl rfl rfl rfl rfl rfl) ?_
 ·exact .cons rfl (.cons rfl (.cons rfl (.cons rfl (.cons rfl .nil))))
 rintro k tm bx fr ⟨i,s,hk,hs,hq,rfl,rfl,rfl⟩
 rcases Nat.lt_or_ge i b.length with hlt|hge
 ·have hd:decide ((i:Int)<((b.map E.byte).length:Int))=true:=decide_eq_true (by omega)
  obtain⟨c,t,hdr,hv,ht⟩:=Zlm hlt
  have hc:=c.toNat_lt
  rw[hdr,ht]at hq
  have hq2:ruN p (byN p s c.toNat) ((b.drop (i+1)).map UInt8.toNat)=fin:=hq
  have ei:IntKind.i64.wrap ((i:Int)+1)=((i+1:Nat):Int):=by rw[IntWalk.i64_in _ (by omega)];omega
  have e1:IntKind.u64.wrap (c.toNat:Int)=(c.toNat:Int):=by rw[IntKind.wrap_u64];omega
  have ex:bits .xor .u64 (s:Int) (c.toNat:Int)=((s ^^^ c.toNat:Nat):Int):=u64_xor_nat s c.toNat (by omega) (by omega)
  have hxc:=hx s c.toNat hs hc
  have hbs:=hBy s c.toNat hs hc
  have hb8:itN p 8 (s ^^^ c.toNat)=byN p s c.toNat:=rfl
  generalize s ^^^ c.toNat=x0 at *
  generalize byN p s c.toNat=y0 at *
  repeat'(first|rw[e1]|rw[ex]|(apply Zaj Zab;exact Z)|(apply Zah Zab;exact Z)|(apply Zay Zab;exact Z)|(apply Zac;exact Z;exact Qt)|(apply Zak Zab;(iterate 4 exact Z))|(apply Zat Zab;(iterate 6 exact Z);(first|exact Qt|rotate_left);(first|with_reducible assumption|decide +kernel|exact Z);(first|exact Zag rfl|with_reducible assumption|decide +kernel|rotate_left)))
  refine ZaC (fun k2 tm bx fr=>∃(j s':Nat),k2+j=8/\s'<2 ^ (W+1)/\itN p (8-j) s'=y0/\tm=[(0,byE b),(1,.int .u64 (f:Int)),(2,.int .u64 (p:Int)),(7,.int .u64 (s':Int)),(8,.int .i64 (i:Int)),(9,.int .i64 (j:Int))]/\bx=[]/\fr=[]) 9 (Lands.mk' (m:=8) (Nat.lt_succ_self _) ⟨0,x0,rfl,hxc,hb8,rfl,rfl,rfl⟩ ?_ rfl rfl rfl rfl rfl rfl) ?_
  ·exact .cons rfl (.cons rfl (.cons rfl (.cons rfl (.cons rfl (.cons rfl .nil)))))
  rintro k2 tm bx fr ⟨j,s',hj,hs',hit,rfl,rfl,rfl⟩
  rcases Nat.lt_or_ge j 8 with h8|h8
  ·have hd8:decide ((j:Int)<8)=true:=decide_eq_true (by omega)
   have ej:IntKind.i64.wrap ((j:Int)+1)=((j+1:Nat):Int):=by rw[IntWalk.i64_in _ (by omega)];omega
   have er:((s':Nat):Int).tmod 2=((s' % 2:Nat):Int):=by rw[Int.tmod_eq_emod_of_nonneg (Int.natCast_nonneg _)];omega
   have eq:IntKind.u64.wrap (((s':Nat):Int).tdiv 2)=((s'/2:Nat):Int):=by rw[Int.tdiv_eq_ediv_of_nonneg (Int.natCast_nonneg _),IntKind.wrap_u64];omega
   have hh:=hH s' hs'
   have hit2:itN p (8-(j+1)) (hN p s')=y0:=by rw[<- hit,show 8-j=(8-(j+1))+1 from by omega];rfl
   have hdef:hN p s'=(s'/2) ^^^ (if s' % 2=1 then p else 0):=by
    unfold hN
    rw[Nat.shiftRight_eq_div_pow,Nat.testBit_zero]
    simp
   have exx:bits .xor .u64 ((s'/2:Nat):Int) (p:Int)=(((s'/2) ^^^ p:Nat):Int):=u64_xor_nat _ _ (by omega) (by omega)
   rcases Nat.mod_two_eq_zero_or_one s' with h2|h2
   ·rw[h2,if_neg (by omega),Nat.xor_zero]at hdef
    rw[h2]at er
    rw[hdef]at hit2 hh
    repeat'(first|rw[er]|rw[eq]|rw[ej]|(apply Zaj Zab;exact Z)|(apply Zah Zab;exact Z)|(apply Zac;exact Z;exact Qt)|(apply Zae;exact Z;exact Qt)|(apply ZeH;exact Z;exact Z;(first|exact Qt|rotate_left);exact Z)|(apply ZeI;exact Z;exact Z;(first|exact Qt|rotate_left);exact Z))
    refine Lands.mk' (m:=k2-1) (by omega) ⟨j+1,s'/2,by omega,hh,hit2,rfl,rfl,rfl⟩ ?_ rfl rfl rfl rfl rfl rfl
    exact .cons rfl (.cons rfl (.cons rfl (.cons rfl (.cons rfl (.cons rfl .nil)))))
   ·rw[h2,if_pos rfl]at hdef
    rw[h2]at er
    rw[hdef]at hit2 hh
    repeat'(first|rw[er]|rw[eq]|rw[exx]|rw[ej]|(apply Zaj Zab;exact Z)|(apply Zah Zab;exact Z)|(apply Zac;exact Z;exact Qt)|(apply ZeH;exact Z;exact Z;(first|exact Qt|rotate_left);exact Z)|(apply ZeI;exact Z;exact Z;(first|exact Qt|rotate_left);exact Z))
    refine Lands.mk' (m:=k2-1) (by omega) ⟨j+1,(s'/2) ^^^ p,by omega,hh,hit2,rfl,rfl,rfl⟩ ?_ rfl rfl rfl rfl rfl rfl
    exact .cons rfl (.cons rfl (.cons rfl (.cons rfl (.cons rfl (.cons rfl .nil)))))
  ·obtain rfl:j=8:=by omega
   have hd8:decide (((8:Nat):Int)<8)=false:=rfl
   have hy:s'=y0:=hit
   subst hy
   repeat'(first|rw[ei]|(apply Zah Zab;exact Z)|(apply Zae;exact Z;exact Qt))
   refine Lands.mk' (m:=k-1) (by omega) ⟨i+1,s',by omega,hs',hq2,rfl,rfl,rfl⟩ ?_ rfl rfl rfl rfl rfl rfl
   exact .cons rfl (.cons rfl (.cons rfl (.cons rfl (.cons rfl .nil))))
 ·have hd:decide ((i:Int)<((b.map E.byte).length:Int))=false:=decide_eq_false (by omega)
  rw[List.drop_eq_nil_of_le hge]at hq
  have hq:s=fin:=hq
  subst hq
  have es:IntKind.u64.wrap ((f:Int)-(s:Int))=((f-s:Nat):Int):=by rw[IntKind.wrap_u64];omega
  repeat'(first|rw[es]|(apply Zaj Zab;exact Z)|(apply Zah Zab;exact Z)|(apply Zay Zab;exact Z)|(apply Zae;exact Z;exact Qt)|(apply Zak Zab;(iterate 4 exact Z)))
  all_goals(apply Zaz [];(apply Zad Zab;exact Z);(iterate 4 exact Z))
  all_goals rfl
theorem Zi4 [Known](b:List UInt8)(hb:b.length<=1099511627776):AP Tryd.prog 65 [byE b] (.int .u16 (Zdt b)) []:=by
 have h:=Zi3 b hb 65535 33800 15 (by decide) (by decide) (by decide) (by decide)
 obtain⟨h1,h2⟩:=Zf1 b
 have hr:=Zi2 (p:=33800) (W:=15) (by decide) (by decide) b 65535 (by decide)
 have hx:65535 ^^^ ruN 33800 65535 (b.map UInt8.toNat)=65535-ruN 33800 65535 (b.map UInt8.toNat):=Zho (n:=16) hr
 rw[hx]at h1 h2
 rw[h1]
 generalize 65535-ruN 33800 65535 (b.map UInt8.toNat)=z at *
 have e:IntKind.u16.wrap (z:Int)=(z:Int):=IntWalk.u16_in _ (by omega)
 refine AP.ofA ?_
 refine Zao Tryd.func65 rfl Tryd.ntmps65 rfl rfl ?_
 repeat'(first|rw[e]|(apply Zaa (h);kernel_rfl;(iterate 4 exact Z))|(apply Zaj Zab;exact Z)|(apply Zah Zab;exact Z))
 all_goals(apply Zaz [];(apply Zad Zab;exact Z);(iterate 4 exact Z))
 all_goals rfl
theorem Zka [Known](b:List UInt8)(hb:b.length<=1099511627776):AP Tryd.prog 66 [byE b] (.int .u32 (ZdA b)) []:=by
 have h:=Zi3 b hb 4294967295 2197175160 31 (by decide) (by decide) (by decide) (by decide)
 obtain⟨h1,h2⟩:=Zhn b
 have hr:=Zi2 (p:=2197175160) (W:=31) (by decide) (by decide) b 4294967295 (by decide)
 have hx:4294967295 ^^^ ruN 2197175160 4294967295 (b.map UInt8.toNat)=4294967295-ruN 2197175160 4294967295 (b.map UInt8.toNat):=Zho (n:=32) hr
 rw[hx]at h1 h2
 rw[h1]
 generalize 4294967295-ruN 2197175160 4294967295 (b.map UInt8.toNat)=z at *
 have e:IntKind.u32.wrap (z:Int)=(z:Int):=IntWalk.u32_in _ (by omega)
 refine AP.ofA ?_
 refine Zao Tryd.func66 rfl Tryd.ntmps66 rfl rfl ?_
 repeat'(first|rw[e]|(apply Zaa (h);kernel_rfl;(iterate 4 exact Z))|(apply Zaj Zab;exact Z)|(apply Zah Zab;exact Z))
 all_goals(apply Zaz [];(apply Zad Zab;exact Z);(iterate 4 exact Z))
 all_goals rfl
end Go.Proofs.YtakblclkflnnpaaDoor
end
