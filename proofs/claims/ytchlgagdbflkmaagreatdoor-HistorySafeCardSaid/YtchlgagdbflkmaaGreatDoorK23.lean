/- Package primary: a list's items looked at; the type that a list says. -/
import Derived.Test.YtchlgagdbflkmaaGreatDoorK15
import Derived.Test.YtchlgagdbflkmaaGreatDoorK18
import Derived.Test.YtchlgagdbflkmaaGreatDoorK10
import Derived.Test.YtchlgagdbflkmaaGreatDoorK12
import Derived.Test.YtchlgagdbflkmaaGreatDoorK22
set_option linter.unusedVariables false
set_option linter.unusedSimpArgs false
section
open Go.RowKit Go.Pl Go.Av
namespace Go.Proofs.YtchlgagdbflkmaaGreatDoor
set_option maxHeartbeats 4000000
theorem TR [Known](l:List It)(hne:l ≠ [])(hl:l.length<=1000000):AT Tryz.prog 245 [.sl .ext (Zu l)] [] [] (.sl (.own 0) (Zu l)) [] [⟨l.length,4,230⟩]:=by
 have hU:=Y4 l
 have hlen:=Zz l
 rw[<- hlen]
 rw[<- hlen]at hl
 have hE:Zu l ≠ []:=fun h=>hne (by rw[h]at hlen;exact List.length_eq_zero_iff.1 hlen.symm)
 refine Zl Tryz.func245 rfl Tryz.ntmps245 rfl rfl ?_
 repeat'(first|(apply O0 Za;(iterate 5 exact Z);intro b hbn;(have hbn2:=hbn hE);subst hbn2;clear hbn)|(apply Zg Za;exact Z)|(apply Zh Za;exact Z)|(apply Zs Za;exact Z)|(apply Zf;exact Z;(first|with_reducible assumption|(solve|simp only[bn])))|refine K4 Za Z Z Z Z Z Z Z Z Z Z Z Z ?_|(apply Z3 Za;(iterate 6 exact Z);(first|with_reducible assumption|exact Z|rotate_left);exact Z;exact Z;(first|exact Zk rfl|with_reducible assumption|rotate_left);(first|exact Zk rfl|with_reducible assumption|rotate_left);(first|exact Qb|rotate_left);(first|exact Qb|rotate_left);(first|exact Qb|rotate_left);exact Z;exact Z))
 all_goals first|(apply Wg [] [0];(apply Zc Za;exact Z);(iterate 7 exact Z))|skip
 all_goals first|rfl|(simp at hl ⊢;(try unfold maxLen);omega)|(simp at hl ⊢;done)
theorem N7 [Known][KnownU8](x:It)(hw:wfI x):AP Tryz.prog 250 [itD x] (.bool (!ZS x)) []:=by
 have hR:=Wj x hw
 obtain⟨k,n,b,l⟩:=x
 refine AP.ofA (Zl Tryz.func250 Z Tryz.ntmps250 Z Z ?_)
 repeat'(first|(apply Zb (hR);kernel_rfl;(iterate 4 exact Z))|(apply Zg Za;exact Z)|(apply Zh Za;exact Z))
 all_goals exact Qe
def fiI:List It->Nat->Int
 | [],_ => -1
 | x::l,i=>match ZS x with|true=>fiI l (i+1)|false=>(i:Int)
theorem N8:∀(l:List It) (i:Nat),decide (fiI l i ≥ 0) = !(l.all ZS)
 | [],_=>rfl
 | x::l,i=>by
  rw[fiI,List.all_cons]
  cases ZS x with
  | true=>simpa using N8 l (i+1)
  | false=>simp
theorem LD [Known][KnownU8](l:List It)(hws:wfs l)(hl:l.length<=1000000):AP Tryz.prog 272 [.sl .ext (Zu l),.fn 250 []] (.int .i64 (fiI l 0)) []:=by
 have hlen:=Zz l
 have hU:=Y4 l
 generalize hfin:fiI l 0=fin
 refine AP.ofA (Zl Tryz.func272 Z Tryz.ntmps272 Z Z ?_)
 repeat'(first|(apply Zg Za;exact Z)|(apply Zh Za;exact Z)|refine Zn Za Z Z Z Z ?_)
 refine Yf (fun f tm bx fr=>∃(i:Nat),f+i=l.length/\fiI (l.drop i) i=fin/\tm=[(0,.sl .ext (Zu l)),(1,.fn 250 []),(4,.int .i64 0),(7,.int .i64 ((Zu l).length:Int)),(8,.int .i64 (i:Int))]/\bx=[]/\fr=[]) (l.length+1) (Lands.mk' (m:=l.length) (Nat.lt_succ_self _) ⟨0,by omega,hfin,rfl,rfl,rfl⟩ ?_ rfl rfl rfl rfl rfl rfl) ?_
 ·exact .cons rfl (.cons rfl (.cons rfl (.cons rfl (.cons rfl .nil))))
 rintro f tm bx fr ⟨i,hf,hq,rfl,rfl,rfl⟩
 rcases Nat.lt_or_ge i l.length with hlt|hge
 ·have hdl:decide ((i:Int)<((Zu l).length:Int))=true:=decide_eq_true (by omega)
  obtain⟨⟨k1,n1,b1,l1⟩,hy⟩:∃ y,l[i]?=some y:=⟨_,List.getElem?_eq_getElem hlt⟩
  have hv:(Zu l)[((i:Nat):Int).toNat]?=some (.agg [.int .i64 k1,.int .u64 (n1:Int),.sl (b1.map E.byte),.sl (Zu l1)]):=by
   rw[Int.toNat_natCast,Yi,List.getElem?_map,hy];rfl
  have hc:=N7 _ (YD hws _ (List.mem_of_getElem? hy))
  have hdr:l.drop i=It.mk k1 n1 b1 l1::l.drop (i+1):=by
   rw[List.drop_eq_getElem_cons hlt];congr 1
   exact(List.getElem?_eq_some_iff.1 hy).2
  rw[hdr,fiI]at hq
  have ei:IntKind.i64.wrap ((i:Int)+1)=((i+1:Nat):Int):=by rw[IntWalk.i64_in _ (by omega)];omega
  cases hb:ZS (.mk k1 n1 b1 l1) with
  | true=>
   rw[hb]at hq hc
   replace hc:AP Tryz.prog _ _ (.bool false) []:=hc
   repeat'(first|rw[ei]|(apply WR (hc);exact Z;kernel_rfl;(iterate 3 exact Z))|(apply Zg Za;exact Z)|(apply Zh Za;exact Z)|(apply Zs Za;exact Z)|refine Ze Z Qt ?_|refine Zf Z Qt ?_|(apply Zw Za;(iterate 6 exact Z);(first|exact Qt|rotate_left);(first|with_reducible assumption|decide +kernel|exact Z);(first|exact Zk rfl|with_reducible assumption|decide +kernel|rotate_left)))
   refine Lands.mk' (m:=f-1) (by omega) ⟨i+1,by omega,hq,rfl,rfl,rfl⟩ ?_ rfl rfl rfl rfl rfl rfl
   exact .cons rfl (.cons rfl (.cons rfl (.cons rfl (.cons rfl .nil))))
  | false=>
   rw[hb]at hq hc
   replace hc:AP Tryz.prog _ _ (.bool true) []:=hc
   have hq:(i:Int)=fin:=hq
   subst hq
   repeat'(first|(apply WR (hc);exact Z;kernel_rfl;(iterate 3 exact Z))|(apply Zg Za;exact Z)|(apply Zh Za;exact Z)|(apply Zs Za;exact Z)|refine Ze Z Qt ?_|refine WI ?_|(apply Zw Za;(iterate 6 exact Z);(first|exact Qt|rotate_left);(first|with_reducible assumption|decide +kernel|exact Z);(first|exact Zk rfl|with_reducible assumption|decide +kernel|rotate_left)))
   all_goals exact Qe
 ·have hdl:decide ((i:Int)<((Zu l).length:Int))=false:=decide_eq_false (by omega)
  rw[List.drop_eq_nil_of_le hge]at hq
  have hq:(-1:Int)=fin:=hq
  subst hq
  repeat'(first|(apply Zh Za;exact Z)|refine Zf Z Qt ?_)
  all_goals exact Qe
theorem N9 [Known][KnownU8](l:List It)(hws:wfs l)(hl:l.length<=1000000):AP Tryz.prog 251 [.sl .ext (Zu l),.fn 250 []] (.bool (!(l.all ZS))) []:=by
 have hI:=LD l hws hl
 rw[<- N8 l 0]
 refine AP.ofA (Zl Tryz.func251 Z Tryz.ntmps251 Z Z ?_)
 repeat'(first|(apply Zb (hI);kernel_rfl;(iterate 4 exact Z))|(apply Zg Za;exact Z)|(apply Zh Za;exact Z))
 all_goals exact Qe
def YV (l:List It)(a:Int):Int:=if a<0 then -1 else match l[a.toNat]? with
 | none => -1
 | some (.mk k n b r)=>match decide ((n:Int)>2) with
  | true => -1
  | false=>match It.beq (.mk k n b r) (.mk 0 n [] []) with
   | true=>(n:Int)
   | false => -1
theorem Oq [Known](l:List It)(hws:wfs l)(a:Int):AP Tryz.prog 207 [.sl .ext (Zu l),.int .i64 a] (.int .i64 (YV l a)) []:=by
 have hlen:=Zz l
 have hU:=Y4 l
 unfold YV
 rcases Int.lt_or_le a 0 with h0|h0
 ·have t1:decide (a<0)=true:=decide_eq_true h0
  rw[if_pos h0]
  refine AP.ofA (Zl Tryz.func207 Z Tryz.ntmps207 Z Z ?_)
  repeat'(first|(apply Zg Za;exact Z)|(apply Zh Za;exact Z)|(apply Zs Za;exact Z)|refine Zo Z Z Z Qt ?_|refine Zj Z Qt Z Z ?_|refine Ze Z Qt ?_|(apply Zm 27 ZG;decide +kernel;kernel_rfl;kernel_rfl;kernel_rfl;exact Z;exact Z)|(apply Zq;(iterate 4 exact Z))|exact AE.nil _ _ _ _|(apply Zv;exact Z)|(apply ZA;exact Z;exact Z;decide +kernel;exact Z)|(apply ZB;exact Z)|exact AO.nil _ _ _|(apply Zp;(decide +kernel))|exact AOs.nil|exact ZJ rfl rfl)
  all_goals exact Qe
 have t1:decide (a<0)=false:=decide_eq_false (by omega)
 rw[if_neg (by omega)]
 rcases Int.lt_or_le a l.length with h1|h1
 case inr=>
  have t2:decide (a ≥ ((Zu l).length:Int))=true:=decide_eq_true (by omega)
  rw[List.getElem?_eq_none (by omega)]
  refine AP.ofA (Zl Tryz.func207 Z Tryz.ntmps207 Z Z ?_)
  repeat'(first|(apply Zg Za;exact Z)|(apply Zh Za;exact Z)|(apply Zs Za;exact Z)|refine Zd Z Z Z Qt ?_|refine Zo Z Z Z Qt ?_|refine Zj Z Qt Z Z ?_|refine Zi Z Qt Z Z ?_|refine Ze Z Qt ?_|refine Zn Za Z Z Z Z ?_|(apply Zm 27 ZG;decide +kernel;kernel_rfl;kernel_rfl;kernel_rfl;exact Z;exact Z)|(apply Zq;(iterate 4 exact Z))|exact AE.nil _ _ _ _|(apply Zv;exact Z)|(apply ZA;exact Z;exact Z;decide +kernel;exact Z)|(apply ZB;exact Z)|exact AO.nil _ _ _|(apply Zp;(decide +kernel))|exact AOs.nil|exact ZJ rfl rfl)
  all_goals exact Qe
 have t2:decide (a ≥ ((Zu l).length:Int))=false:=decide_eq_false (by omega)
 obtain⟨⟨k,n,b,l1⟩,hy⟩:∃ y,l[a.toNat]?=some y:=⟨_,List.getElem?_eq_getElem (by omega)⟩
 have hv:(Zu l)[a.toNat]?=some (.agg [.int .i64 k,.int .u64 (n:Int),.sl (b.map E.byte),.sl (Zu l1)]):=by
  rw[Yi,List.getElem?_map,hy];rfl
 have hw:=YD hws _ (List.mem_of_getElem? hy)
 have hS:=Ub (.mk k n b l1) hw (.mk 0 n [] []) (by obtain⟨h1,_⟩:=hw;exact⟨h1,by simp,by simp,trivial⟩)
 have hN:=YY n
 rw[hy]
 dsimp only
 cases t3:decide ((n:Int)>2) with
 | true=>
  refine AP.ofA (Zl Tryz.func207 Z Tryz.ntmps207 Z Z ?_)
  repeat'(first|(apply Zg Za;exact Z)|(apply Zh Za;exact Z)|(apply Zs Za;exact Z)|refine Zd Z Z Z Qt ?_|refine Zo Z Z Z Qt ?_|refine Zj Z Qt Z Z ?_|refine Zi Z Qt Z Z ?_|refine Ze Z Qt ?_|refine Zn Za Z Z Z Z ?_|(apply Zm 27 ZG;decide +kernel;kernel_rfl;kernel_rfl;kernel_rfl;exact Z;exact Z)|(apply Zq;(iterate 4 exact Z))|exact AE.nil _ _ _ _|(apply Zv;exact Z)|(apply ZA;exact Z;exact Z;decide +kernel;exact Z)|(apply ZB;exact Z)|exact AO.nil _ _ _|(apply Zp;(decide +kernel))|exact AOs.nil|exact ZJ rfl rfl|(apply Zw Za;(iterate 6 exact Z);(first|exact Qt|rotate_left);(first|with_reducible assumption|decide +kernel|exact Z);(first|exact Zk rfl|with_reducible assumption|decide +kernel|rotate_left)))
  all_goals exact Qe
 | false=>
  have en:IntKind.i64.wrap (n:Int)=(n:Int):=IntWalk.i64_in _ (by simp at t3;omega)
  cases t4:It.beq (.mk k n b l1) (.mk 0 n [] []) with
  | true=>
   rw[t4]at hS
   refine AP.ofA (Zl Tryz.func207 Z Tryz.ntmps207 Z Z ?_)
   repeat'(first|(apply Zb (hN);kernel_rfl;(iterate 4 exact Z))|(apply Zb (hS);kernel_rfl;(iterate 4 exact Z))|rw[en]|(apply Zg Za;exact Z)|(apply Zh Za;exact Z)|(apply Zs Za;exact Z)|refine Zd Z Z Z Qt ?_|refine Zi Z Qt Z Z ?_|refine Zf Z Qt ?_|refine Zn Za Z Z Z Z ?_|(apply Zm 27 ZG;decide +kernel;kernel_rfl;kernel_rfl;kernel_rfl;exact Z;exact Z)|(apply Zq;(iterate 4 exact Z))|exact AE.nil _ _ _ _|(apply Zv;exact Z)|(apply ZA;exact Z;exact Z;decide +kernel;exact Z)|(apply ZB;exact Z)|exact AO.nil _ _ _|(apply Zp;(decide +kernel))|exact AOs.nil|exact ZJ rfl rfl|(apply Zw Za;(iterate 6 exact Z);(first|exact Qt|rotate_left);(first|with_reducible assumption|decide +kernel|exact Z);(first|exact Zk rfl|with_reducible assumption|decide +kernel|rotate_left)))
   all_goals exact Qe
  | false=>
   rw[t4]at hS
   refine AP.ofA (Zl Tryz.func207 Z Tryz.ntmps207 Z Z ?_)
   repeat'(first|(apply Zb (hN);kernel_rfl;(iterate 4 exact Z))|(apply Zb (hS);kernel_rfl;(iterate 4 exact Z))|(apply Zg Za;exact Z)|(apply Zh Za;exact Z)|(apply Zs Za;exact Z)|refine Zd Z Z Z Qt ?_|refine Zi Z Qt Z Z ?_|refine Ze Z Qt ?_|refine Zn Za Z Z Z Z ?_|(apply Zm 27 ZG;decide +kernel;kernel_rfl;kernel_rfl;kernel_rfl;exact Z;exact Z)|(apply Zq;(iterate 4 exact Z))|exact AE.nil _ _ _ _|(apply Zv;exact Z)|(apply ZA;exact Z;exact Z;decide +kernel;exact Z)|(apply ZB;exact Z)|exact AO.nil _ _ _|(apply Zp;(decide +kernel))|exact AOs.nil|exact ZJ rfl rfl|(apply Zw Za;(iterate 6 exact Z);(first|exact Qt|rotate_left);(first|with_reducible assumption|decide +kernel|exact Z);(first|exact Zk rfl|with_reducible assumption|decide +kernel|rotate_left)))
   all_goals exact Qe
abbrev Bl (s:Int):Int:=s.fdiv (2 ^ (min (Int.toNat 1) IntKind.u32.bits))
def Ui (s p:Int):Int:=match(bits .and .u32 s 1==1) with
 | true=>bits .xor .u32 (Bl s) p
 | false=>Bl s
theorem Ma [Known](s p:Int):AP Tryz.prog 287 [.int .u32 s,.int .u32 p] (.int .u32 (Ui s p)) []:=by
 unfold Ui
 cases t:(bits .and .u32 s 1==1)
 all_goals
  refine AP.ofA (Zl Tryz.func287 Z Tryz.ntmps287 Z Z ?_)
  repeat'(first|(apply Zg Za;exact Z)|(apply Zh Za;exact Z)|refine Ze Z Qt ?_|refine Zf Z Qt ?_|(apply Yy;exact Z;exact Z;(first|exact Qt|rotate_left);exact Z))
  all_goals exact Qe
def Mb (s:Int)(c:UInt8)(p:Int):Int:=
 Ui (Ui (Ui (Ui (Ui (Ui (Ui (Ui (bits .xor .u32 s (IntKind.u32.wrap (c.toNat:Int))) p) p) p) p) p) p) p) p
theorem TS [Known](s p:Int)(c:UInt8):AP Tryz.prog 283 [.int .u32 s,.int .u8 (c.toNat:Int),.int .u32 p] (.int .u32 (Mb s c p)) []:=by
 refine AP.ofA (Zl Tryz.func283 Z Tryz.ntmps283 Z Z ?_)
 repeat'(first|(apply Zb (Ma _ _);kernel_rfl;(iterate 4 exact Z))|refine Ws 20 ?_|refine W0 ?_|(apply Zg Za;exact Z)|(apply Zh Za;exact Z)|refine Ze Z Qt ?_|refine Zf Z Qt ?_)
 all_goals exact Qe
def TT (s p:Int)(b:List UInt8):Int:=b.foldl (fun s c=>Mb s c p) s
theorem Mc [Known](s p:Int)(b:List UInt8)(hb:b.length<=1000000000):AP Tryz.prog 271 [.int .u32 s,byE b,.int .u32 p] (.int .u32 (TT s p b)) []:=by
 have hl:(b.map E.byte).length=b.length:=List.length_map ..
 have hU:=Y7 b
 generalize hfin:TT s p b=fin
 refine AP.ofA (Zl Tryz.func271 Z Tryz.ntmps271 Z Z ?_)
 repeat'(first|(apply Zg Za;exact Z)|(apply Zh Za;exact Z)|refine Zn Za Z Z Z Z ?_)
 refine Yf (fun k tm bx fr=>∃(i:Nat) (q:Int) (o:D),k+i=b.length/\TT q p (b.drop i)=fin/\tm=[(0,.int .u32 q),(1,byE b),(2,.int .u32 p),(6,.int .u32 0),(9,byE b),(10,.int .i64 (b.length:Int)),(11,.int .i64 (i:Int))]/\bx=[]/\fr=[]) (b.length+1) (Lands.mk' (m:=b.length) (Nat.lt_succ_self _) ⟨0,s,.tup [],by omega,hfin,rfl,rfl,rfl⟩ ?_ rfl rfl rfl rfl rfl rfl) ?_
 ·exact .cons rfl (.cons rfl (.cons rfl (.cons rfl (.cons rfl (.cons (by rw[<- hl];rfl) (.cons rfl .nil))))))
 rintro k tm bx fr ⟨i,q,o,hk,hq,rfl,rfl,rfl⟩
 rcases Nat.lt_or_ge i b.length with hlt|hge
 ·have hd:decide ((i:Int)<(b.length:Int))=true:=decide_eq_true (by omega)
  obtain⟨c,hc⟩:∃ c,b[i]?=some c:=⟨_,List.getElem?_eq_getElem hlt⟩
  have hv:(b.map E.byte)[((i:Nat):Int).toNat]?=some (E.byte c):=by
   rw[Int.toNat_natCast,List.getElem?_map,hc];rfl
  have hdr:b.drop i=c::b.drop (i+1):=by
   rw[List.drop_eq_getElem_cons hlt];congr 1
   exact(List.getElem?_eq_some_iff.1 hc).2
  rw[hdr]at hq
  have hq2:TT (Mb q c p) p (b.drop (i+1))=fin:=hq
  have ei:IntKind.i64.wrap ((i:Int)+1)=((i+1:Nat):Int):=by rw[IntWalk.i64_in _ (by omega)];omega
  repeat'(first|(apply Zb (TS _ _ _);kernel_rfl;(iterate 4 exact Z))|rw[ei]|(apply Zg Za;exact Z)|(apply Zh Za;exact Z)|refine Ze Z Qt ?_|(apply Zw Za;(iterate 6 exact Z);(first|exact Qt|rotate_left);(first|with_reducible assumption|decide +kernel|exact Z);(first|exact Zk rfl|with_reducible assumption|decide +kernel|rotate_left)))
  refine Lands.mk' (m:=k-1) (by omega) ⟨i+1,_,.tup [],by omega,hq2,rfl,rfl,rfl⟩ ?_ rfl rfl rfl rfl rfl rfl
  exact .cons rfl (.cons rfl (.cons rfl (.cons rfl (.cons rfl (.cons rfl (.cons rfl .nil))))))
 ·have hd:decide ((i:Int)<(b.length:Int))=false:=decide_eq_false (by omega)
  rw[List.drop_eq_nil_of_le hge]at hq
  have hq:q=fin:=hq
  subst hq
  repeat'(first|(apply Zh Za;exact Z)|refine Zf Z Qt ?_)
  all_goals exact Qe
def Kl (b:List UInt8):Int:=bits .xor .u16 (if IntKind.u16.signed then -1 else IntKind.u16.max) (IntKind.u16.wrap (TT 65535 33800 b))
def JB (b:List UInt8):Int:=bits .xor .u32 (if IntKind.u32.signed then -1 else IntKind.u32.max) (TT 4294967295 2197175160 b)
theorem Md [Known](b:List UInt8)(hb:b.length<=1000000000):AP Tryz.prog 246 [byE b] (.int .u16 (Kl b)) []:=by
 have hR:=Mc 65535 33800 b hb
 refine AP.ofA (Zl Tryz.func246 Z Tryz.ntmps246 Z Z ?_)
 repeat'(first|(apply Zb (hR);kernel_rfl;(iterate 4 exact Z))|refine NN Z Z ?_|(apply Zg Za;exact Z)|(apply Zh Za;exact Z))
 all_goals exact Qe
theorem LE [Known](b:List UInt8)(hb:b.length<=1000000000):AP Tryz.prog 247 [byE b] (.int .u32 (JB b)) []:=by
 have hR:=Mc 4294967295 2197175160 b hb
 refine AP.ofA (Zl Tryz.func247 Z Tryz.ntmps247 Z Z ?_)
 repeat'(first|(apply Zb (hR);kernel_rfl;(iterate 4 exact Z))|refine NN Z Z ?_|(apply Zg Za;exact Z)|(apply Zh Za;exact Z))
 all_goals exact Qe
def Yh (s:Nat)(l:List It):It:=.mk 4 0 [] (l++[.mk 2 0 (List.replicate (2*s) 0) []])
abbrev shU (k:IntKind)(z:Int)(q:Int):Int:=IntKind.u8.wrap (z.fdiv (2 ^ (min q.toNat k.bits)))
def Bm (s:Nat)(b:List UInt8):List E:=
 if s=1 then [.int .u8 (shU .u16 (Kl b) 8),.int .u8 (IntKind.u8.wrap (Kl b))]
 else [.int .u8 (shU .u32 (JB b) 24),.int .u8 (shU .u32 (JB b) 16),.int .u8 (shU .u32 (JB b) 8),.int .u8 (IntKind.u8.wrap (JB b))]
def by8 (z:Int):UInt8:=UInt8.ofNat (IntKind.u8.wrap z).toNat
theorem Bn (z:Int):E.byte (by8 z)=.int .u8 (IntKind.u8.wrap z):=by
 have h:0<=IntKind.u8.wrap z/\IntKind.u8.wrap z<256:=by
  rw[IntKind.wrap_u8];omega
 show E.int .u8 ((by8 z).toNat:Int)=_
 have e:((by8 z).toNat:Int)=IntKind.u8.wrap z:=by
  unfold by8
  rw[UInt8.toNat_ofNat']
  omega
 rw[e]
def U2 (s:Nat)(b:List UInt8):List UInt8:=
 if s=1 then [by8 ((Kl b).fdiv (2 ^ (min (8:Int).toNat IntKind.u16.bits))),by8 (Kl b)]
 else [by8 ((JB b).fdiv (2 ^ (min (24:Int).toNat IntKind.u32.bits))),by8 ((JB b).fdiv (2 ^ (min (16:Int).toNat IntKind.u32.bits))),by8 ((JB b).fdiv (2 ^ (min (8:Int).toNat IntKind.u32.bits))),by8 (JB b)]
theorem Se (s:Nat)(b:List UInt8):(U2 s b).map E.byte=Bm s b:=by
 unfold U2 Bm
 split<;>simp only[List.map_cons,List.map_nil,Bn]
theorem Km (s:Nat)(b:List UInt8)(hs:s=1\/s=2):(U2 s b).length=2*s:=by
 unfold U2
 rcases hs with rfl|rfl<;>rfl
theorem XA:∀ {l r:List It},wfs l->wfs r->wfs (l++r)
 | [],r,_,h=>h
 | x::l,r,h1,h2=>⟨h1.1,XA h1.2 h2⟩
theorem LF {s:Nat}{l:List It}(hs:s=1\/s=2)(hws:wfs l)(hl:l.length<=1000000):wfI (Yh s l):=by
 refine⟨by decide,by simp,by simp;omega,XA hws ⟨⟨by decide,?_,by simp,trivial⟩,trivial⟩⟩
 rcases hs with rfl|rfl<;>decide
theorem Kn [Known](s:Nat)(hs:s=1\/s=2):AP Tryz.prog 209 [.int .i64 (s:Int)] (.int .i64 ((2*s:Nat):Int)) []:=by
 rcases hs with rfl|rfl
 all_goals
  refine AP.ofA (Zl Tryz.func209 Z Tryz.ntmps209 Z Z ?_)
  repeat'(first|(apply Zh Za;exact Z))
  all_goals exact Qe
theorem Gd [Known][KnownU8](l:List It)(s:Nat)(hs:s=1\/s=2)(hne:l ≠ [])(hws:wfs l)(hl:l.length<=1000000)(hlim:(ZU (Yh s l)).length<=1000000000) :
  AP Tryz.prog 210 [.sl .ext (Zu l),.int .i64 (s:Int)] (match ZS (Yh s l) with|true=>.tup [byE (U2 s (ZU (Yh s l))),.int .i64 0]|false=>.tup [.sl .ext [],.int .i64 3]) []:=by
 have hwz:=LF hs hws hl
 have hC:=TR l hne hl
 have hW:=Ok (Yh s l) hwz (by omega) (Wj _ hwz)
 have hU:=Y4 l
 have hlen:=Zz l
 have hmx:(Zu l).length<=1000000:=by omega
 have hZ:=Kn s hs
 have hB:=Jy (List.replicate (2*s) 0) (by rcases hs with rfl|rfl<;>decide)
 have hL:=W4 (l++[.mk 2 0 (List.replicate (2*s) 0) []]) (by simp;omega) hwz.2.2.2
 have hSh:=Md (ZU (Yh s l)) hlim
 have hLo:=LE (ZU (Yh s l)) hlim
 rw[VU]at hL
 have eZ:itD (.mk 4 0 [] (l++[.mk 2 0 (List.replicate (2*s) 0) []]))=itD (Yh s l):=rfl
 rw[eZ]at hL
 unfold byE
 rw[Se]
 rw[<- hlen]at hC
 cases hr:ZS (Yh s l) with
 | false=>
  rw[hr]at hW
  replace hW:AP Tryz.prog 180 [itD (Yh s l)] (.tup [.sl .ext [],.int .i64 3]) []:=hW
  have eL:itD (Yh s l)=.agg [.int .i64 4,.int .u64 0,.sl .ext [],.sl .ext (Zu (l++[.mk 2 0 (List.replicate (2*s) 0) []]))]:=rfl
  rw[eL]at hL hW
  generalize Zu (l++[.mk 2 0 (List.replicate (2*s) 0) []])=ZL at *
  clear hSh hLo hlim hwz eZ eL
  rcases hs with rfl|rfl
  all_goals
   refine AP.ofA (Zl Tryz.func210 Z Tryz.ntmps210 Z Z ?_)
   repeat'(first|(apply Zx [] [] (hC);kernel_rfl;(iterate 10 exact Z))|(apply Zb (hZ);kernel_rfl;(iterate 4 exact Z))|(apply Jp Za (l:=2);(iterate 12 exact Z))|(apply Jp Za (l:=4);(iterate 12 exact Z))|(apply Zb (hB);kernel_rfl;(iterate 4 exact Z))|(apply Zb (hL);kernel_rfl;(iterate 4 exact Z))|(apply Zb (hW);kernel_rfl;(iterate 4 exact Z))|(apply Zg Za;exact Z)|(apply Zh Za;exact Z)|(apply Zs Za;exact Z)|refine Ze Z Qt ?_|refine ZO Za Z Z Z Z Z Z Z Z Z Z Z Z ?_|(apply Z3 Za;(iterate 6 exact Z);(first|with_reducible assumption|decide +kernel|exact Z|rotate_left);exact Z;exact Z;(first|exact Zk rfl|with_reducible assumption|decide +kernel|rotate_left);(first|exact Zk rfl|with_reducible assumption|decide +kernel|rotate_left);(first|exact Qt|rotate_left);(first|exact Qt|rotate_left);(first|exact Qt|rotate_left);exact Z;exact Z))
   all_goals first|((apply Zt [];(apply Zc Za;exact Z);(iterate 4 exact Z)))|skip
   all_goals first|rfl|(first|rfl|(simp only[List.length_append,List.length_cons,List.length_nil,List.length_map,Zz];done)|(simp only[List.length_append,List.length_cons,List.length_nil,List.length_map,Zz]at *;(try unfold maxLen);(try simp only[Nat.add_mul]);omega))|(simp;done)|(simp;omega)|(simp;unfold maxLen;omega)
 | true=>
  rw[hr]at hW
  replace hW:AP Tryz.prog 180 [itD (Yh s l)] (.tup [byE (ZU (Yh s l)),.int .i64 0]) []:=hW
  have eL:itD (Yh s l)=.agg [.int .i64 4,.int .u64 0,.sl .ext [],.sl .ext (Zu (l++[.mk 2 0 (List.replicate (2*s) 0) []]))]:=rfl
  rw[eL]at hL hW
  generalize Zu (l++[.mk 2 0 (List.replicate (2*s) 0) []])=ZL at *
  generalize ZU (Yh s l)=PZ at *
  clear hlim hwz eZ eL hr
  rcases hs with rfl|rfl
  all_goals
   refine AP.ofA (Zl Tryz.func210 Z Tryz.ntmps210 Z Z ?_)
   repeat'(first|(apply Zx [] [] (hC);kernel_rfl;(iterate 10 exact Z))|(apply Zb (hZ);kernel_rfl;(iterate 4 exact Z))|(apply Jp Za (l:=2);(iterate 12 exact Z))|(apply Jp Za (l:=4);(iterate 12 exact Z))|(apply Zb (hB);kernel_rfl;(iterate 4 exact Z))|(apply Zb (hL);kernel_rfl;(iterate 4 exact Z))|(apply Zb (hW);kernel_rfl;(iterate 4 exact Z))|(apply Zb (hSh);kernel_rfl;(iterate 4 exact Z))|(apply Zb (hLo);kernel_rfl;(iterate 4 exact Z))|(apply Zg Za;exact Z)|(apply Zh Za;exact Z)|refine Ze Z Qt ?_|refine Zf Z Qt ?_|refine ZO Za Z Z Z Z Z Z Z Z Z Z Z Z ?_|(apply Z3 Za;(iterate 6 exact Z);(first|with_reducible assumption|decide +kernel|exact Z|rotate_left);exact Z;exact Z;(first|exact Zk rfl|with_reducible assumption|decide +kernel|rotate_left);(first|exact Zk rfl|with_reducible assumption|decide +kernel|rotate_left);(first|exact Qt|rotate_left);(first|exact Qt|rotate_left);(first|exact Qt|rotate_left);exact Z;exact Z)|(apply Yy;exact Z;exact Z;(first|exact Qt|rotate_left);exact Z))
   all_goals first|((apply Zt [];(apply Zc Za;exact Z);(iterate 4 exact Z)))|skip
   all_goals first|rfl|(first|rfl|(simp only[List.length_append,List.length_cons,List.length_nil,List.length_map,Zz];done)|(simp only[List.length_append,List.length_cons,List.length_nil,List.length_map,Zz]at *;(try unfold maxLen);(try simp only[Nat.add_mul]);omega))|(simp;done)|(simp;omega)|(simp;unfold maxLen;omega)
end Go.Proofs.YtchlgagdbflkmaaGreatDoor
end
