/- Package primary: a list's items looked at; the type that a list says. -/
import Derived.Test.YtmljabhmajehnaaDoorN13
import Derived.Test.YtmljabhmajehnaaDoorN16
import Derived.Test.YtmljabhmajehnaaDoorN09
import Derived.Test.YtmljabhmajehnaaDoorN12
import Derived.Test.YtmljabhmajehnaaDoorN10
import Derived.Test.YtmljabhmajehnaaDoorN23
set_option linter.unusedVariables false
set_option linter.unusedSimpArgs false
section
open Go.RowKit Go.Pl Go.Av
namespace Go.Proofs.YtmljabhmajehnaaDoor
set_option maxHeartbeats 4000000
theorem Gv [Known](l:List It)(hne:l ≠ [])(hl:l.length<=1000000):AT Tryd.prog 79 [.sl .ext (Zz l)] [] [] (.sl (.own 0) (Zz l)) [] [⟨l.length,4,60⟩]:=by
 have hU:=Y2 l
 have hlen:=Zw l
 rw[<- hlen]
 rw[<- hlen]at hl
 have hE:Zz l ≠ []:=fun h=>hne (by rw[h]at hlen;exact List.length_eq_zero_iff.1 hlen.symm)
 refine Zl Tryd.func79 rfl Tryd.ntmps79 rfl rfl ?_
 repeat'(first|(apply X2 Za;(iterate 5 exact Z);intro b hbn;(have hbn2:=hbn hE);subst hbn2;clear hbn)|(apply Zg Za;exact Z)|(apply Zf Za;exact Z)|(apply Zs Za;exact Z)|(apply Zh;exact Z;(first|with_reducible assumption|(solve|simp only[bn])))|refine Jq Za Z Z Z Z Z Z Z Z Z Z Z Z ?_|(apply ZY Za;(iterate 6 exact Z);(first|with_reducible assumption|exact Z|rotate_left);exact Z;exact Z;(first|exact Zj rfl|with_reducible assumption|rotate_left);(first|exact Zj rfl|with_reducible assumption|rotate_left);(first|exact Qb|rotate_left);(first|exact Qb|rotate_left);(first|exact Qb|rotate_left);exact Z;exact Z))
 all_goals first|(apply X3 [] [0];(apply Zc Za;exact Z);(iterate 7 exact Z))|skip
 all_goals first|rfl|(simp at hl ⊢;(try unfold maxLen);omega)|(simp at hl ⊢;done)
theorem HO [Known][KnownU8](x:It)(hw:wfI x):AP Tryd.prog 74 [itD x] (.bool (!ZI x)) []:=by
 have hR:=Wb x hw
 obtain⟨k,n,b,l⟩:=x
 refine AP.ofA (Zl Tryd.func74 Z Tryd.ntmps74 Z Z ?_)
 repeat'(first|(apply Zb (hR);kernel_rfl;(iterate 4 exact Z))|(apply Zg Za;exact Z)|(apply Zf Za;exact Z))
 all_goals exact Qe
def fiI:List It->Nat->Int
 | [],_ => -1
 | x::l,i=>match ZI x with|true=>fiI l (i+1)|false=>(i:Int)
theorem HP:∀(l:List It) (i:Nat),decide (fiI l i ≥ 0) = !(l.all ZI)
 | [],_=>rfl
 | x::l,i=>by
  rw[fiI,List.all_cons]
  cases ZI x with
  | true=>simpa using HP l (i+1)
  | false=>simp
theorem T4 [Known][KnownU8](l:List It)(hws:wfs l)(hl:l.length<=1000000):AP Tryd.prog 91 [.sl .ext (Zz l),.fn 74 []] (.int .i64 (fiI l 0)) []:=by
 have hlen:=Zw l
 have hU:=Y2 l
 generalize hfin:fiI l 0=fin
 refine AP.ofA (Zl Tryd.func91 Z Tryd.ntmps91 Z Z ?_)
 repeat'(first|(apply Zg Za;exact Z)|(apply Zf Za;exact Z)|refine Zn Za Z Z Z Z ?_)
 refine Z4 (fun f tm bx fr=>∃(i:Nat),f+i=l.length/\fiI (l.drop i) i=fin/\tm=[(0,.sl .ext (Zz l)),(1,.fn 74 []),(4,.int .i64 0),(7,.int .i64 ((Zz l).length:Int)),(8,.int .i64 (i:Int))]/\bx=[]/\fr=[]) (l.length+1) (Lands.mk' (m:=l.length) (Nat.lt_succ_self _) ⟨0,by omega,hfin,rfl,rfl,rfl⟩ ?_ rfl rfl rfl rfl rfl rfl) ?_
 ·exact .cons rfl (.cons rfl (.cons rfl (.cons rfl (.cons rfl .nil))))
 rintro f tm bx fr ⟨i,hf,hq,rfl,rfl,rfl⟩
 rcases Nat.lt_or_ge i l.length with hlt|hge
 ·have hdl:decide ((i:Int)<((Zz l).length:Int))=true:=decide_eq_true (by omega)
  obtain⟨⟨k1,n1,b1,l1⟩,hy⟩:∃ y,l[i]?=some y:=⟨_,List.getElem?_eq_getElem hlt⟩
  have hv:(Zz l)[((i:Nat):Int).toNat]?=some (.agg [.int .i64 k1,.int .u64 (n1:Int),.sl (b1.map E.byte),.sl (Zz l1)]):=by
   rw[Int.toNat_natCast,Yi,List.getElem?_map,hy];rfl
  have hc:=HO _ (Wa hws _ (List.mem_of_getElem? hy))
  have hdr:l.drop i=It.mk k1 n1 b1 l1::l.drop (i+1):=by
   rw[List.drop_eq_getElem_cons hlt];congr 1
   exact(List.getElem?_eq_some_iff.1 hy).2
  rw[hdr,fiI]at hq
  have ei:IntKind.i64.wrap ((i:Int)+1)=((i+1:Nat):Int):=by rw[IntWalk.i64_in _ (by omega)];omega
  cases hb:ZI (.mk k1 n1 b1 l1) with
  | true=>
   rw[hb]at hq hc
   replace hc:AP Tryd.prog _ _ (.bool false) []:=hc
   repeat'(first|rw[ei]|(apply Vb (hc);exact Z;kernel_rfl;(iterate 3 exact Z))|(apply Zg Za;exact Z)|(apply Zf Za;exact Z)|(apply Zs Za;exact Z)|refine Zd Z Qt ?_|refine Zh Z Qt ?_|(apply Zx Za;(iterate 6 exact Z);(first|exact Qt|rotate_left);(first|with_reducible assumption|decide +kernel|exact Z);(first|exact Zj rfl|with_reducible assumption|decide +kernel|rotate_left)))
   refine Lands.mk' (m:=f-1) (by omega) ⟨i+1,by omega,hq,rfl,rfl,rfl⟩ ?_ rfl rfl rfl rfl rfl rfl
   exact .cons rfl (.cons rfl (.cons rfl (.cons rfl (.cons rfl .nil))))
  | false=>
   rw[hb]at hq hc
   replace hc:AP Tryd.prog _ _ (.bool true) []:=hc
   have hq:(i:Int)=fin:=hq
   subst hq
   repeat'(first|(apply Vb (hc);exact Z;kernel_rfl;(iterate 3 exact Z))|(apply Zg Za;exact Z)|(apply Zf Za;exact Z)|(apply Zs Za;exact Z)|refine Zd Z Qt ?_|refine VA ?_|(apply Zx Za;(iterate 6 exact Z);(first|exact Qt|rotate_left);(first|with_reducible assumption|decide +kernel|exact Z);(first|exact Zj rfl|with_reducible assumption|decide +kernel|rotate_left)))
   all_goals exact Qe
 ·have hdl:decide ((i:Int)<((Zz l).length:Int))=false:=decide_eq_false (by omega)
  rw[List.drop_eq_nil_of_le hge]at hq
  have hq:(-1:Int)=fin:=hq
  subst hq
  repeat'(first|(apply Zf Za;exact Z)|refine Zh Z Qt ?_)
  all_goals exact Qe
theorem HQ [Known][KnownU8](l:List It)(hws:wfs l)(hl:l.length<=1000000):AP Tryd.prog 75 [.sl .ext (Zz l),.fn 74 []] (.bool (!(l.all ZI))) []:=by
 have hI:=T4 l hws hl
 rw[<- HP l 0]
 refine AP.ofA (Zl Tryd.func75 Z Tryd.ntmps75 Z Z ?_)
 repeat'(first|(apply Zb (hI);kernel_rfl;(iterate 4 exact Z))|(apply Zg Za;exact Z)|(apply Zf Za;exact Z))
 all_goals exact Qe
def Wm (l:List It)(a:Int):Int:=if a<0 then -1 else match l[a.toNat]? with
 | none => -1
 | some (.mk k n b r)=>match decide ((n:Int)>2) with
  | true => -1
  | false=>match It.beq (.mk k n b r) (.mk 0 n [] []) with
   | true=>(n:Int)
   | false => -1
theorem Gw [Known](l:List It)(hws:wfs l)(a:Int):AP Tryd.prog 58 [.sl .ext (Zz l),.int .i64 a] (.int .i64 (Wm l a)) []:=by
 have hlen:=Zw l
 have hU:=Y2 l
 unfold Wm
 rcases Int.lt_or_le a 0 with h0|h0
 ·have t1:decide (a<0)=true:=decide_eq_true h0
  rw[if_pos h0]
  refine AP.ofA (Zl Tryd.func58 Z Tryd.ntmps58 Z Z ?_)
  repeat'(first|(apply Zg Za;exact Z)|(apply Zf Za;exact Z)|(apply Zs Za;exact Z)|refine Zo Z Z Z Qt ?_|refine Zk Z Qt Z Z ?_|refine Zd Z Qt ?_|(apply Zm 27 ZF;decide +kernel;kernel_rfl;kernel_rfl;kernel_rfl;exact Z;exact Z)|(apply Zq;(iterate 4 exact Z))|exact AE.nil _ _ _ _|(apply Zu;exact Z)|(apply ZB;exact Z;exact Z;decide +kernel;exact Z)|(apply ZC;exact Z)|exact AO.nil _ _ _|(apply Zp;(decide +kernel))|exact AOs.nil|exact ZH rfl rfl)
  all_goals exact Qe
 have t1:decide (a<0)=false:=decide_eq_false (by omega)
 rw[if_neg (by omega)]
 rcases Int.lt_or_le a l.length with h1|h1
 case inr=>
  have t2:decide (a ≥ ((Zz l).length:Int))=true:=decide_eq_true (by omega)
  rw[List.getElem?_eq_none (by omega)]
  refine AP.ofA (Zl Tryd.func58 Z Tryd.ntmps58 Z Z ?_)
  repeat'(first|(apply Zg Za;exact Z)|(apply Zf Za;exact Z)|(apply Zs Za;exact Z)|refine Ze Z Z Z Qt ?_|refine Zo Z Z Z Qt ?_|refine Zk Z Qt Z Z ?_|refine Zi Z Qt Z Z ?_|refine Zd Z Qt ?_|refine Zn Za Z Z Z Z ?_|(apply Zm 27 ZF;decide +kernel;kernel_rfl;kernel_rfl;kernel_rfl;exact Z;exact Z)|(apply Zq;(iterate 4 exact Z))|exact AE.nil _ _ _ _|(apply Zu;exact Z)|(apply ZB;exact Z;exact Z;decide +kernel;exact Z)|(apply ZC;exact Z)|exact AO.nil _ _ _|(apply Zp;(decide +kernel))|exact AOs.nil|exact ZH rfl rfl)
  all_goals exact Qe
 have t2:decide (a ≥ ((Zz l).length:Int))=false:=decide_eq_false (by omega)
 obtain⟨⟨k,n,b,l1⟩,hy⟩:∃ y,l[a.toNat]?=some y:=⟨_,List.getElem?_eq_getElem (by omega)⟩
 have hv:(Zz l)[a.toNat]?=some (.agg [.int .i64 k,.int .u64 (n:Int),.sl (b.map E.byte),.sl (Zz l1)]):=by
  rw[Yi,List.getElem?_map,hy];rfl
 have hw:=Wa hws _ (List.mem_of_getElem? hy)
 have hS:=Qj (.mk k n b l1) hw (.mk 0 n [] []) (by obtain⟨h1,_⟩:=hw;exact⟨h1,by simp,by simp,trivial⟩)
 have hN:=Yq n
 rw[hy]
 dsimp only
 cases t3:decide ((n:Int)>2) with
 | true=>
  refine AP.ofA (Zl Tryd.func58 Z Tryd.ntmps58 Z Z ?_)
  repeat'(first|(apply Zg Za;exact Z)|(apply Zf Za;exact Z)|(apply Zs Za;exact Z)|refine Ze Z Z Z Qt ?_|refine Zo Z Z Z Qt ?_|refine Zk Z Qt Z Z ?_|refine Zi Z Qt Z Z ?_|refine Zd Z Qt ?_|refine Zn Za Z Z Z Z ?_|(apply Zm 27 ZF;decide +kernel;kernel_rfl;kernel_rfl;kernel_rfl;exact Z;exact Z)|(apply Zq;(iterate 4 exact Z))|exact AE.nil _ _ _ _|(apply Zu;exact Z)|(apply ZB;exact Z;exact Z;decide +kernel;exact Z)|(apply ZC;exact Z)|exact AO.nil _ _ _|(apply Zp;(decide +kernel))|exact AOs.nil|exact ZH rfl rfl|(apply Zx Za;(iterate 6 exact Z);(first|exact Qt|rotate_left);(first|with_reducible assumption|decide +kernel|exact Z);(first|exact Zj rfl|with_reducible assumption|decide +kernel|rotate_left)))
  all_goals exact Qe
 | false=>
  have en:IntKind.i64.wrap (n:Int)=(n:Int):=IntWalk.i64_in _ (by simp at t3;omega)
  cases t4:It.beq (.mk k n b l1) (.mk 0 n [] []) with
  | true=>
   rw[t4]at hS
   refine AP.ofA (Zl Tryd.func58 Z Tryd.ntmps58 Z Z ?_)
   repeat'(first|(apply Zb (hN);kernel_rfl;(iterate 4 exact Z))|(apply Zb (hS);kernel_rfl;(iterate 4 exact Z))|rw[en]|(apply Zg Za;exact Z)|(apply Zf Za;exact Z)|(apply Zs Za;exact Z)|refine Ze Z Z Z Qt ?_|refine Zi Z Qt Z Z ?_|refine Zh Z Qt ?_|refine Zn Za Z Z Z Z ?_|(apply Zm 27 ZF;decide +kernel;kernel_rfl;kernel_rfl;kernel_rfl;exact Z;exact Z)|(apply Zq;(iterate 4 exact Z))|exact AE.nil _ _ _ _|(apply Zu;exact Z)|(apply ZB;exact Z;exact Z;decide +kernel;exact Z)|(apply ZC;exact Z)|exact AO.nil _ _ _|(apply Zp;(decide +kernel))|exact AOs.nil|exact ZH rfl rfl|(apply Zx Za;(iterate 6 exact Z);(first|exact Qt|rotate_left);(first|with_reducible assumption|decide +kernel|exact Z);(first|exact Zj rfl|with_reducible assumption|decide +kernel|rotate_left)))
   all_goals exact Qe
  | false=>
   rw[t4]at hS
   refine AP.ofA (Zl Tryd.func58 Z Tryd.ntmps58 Z Z ?_)
   repeat'(first|(apply Zb (hN);kernel_rfl;(iterate 4 exact Z))|(apply Zb (hS);kernel_rfl;(iterate 4 exact Z))|(apply Zg Za;exact Z)|(apply Zf Za;exact Z)|(apply Zs Za;exact Z)|refine Ze Z Z Z Qt ?_|refine Zi Z Qt Z Z ?_|refine Zd Z Qt ?_|refine Zn Za Z Z Z Z ?_|(apply Zm 27 ZF;decide +kernel;kernel_rfl;kernel_rfl;kernel_rfl;exact Z;exact Z)|(apply Zq;(iterate 4 exact Z))|exact AE.nil _ _ _ _|(apply Zu;exact Z)|(apply ZB;exact Z;exact Z;decide +kernel;exact Z)|(apply ZC;exact Z)|exact AO.nil _ _ _|(apply Zp;(decide +kernel))|exact AOs.nil|exact ZH rfl rfl|(apply Zx Za;(iterate 6 exact Z);(first|exact Qt|rotate_left);(first|with_reducible assumption|decide +kernel|exact Z);(first|exact Zj rfl|with_reducible assumption|decide +kernel|rotate_left)))
   all_goals exact Qe
abbrev MQ (s:Int):Int:=s.fdiv (2 ^ (min (Int.toNat 1) IntKind.u32.bits))
def Vv (s p:Int):Int:=match(bits .and .u32 s 1==1) with
 | true=>bits .xor .u32 (MQ s) p
 | false=>MQ s
theorem HS [Known](s p:Int):AP Tryd.prog 102 [.int .u32 s,.int .u32 p] (.int .u32 (Vv s p)) []:=by
 unfold Vv
 cases t:(bits .and .u32 s 1==1)
 all_goals
  refine AP.ofA (Zl Tryd.func102 Z Tryd.ntmps102 Z Z ?_)
  repeat'(first|(apply Zg Za;exact Z)|(apply Zf Za;exact Z)|refine Zd Z Qt ?_|refine Zh Z Qt ?_|(apply Yn;exact Z;exact Z;(first|exact Qt|rotate_left);exact Z))
  all_goals exact Qe
def HT (s:Int)(c:UInt8)(p:Int):Int:=
 Vv (Vv (Vv (Vv (Vv (Vv (Vv (Vv (bits .xor .u32 s (IntKind.u32.wrap (c.toNat:Int))) p) p) p) p) p) p) p) p
theorem Gx [Known](s p:Int)(c:UInt8):AP Tryd.prog 99 [.int .u32 s,.int .u8 (c.toNat:Int),.int .u32 p] (.int .u32 (HT s c p)) []:=by
 refine AP.ofA (Zl Tryd.func99 Z Tryd.ntmps99 Z Z ?_)
 repeat'(first|(apply Zb (HS _ _);kernel_rfl;(iterate 4 exact Z))|refine Wv 20 ?_|refine W6 ?_|(apply Zg Za;exact Z)|(apply Zf Za;exact Z)|refine Zd Z Qt ?_|refine Zh Z Qt ?_)
 all_goals exact Qe
def Gy (s p:Int)(b:List UInt8):Int:=b.foldl (fun s c=>HT s c p) s
theorem HV [Known](s p:Int)(b:List UInt8)(hb:b.length<=1000000000):AP Tryd.prog 94 [.int .u32 s,byE b,.int .u32 p] (.int .u32 (Gy s p b)) []:=by
 have hl:(b.map E.byte).length=b.length:=List.length_map ..
 have hU:=YK b
 generalize hfin:Gy s p b=fin
 refine AP.ofA (Zl Tryd.func94 Z Tryd.ntmps94 Z Z ?_)
 repeat'(first|(apply Zg Za;exact Z)|(apply Zf Za;exact Z)|refine Zn Za Z Z Z Z ?_)
 refine Z4 (fun k tm bx fr=>∃(i:Nat) (q:Int) (o:D),k+i=b.length/\Gy q p (b.drop i)=fin/\tm=[(0,.int .u32 q),(1,byE b),(2,.int .u32 p),(6,.int .u32 0),(9,byE b),(10,.int .i64 (b.length:Int)),(11,.int .i64 (i:Int))]/\bx=[]/\fr=[]) (b.length+1) (Lands.mk' (m:=b.length) (Nat.lt_succ_self _) ⟨0,s,.tup [],by omega,hfin,rfl,rfl,rfl⟩ ?_ rfl rfl rfl rfl rfl rfl) ?_
 ·exact .cons rfl (.cons rfl (.cons rfl (.cons rfl (.cons rfl (.cons (by rw[<- hl];rfl) (.cons rfl .nil))))))
 rintro k tm bx fr ⟨i,q,o,hk,hq,rfl,rfl,rfl⟩
 rcases Nat.lt_or_ge i b.length with hlt|hge
 ·have hd:decide ((i:Int)<(b.length:Int))=true:=decide_eq_true (by omega)
  obtain⟨c,hc⟩:∃ c,b[i]?=some c:=⟨_,List.getElem?_eq_getElem hlt⟩
  have hv:(b.map E.byte)[((i:Nat):Int).toNat]?=some (E.byte c):=by
   rw[Int.toNat_natCast,List.getElem?_map,hc];rfl
  have hdr:b.drop i=c::b.drop (i+1):=by
   rw[List.drop_eq_getElem_cons hlt];congr 1
   exact(List.getElem?_eq_some_iff.1 hc).2
  rw[hdr]at hq
  have hq2:Gy (HT q c p) p (b.drop (i+1))=fin:=hq
  have ei:IntKind.i64.wrap ((i:Int)+1)=((i+1:Nat):Int):=by rw[IntWalk.i64_in _ (by omega)];omega
  repeat'(first|(apply Zb (Gx _ _ _);kernel_rfl;(iterate 4 exact Z))|rw[ei]|(apply Zg Za;exact Z)|(apply Zf Za;exact Z)|refine Zd Z Qt ?_|(apply Zx Za;(iterate 6 exact Z);(first|exact Qt|rotate_left);(first|with_reducible assumption|decide +kernel|exact Z);(first|exact Zj rfl|with_reducible assumption|decide +kernel|rotate_left)))
  refine Lands.mk' (m:=k-1) (by omega) ⟨i+1,_,.tup [],by omega,hq2,rfl,rfl,rfl⟩ ?_ rfl rfl rfl rfl rfl rfl
  exact .cons rfl (.cons rfl (.cons rfl (.cons rfl (.cons rfl (.cons rfl (.cons rfl .nil))))))
 ·have hd:decide ((i:Int)<(b.length:Int))=false:=decide_eq_false (by omega)
  rw[List.drop_eq_nil_of_le hge]at hq
  have hq:q=fin:=hq
  subst hq
  repeat'(first|(apply Zf Za;exact Z)|refine Zh Z Qt ?_)
  all_goals exact Qe
def JO (b:List UInt8):Int:=bits .xor .u16 (if IntKind.u16.signed then -1 else IntKind.u16.max) (IntKind.u16.wrap (Gy 65535 33800 b))
def Qn (b:List UInt8):Int:=bits .xor .u32 (if IntKind.u32.signed then -1 else IntKind.u32.max) (Gy 4294967295 2197175160 b)
theorem HW [Known](b:List UInt8)(hb:b.length<=1000000000):AP Tryd.prog 80 [byE b] (.int .u16 (JO b)) []:=by
 have hR:=HV 65535 33800 b hb
 refine AP.ofA (Zl Tryd.func80 Z Tryd.ntmps80 Z Z ?_)
 repeat'(first|(apply Zb (hR);kernel_rfl;(iterate 4 exact Z))|refine Hk Z Z ?_|(apply Zg Za;exact Z)|(apply Zf Za;exact Z))
 all_goals exact Qe
theorem T5 [Known](b:List UInt8)(hb:b.length<=1000000000):AP Tryd.prog 81 [byE b] (.int .u32 (Qn b)) []:=by
 have hR:=HV 4294967295 2197175160 b hb
 refine AP.ofA (Zl Tryd.func81 Z Tryd.ntmps81 Z Z ?_)
 repeat'(first|(apply Zb (hR);kernel_rfl;(iterate 4 exact Z))|refine Hk Z Z ?_|(apply Zg Za;exact Z)|(apply Zf Za;exact Z))
 all_goals exact Qe
def Yc (s:Nat)(l:List It):It:=.mk 4 0 [] (l++[.mk 2 0 (List.replicate (2*s) 0) []])
abbrev shU (k:IntKind)(z:Int)(q:Int):Int:=IntKind.u8.wrap (z.fdiv (2 ^ (min q.toNat k.bits)))
def MR (s:Nat)(b:List UInt8):List E:=
 if s=1 then [.int .u8 (shU .u16 (JO b) 8),.int .u8 (IntKind.u8.wrap (JO b))]
 else [.int .u8 (shU .u32 (Qn b) 24),.int .u8 (shU .u32 (Qn b) 16),.int .u8 (shU .u32 (Qn b) 8),.int .u8 (IntKind.u8.wrap (Qn b))]
def by8 (z:Int):UInt8:=UInt8.ofNat (IntKind.u8.wrap z).toNat
theorem MS (z:Int):E.byte (by8 z)=.int .u8 (IntKind.u8.wrap z):=by
 have h:0<=IntKind.u8.wrap z/\IntKind.u8.wrap z<256:=by
  rw[IntKind.wrap_u8];omega
 show E.int .u8 ((by8 z).toNat:Int)=_
 have e:((by8 z).toNat:Int)=IntKind.u8.wrap z:=by
  unfold by8
  rw[UInt8.toNat_ofNat']
  omega
 rw[e]
def UI (s:Nat)(b:List UInt8):List UInt8:=
 if s=1 then [by8 ((JO b).fdiv (2 ^ (min (8:Int).toNat IntKind.u16.bits))),by8 (JO b)]
 else [by8 ((Qn b).fdiv (2 ^ (min (24:Int).toNat IntKind.u32.bits))),by8 ((Qn b).fdiv (2 ^ (min (16:Int).toNat IntKind.u32.bits))),by8 ((Qn b).fdiv (2 ^ (min (8:Int).toNat IntKind.u32.bits))),by8 (Qn b)]
theorem N8 (s:Nat)(b:List UInt8):(UI s b).map E.byte=MR s b:=by
 unfold UI MR
 split<;>simp only[List.map_cons,List.map_nil,MS]
theorem JP (s:Nat)(b:List UInt8)(hs:s=1\/s=2):(UI s b).length=2*s:=by
 unfold UI
 rcases hs with rfl|rfl<;>rfl
theorem Jh:∀ {l r:List It},wfs l->wfs r->wfs (l++r)
 | [],r,_,h=>h
 | x::l,r,h1,h2=>⟨h1.1,Jh h1.2 h2⟩
theorem T6 {s:Nat}{l:List It}(hs:s=1\/s=2)(hws:wfs l)(hl:l.length<=1000000):wfI (Yc s l):=by
 refine⟨by decide,by simp,by simp;omega,Jh hws ⟨⟨by decide,?_,by simp,trivial⟩,trivial⟩⟩
 rcases hs with rfl|rfl<;>decide
theorem OW [Known](s:Nat)(hs:s=1\/s=2):AP Tryd.prog 59 [.int .i64 (s:Int)] (.int .i64 ((2*s:Nat):Int)) []:=by
 rcases hs with rfl|rfl
 all_goals
  refine AP.ofA (Zl Tryd.func59 Z Tryd.ntmps59 Z Z ?_)
  repeat'(first|(apply Zf Za;exact Z))
  all_goals exact Qe
theorem HX [Known][KnownU8](l:List It)(s:Nat)(hs:s=1\/s=2)(hne:l ≠ [])(hws:wfs l)(hl:l.length<=1000000)(hlim:(ZG (Yc s l)).length<=1000000000) :
  AP Tryd.prog 60 [.sl .ext (Zz l),.int .i64 (s:Int)] (match ZI (Yc s l) with|true=>.tup [byE (UI s (ZG (Yc s l))),.int .i64 0]|false=>.tup [.sl .ext [],.int .i64 3]) []:=by
 have hwz:=T6 hs hws hl
 have hC:=Gv l hne hl
 have hW:=XG (Yc s l) hwz (by omega) (Wb _ hwz)
 have hU:=Y2 l
 have hlen:=Zw l
 have hmx:(Zz l).length<=1000000:=by omega
 have hZ:=OW s hs
 have hB:=JG (List.replicate (2*s) 0) (by rcases hs with rfl|rfl<;>decide)
 have hL:=WS (l++[.mk 2 0 (List.replicate (2*s) 0) []]) (by simp;omega) hwz.2.2.2
 have hSh:=HW (ZG (Yc s l)) hlim
 have hLo:=T5 (ZG (Yc s l)) hlim
 rw[Vg]at hL
 have eZ:itD (.mk 4 0 [] (l++[.mk 2 0 (List.replicate (2*s) 0) []]))=itD (Yc s l):=rfl
 rw[eZ]at hL
 unfold byE
 rw[N8]
 rw[<- hlen]at hC
 cases hr:ZI (Yc s l) with
 | false=>
  rw[hr]at hW
  replace hW:AP Tryd.prog 27 [itD (Yc s l)] (.tup [.sl .ext [],.int .i64 3]) []:=hW
  have eL:itD (Yc s l)=.agg [.int .i64 4,.int .u64 0,.sl .ext [],.sl .ext (Zz (l++[.mk 2 0 (List.replicate (2*s) 0) []]))]:=rfl
  rw[eL]at hL hW
  generalize Zz (l++[.mk 2 0 (List.replicate (2*s) 0) []])=ZL at *
  clear hSh hLo hlim hwz eZ eL
  rcases hs with rfl|rfl
  all_goals
   refine AP.ofA (Zl Tryd.func60 Z Tryd.ntmps60 Z Z ?_)
   repeat'(first|(apply Yo [] [] (hC);kernel_rfl;(iterate 10 exact Z))|(apply Zb (hZ);kernel_rfl;(iterate 4 exact Z))|(apply U9 Za (l:=2);(iterate 12 exact Z))|(apply U9 Za (l:=4);(iterate 12 exact Z))|(apply Zb (hB);kernel_rfl;(iterate 4 exact Z))|(apply Zb (hL);kernel_rfl;(iterate 4 exact Z))|(apply Zb (hW);kernel_rfl;(iterate 4 exact Z))|(apply Zg Za;exact Z)|(apply Zf Za;exact Z)|(apply Zs Za;exact Z)|refine Zd Z Qt ?_|refine ZX Za Z Z Z Z Z Z Z Z Z Z Z Z ?_|(apply ZY Za;(iterate 6 exact Z);(first|with_reducible assumption|decide +kernel|exact Z|rotate_left);exact Z;exact Z;(first|exact Zj rfl|with_reducible assumption|decide +kernel|rotate_left);(first|exact Zj rfl|with_reducible assumption|decide +kernel|rotate_left);(first|exact Qt|rotate_left);(first|exact Qt|rotate_left);(first|exact Qt|rotate_left);exact Z;exact Z))
   all_goals first|((apply Zr [];(apply Zc Za;exact Z);(iterate 4 exact Z)))|skip
   all_goals first|rfl|(first|rfl|(simp only[List.length_append,List.length_cons,List.length_nil,List.length_map,Zw];done)|(simp only[List.length_append,List.length_cons,List.length_nil,List.length_map,Zw]at *;(try unfold maxLen);(try simp only[Nat.add_mul]);omega))|(simp;done)|(simp;omega)|(simp;unfold maxLen;omega)
 | true=>
  rw[hr]at hW
  replace hW:AP Tryd.prog 27 [itD (Yc s l)] (.tup [byE (ZG (Yc s l)),.int .i64 0]) []:=hW
  have eL:itD (Yc s l)=.agg [.int .i64 4,.int .u64 0,.sl .ext [],.sl .ext (Zz (l++[.mk 2 0 (List.replicate (2*s) 0) []]))]:=rfl
  rw[eL]at hL hW
  generalize Zz (l++[.mk 2 0 (List.replicate (2*s) 0) []])=ZL at *
  generalize ZG (Yc s l)=PZ at *
  clear hlim hwz eZ eL hr
  rcases hs with rfl|rfl
  all_goals
   refine AP.ofA (Zl Tryd.func60 Z Tryd.ntmps60 Z Z ?_)
   repeat'(first|(apply Yo [] [] (hC);kernel_rfl;(iterate 10 exact Z))|(apply Zb (hZ);kernel_rfl;(iterate 4 exact Z))|(apply U9 Za (l:=2);(iterate 12 exact Z))|(apply U9 Za (l:=4);(iterate 12 exact Z))|(apply Zb (hB);kernel_rfl;(iterate 4 exact Z))|(apply Zb (hL);kernel_rfl;(iterate 4 exact Z))|(apply Zb (hW);kernel_rfl;(iterate 4 exact Z))|(apply Zb (hSh);kernel_rfl;(iterate 4 exact Z))|(apply Zb (hLo);kernel_rfl;(iterate 4 exact Z))|(apply Zg Za;exact Z)|(apply Zf Za;exact Z)|refine Zd Z Qt ?_|refine Zh Z Qt ?_|refine ZX Za Z Z Z Z Z Z Z Z Z Z Z Z ?_|(apply ZY Za;(iterate 6 exact Z);(first|with_reducible assumption|decide +kernel|exact Z|rotate_left);exact Z;exact Z;(first|exact Zj rfl|with_reducible assumption|decide +kernel|rotate_left);(first|exact Zj rfl|with_reducible assumption|decide +kernel|rotate_left);(first|exact Qt|rotate_left);(first|exact Qt|rotate_left);(first|exact Qt|rotate_left);exact Z;exact Z)|(apply Yn;exact Z;exact Z;(first|exact Qt|rotate_left);exact Z))
   all_goals first|((apply Zr [];(apply Zc Za;exact Z);(iterate 4 exact Z)))|skip
   all_goals first|rfl|(first|rfl|(simp only[List.length_append,List.length_cons,List.length_nil,List.length_map,Zw];done)|(simp only[List.length_append,List.length_cons,List.length_nil,List.length_map,Zw]at *;(try unfold maxLen);(try simp only[Nat.add_mul]);omega))|(simp;done)|(simp;omega)|(simp;unfold maxLen;omega)
end Go.Proofs.YtmljabhmajehnaaDoor
end
