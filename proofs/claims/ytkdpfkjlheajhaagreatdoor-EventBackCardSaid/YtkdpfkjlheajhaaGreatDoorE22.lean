/- Package primary: a list's items looked at; the type that a list says. -/
import Derived.Test.YtkdpfkjlheajhaaGreatDoorE14
import Derived.Test.YtkdpfkjlheajhaaGreatDoorE17
import Derived.Test.YtkdpfkjlheajhaaGreatDoorE09
import Derived.Test.YtkdpfkjlheajhaaGreatDoorE11
import Derived.Test.YtkdpfkjlheajhaaGreatDoorE21
set_option linter.unusedVariables false
set_option linter.unusedSimpArgs false
section
open Go.RowKit Go.Pl Go.Av
namespace Go.Proofs.YtkdpfkjlheajhaaGreatDoor
set_option maxHeartbeats 4000000
theorem Na [Known](l:List It)(hne:l ≠ [])(hl:l.length<=1000000):AT Tryz.prog 197 [.sl .ext (Zx l)] [] [] (.sl (.own 0) (Zx l)) [] [⟨l.length,4,194⟩]:=by
 have hU:=Wl l
 have hlen:=ZD l
 rw[<- hlen]
 rw[<- hlen]at hl
 have hE:Zx l ≠ []:=fun h=>hne (by rw[h]at hlen;exact List.length_eq_zero_iff.1 hlen.symm)
 refine Zl Tryz.func197 rfl Tryz.ntmps197 rfl rfl ?_
 repeat'(first|(apply Ig Za;(iterate 5 exact Z);intro b hbn;(have hbn2:=hbn hE);subst hbn2;clear hbn)|(apply Zi Za;exact Z)|(apply Zg Za;exact Z)|(apply Zu Za;exact Z)|(apply Zf;exact Z;(first|with_reducible assumption|(solve|simp only[bn])))|refine Oj Za Z Z Z Z Z Z Z Z Z Z Z Z ?_|(apply Z4 Za;(iterate 6 exact Z);(first|with_reducible assumption|exact Z|rotate_left);exact Z;exact Z;(first|exact Zm rfl|with_reducible assumption|rotate_left);(first|exact Zm rfl|with_reducible assumption|rotate_left);(first|exact Qb|rotate_left);(first|exact Qb|rotate_left);(first|exact Qb|rotate_left);exact Z;exact Z))
 all_goals first|(apply U7 [] [0];(apply Zc Za;exact Z);(iterate 7 exact Z))|skip
 all_goals first|rfl|(simp at hl ⊢;(try unfold maxLen);omega)|(simp at hl ⊢;done)
theorem Mk [Known][KnownU8](x:It)(hw:wfI x):AP Tryz.prog 202 [itD x] (.bool (!ZV x)) []:=by
 have hR:=Wu x hw
 obtain⟨k,n,b,l⟩:=x
 refine AP.ofA (Zl Tryz.func202 Z Tryz.ntmps202 Z Z ?_)
 repeat'(first|(apply Zb (hR);kernel_rfl;(iterate 4 exact Z))|(apply Zi Za;exact Z)|(apply Zg Za;exact Z))
 all_goals exact Qe
def fiI:List It->Nat->Int
 | [],_ => -1
 | x::l,i=>match ZV x with|true=>fiI l (i+1)|false=>(i:Int)
theorem Ml:∀(l:List It) (i:Nat),decide (fiI l i ≥ 0) = !(l.all ZV)
 | [],_=>rfl
 | x::l,i=>by
  rw[fiI,List.all_cons]
  cases ZV x with
  | true=>simpa using Ml l (i+1)
  | false=>simp
theorem LS [Known][KnownU8](l:List It)(hws:wfs l)(hl:l.length<=1000000):AP Tryz.prog 223 [.sl .ext (Zx l),.fn 202 []] (.int .i64 (fiI l 0)) []:=by
 have hlen:=ZD l
 have hU:=Wl l
 generalize hfin:fiI l 0=fin
 refine AP.ofA (Zl Tryz.func223 Z Tryz.ntmps223 Z Z ?_)
 repeat'(first|(apply Zi Za;exact Z)|(apply Zg Za;exact Z)|refine Zt Za Z Z Z Z ?_)
 refine Yb (fun f tm bx fr=>∃(i:Nat),f+i=l.length/\fiI (l.drop i) i=fin/\tm=[(0,.sl .ext (Zx l)),(1,.fn 202 []),(4,.int .i64 0),(7,.int .i64 ((Zx l).length:Int)),(8,.int .i64 (i:Int))]/\bx=[]/\fr=[]) (l.length+1) (Lands.mk' (m:=l.length) (Nat.lt_succ_self _) ⟨0,by omega,hfin,rfl,rfl,rfl⟩ ?_ rfl rfl rfl rfl rfl rfl) ?_
 ·exact .cons rfl (.cons rfl (.cons rfl (.cons rfl (.cons rfl .nil))))
 rintro f tm bx fr ⟨i,hf,hq,rfl,rfl,rfl⟩
 rcases Nat.lt_or_ge i l.length with hlt|hge
 ·have hdl:decide ((i:Int)<((Zx l).length:Int))=true:=decide_eq_true (by omega)
  obtain⟨⟨k1,n1,b1,l1⟩,hy⟩:∃ y,l[i]?=some y:=⟨_,List.getElem?_eq_getElem hlt⟩
  have hv:(Zx l)[((i:Nat):Int).toNat]?=some (.agg [.int .i64 k1,.int .u64 (n1:Int),.sl (b1.map E.byte),.sl (Zx l1)]):=by
   rw[Int.toNat_natCast,Yu,List.getElem?_map,hy];rfl
  have hc:=Mk _ (YM hws _ (List.mem_of_getElem? hy))
  have hdr:l.drop i=It.mk k1 n1 b1 l1::l.drop (i+1):=by
   rw[List.drop_eq_getElem_cons hlt];congr 1
   exact(List.getElem?_eq_some_iff.1 hy).2
  rw[hdr,fiI]at hq
  have ei:IntKind.i64.wrap ((i:Int)+1)=((i+1:Nat):Int):=by rw[IntWalk.i64_in _ (by omega)];omega
  cases hb:ZV (.mk k1 n1 b1 l1) with
  | true=>
   rw[hb]at hq hc
   replace hc:AP Tryz.prog _ _ (.bool false) []:=hc
   repeat'(first|rw[ei]|(apply VU (hc);exact Z;kernel_rfl;(iterate 3 exact Z))|(apply Zi Za;exact Z)|(apply Zg Za;exact Z)|(apply Zu Za;exact Z)|refine Zd Z Qt ?_|refine Zf Z Qt ?_|(apply ZC Za;(iterate 6 exact Z);(first|exact Qt|rotate_left);(first|with_reducible assumption|decide +kernel|exact Z);(first|exact Zm rfl|with_reducible assumption|decide +kernel|rotate_left)))
   refine Lands.mk' (m:=f-1) (by omega) ⟨i+1,by omega,hq,rfl,rfl,rfl⟩ ?_ rfl rfl rfl rfl rfl rfl
   exact .cons rfl (.cons rfl (.cons rfl (.cons rfl (.cons rfl .nil))))
  | false=>
   rw[hb]at hq hc
   replace hc:AP Tryz.prog _ _ (.bool true) []:=hc
   have hq:(i:Int)=fin:=hq
   subst hq
   repeat'(first|(apply VU (hc);exact Z;kernel_rfl;(iterate 3 exact Z))|(apply Zi Za;exact Z)|(apply Zg Za;exact Z)|(apply Zu Za;exact Z)|refine Zd Z Qt ?_|refine Qf ?_|(apply ZC Za;(iterate 6 exact Z);(first|exact Qt|rotate_left);(first|with_reducible assumption|decide +kernel|exact Z);(first|exact Zm rfl|with_reducible assumption|decide +kernel|rotate_left)))
   all_goals exact Qe
 ·have hdl:decide ((i:Int)<((Zx l).length:Int))=false:=decide_eq_false (by omega)
  rw[List.drop_eq_nil_of_le hge]at hq
  have hq:(-1:Int)=fin:=hq
  subst hq
  repeat'(first|(apply Zg Za;exact Z)|refine Zf Z Qt ?_)
  all_goals exact Qe
theorem Mm [Known][KnownU8](l:List It)(hws:wfs l)(hl:l.length<=1000000):AP Tryz.prog 203 [.sl .ext (Zx l),.fn 202 []] (.bool (!(l.all ZV))) []:=by
 have hI:=LS l hws hl
 rw[<- Ml l 0]
 refine AP.ofA (Zl Tryz.func203 Z Tryz.ntmps203 Z Z ?_)
 repeat'(first|(apply Zb (hI);kernel_rfl;(iterate 4 exact Z))|(apply Zi Za;exact Z)|(apply Zg Za;exact Z))
 all_goals exact Qe
def Y9 (l:List It)(a:Int):Int:=if a<0 then -1 else match l[a.toNat]? with
 | none => -1
 | some (.mk k n b r)=>match decide ((n:Int)>2) with
  | true => -1
  | false=>match It.beq (.mk k n b r) (.mk 0 n [] []) with
   | true=>(n:Int)
   | false => -1
theorem OI [Known](l:List It)(hws:wfs l)(a:Int):AP Tryz.prog 165 [.sl .ext (Zx l),.int .i64 a] (.int .i64 (Y9 l a)) []:=by
 have hlen:=ZD l
 have hU:=Wl l
 unfold Y9
 rcases Int.lt_or_le a 0 with h0|h0
 ·have t1:decide (a<0)=true:=decide_eq_true h0
  rw[if_pos h0]
  refine AP.ofA (Zl Tryz.func165 Z Tryz.ntmps165 Z Z ?_)
  repeat'(first|(apply Zi Za;exact Z)|(apply Zg Za;exact Z)|(apply Zu Za;exact Z)|refine Zp Z Z Z Qt ?_|refine Zk Z Qt Z Z ?_|refine Zd Z Qt ?_|(apply Zn 27 ZF;decide +kernel;kernel_rfl;kernel_rfl;kernel_rfl;exact Z;exact Z)|(apply Zr;(iterate 4 exact Z))|exact AE.nil _ _ _ _|(apply Zw;exact Z)|(apply ZA;exact Z;exact Z;decide +kernel;exact Z)|(apply ZB;exact Z)|exact AO.nil _ _ _|(apply Zq;(decide +kernel))|exact AOs.nil|exact ZG rfl rfl)
  all_goals exact Qe
 have t1:decide (a<0)=false:=decide_eq_false (by omega)
 rw[if_neg (by omega)]
 rcases Int.lt_or_le a l.length with h1|h1
 case inr=>
  have t2:decide (a ≥ ((Zx l).length:Int))=true:=decide_eq_true (by omega)
  rw[List.getElem?_eq_none (by omega)]
  refine AP.ofA (Zl Tryz.func165 Z Tryz.ntmps165 Z Z ?_)
  repeat'(first|(apply Zi Za;exact Z)|(apply Zg Za;exact Z)|(apply Zu Za;exact Z)|refine Ze Z Z Z Qt ?_|refine Zp Z Z Z Qt ?_|refine Zk Z Qt Z Z ?_|refine Zj Z Qt Z Z ?_|refine Zd Z Qt ?_|refine Zt Za Z Z Z Z ?_|(apply Zn 27 ZF;decide +kernel;kernel_rfl;kernel_rfl;kernel_rfl;exact Z;exact Z)|(apply Zr;(iterate 4 exact Z))|exact AE.nil _ _ _ _|(apply Zw;exact Z)|(apply ZA;exact Z;exact Z;decide +kernel;exact Z)|(apply ZB;exact Z)|exact AO.nil _ _ _|(apply Zq;(decide +kernel))|exact AOs.nil|exact ZG rfl rfl)
  all_goals exact Qe
 have t2:decide (a ≥ ((Zx l).length:Int))=false:=decide_eq_false (by omega)
 obtain⟨⟨k,n,b,l1⟩,hy⟩:∃ y,l[a.toNat]?=some y:=⟨_,List.getElem?_eq_getElem (by omega)⟩
 have hv:(Zx l)[a.toNat]?=some (.agg [.int .i64 k,.int .u64 (n:Int),.sl (b.map E.byte),.sl (Zx l1)]):=by
  rw[Yu,List.getElem?_map,hy];rfl
 have hw:=YM hws _ (List.mem_of_getElem? hy)
 have hS:=Ug (.mk k n b l1) hw (.mk 0 n [] []) (by obtain⟨h1,_⟩:=hw;exact⟨h1,by simp,by simp,trivial⟩)
 have hN:=Wd n
 rw[hy]
 dsimp only
 cases t3:decide ((n:Int)>2) with
 | true=>
  refine AP.ofA (Zl Tryz.func165 Z Tryz.ntmps165 Z Z ?_)
  repeat'(first|(apply Zi Za;exact Z)|(apply Zg Za;exact Z)|(apply Zu Za;exact Z)|refine Ze Z Z Z Qt ?_|refine Zp Z Z Z Qt ?_|refine Zk Z Qt Z Z ?_|refine Zj Z Qt Z Z ?_|refine Zd Z Qt ?_|refine Zt Za Z Z Z Z ?_|(apply Zn 27 ZF;decide +kernel;kernel_rfl;kernel_rfl;kernel_rfl;exact Z;exact Z)|(apply Zr;(iterate 4 exact Z))|exact AE.nil _ _ _ _|(apply Zw;exact Z)|(apply ZA;exact Z;exact Z;decide +kernel;exact Z)|(apply ZB;exact Z)|exact AO.nil _ _ _|(apply Zq;(decide +kernel))|exact AOs.nil|exact ZG rfl rfl|(apply ZC Za;(iterate 6 exact Z);(first|exact Qt|rotate_left);(first|with_reducible assumption|decide +kernel|exact Z);(first|exact Zm rfl|with_reducible assumption|decide +kernel|rotate_left)))
  all_goals exact Qe
 | false=>
  have en:IntKind.i64.wrap (n:Int)=(n:Int):=IntWalk.i64_in _ (by simp at t3;omega)
  cases t4:It.beq (.mk k n b l1) (.mk 0 n [] []) with
  | true=>
   rw[t4]at hS
   refine AP.ofA (Zl Tryz.func165 Z Tryz.ntmps165 Z Z ?_)
   repeat'(first|(apply Zb (hN);kernel_rfl;(iterate 4 exact Z))|(apply Zb (hS);kernel_rfl;(iterate 4 exact Z))|rw[en]|(apply Zi Za;exact Z)|(apply Zg Za;exact Z)|(apply Zu Za;exact Z)|refine Ze Z Z Z Qt ?_|refine Zj Z Qt Z Z ?_|refine Zf Z Qt ?_|refine Zt Za Z Z Z Z ?_|(apply Zn 27 ZF;decide +kernel;kernel_rfl;kernel_rfl;kernel_rfl;exact Z;exact Z)|(apply Zr;(iterate 4 exact Z))|exact AE.nil _ _ _ _|(apply Zw;exact Z)|(apply ZA;exact Z;exact Z;decide +kernel;exact Z)|(apply ZB;exact Z)|exact AO.nil _ _ _|(apply Zq;(decide +kernel))|exact AOs.nil|exact ZG rfl rfl|(apply ZC Za;(iterate 6 exact Z);(first|exact Qt|rotate_left);(first|with_reducible assumption|decide +kernel|exact Z);(first|exact Zm rfl|with_reducible assumption|decide +kernel|rotate_left)))
   all_goals exact Qe
  | false=>
   rw[t4]at hS
   refine AP.ofA (Zl Tryz.func165 Z Tryz.ntmps165 Z Z ?_)
   repeat'(first|(apply Zb (hN);kernel_rfl;(iterate 4 exact Z))|(apply Zb (hS);kernel_rfl;(iterate 4 exact Z))|(apply Zi Za;exact Z)|(apply Zg Za;exact Z)|(apply Zu Za;exact Z)|refine Ze Z Z Z Qt ?_|refine Zj Z Qt Z Z ?_|refine Zd Z Qt ?_|refine Zt Za Z Z Z Z ?_|(apply Zn 27 ZF;decide +kernel;kernel_rfl;kernel_rfl;kernel_rfl;exact Z;exact Z)|(apply Zr;(iterate 4 exact Z))|exact AE.nil _ _ _ _|(apply Zw;exact Z)|(apply ZA;exact Z;exact Z;decide +kernel;exact Z)|(apply ZB;exact Z)|exact AO.nil _ _ _|(apply Zq;(decide +kernel))|exact AOs.nil|exact ZG rfl rfl|(apply ZC Za;(iterate 6 exact Z);(first|exact Qt|rotate_left);(first|with_reducible assumption|decide +kernel|exact Z);(first|exact Zm rfl|with_reducible assumption|decide +kernel|rotate_left)))
   all_goals exact Qe
abbrev S8 (s:Int):Int:=s.fdiv (2 ^ (min (Int.toNat 1) IntKind.u32.bits))
def Ut (s p:Int):Int:=match(bits .and .u32 s 1==1) with
 | true=>bits .xor .u32 (S8 s) p
 | false=>S8 s
theorem Mn [Known](s p:Int):AP Tryz.prog 236 [.int .u32 s,.int .u32 p] (.int .u32 (Ut s p)) []:=by
 unfold Ut
 cases t:(bits .and .u32 s 1==1)
 all_goals
  refine AP.ofA (Zl Tryz.func236 Z Tryz.ntmps236 Z Z ?_)
  repeat'(first|(apply Zi Za;exact Z)|(apply Zg Za;exact Z)|refine Zd Z Qt ?_|refine Zf Z Qt ?_|(apply YB;exact Z;exact Z;(first|exact Qt|rotate_left);exact Z))
  all_goals exact Qe
def Mo (s:Int)(c:UInt8)(p:Int):Int:=
 Ut (Ut (Ut (Ut (Ut (Ut (Ut (Ut (bits .xor .u32 s (IntKind.u32.wrap (c.toNat:Int))) p) p) p) p) p) p) p) p
theorem Nb [Known](s p:Int)(c:UInt8):AP Tryz.prog 233 [.int .u32 s,.int .u8 (c.toNat:Int),.int .u32 p] (.int .u32 (Mo s c p)) []:=by
 refine AP.ofA (Zl Tryz.func233 Z Tryz.ntmps233 Z Z ?_)
 repeat'(first|(apply Zb (Mn _ _);kernel_rfl;(iterate 4 exact Z))|refine VB 20 ?_|refine Uf ?_|(apply Zi Za;exact Z)|(apply Zg Za;exact Z)|refine Zd Z Qt ?_|refine Zf Z Qt ?_)
 all_goals exact Qe
def Nc (s p:Int)(b:List UInt8):Int:=b.foldl (fun s c=>Mo s c p) s
theorem Mp [Known](s p:Int)(b:List UInt8)(hb:b.length<=1000000000):AP Tryz.prog 222 [.int .u32 s,byE b,.int .u32 p] (.int .u32 (Nc s p b)) []:=by
 have hl:(b.map E.byte).length=b.length:=List.length_map ..
 have hU:=YH b
 generalize hfin:Nc s p b=fin
 refine AP.ofA (Zl Tryz.func222 Z Tryz.ntmps222 Z Z ?_)
 repeat'(first|(apply Zi Za;exact Z)|(apply Zg Za;exact Z)|refine Zt Za Z Z Z Z ?_)
 refine Yb (fun k tm bx fr=>∃(i:Nat) (q:Int) (o:D),k+i=b.length/\Nc q p (b.drop i)=fin/\tm=[(0,.int .u32 q),(1,byE b),(2,.int .u32 p),(6,.int .u32 0),(9,byE b),(10,.int .i64 (b.length:Int)),(11,.int .i64 (i:Int))]/\bx=[]/\fr=[]) (b.length+1) (Lands.mk' (m:=b.length) (Nat.lt_succ_self _) ⟨0,s,.tup [],by omega,hfin,rfl,rfl,rfl⟩ ?_ rfl rfl rfl rfl rfl rfl) ?_
 ·exact .cons rfl (.cons rfl (.cons rfl (.cons rfl (.cons rfl (.cons (by rw[<- hl];rfl) (.cons rfl .nil))))))
 rintro k tm bx fr ⟨i,q,o,hk,hq,rfl,rfl,rfl⟩
 rcases Nat.lt_or_ge i b.length with hlt|hge
 ·have hd:decide ((i:Int)<(b.length:Int))=true:=decide_eq_true (by omega)
  obtain⟨c,hc⟩:∃ c,b[i]?=some c:=⟨_,List.getElem?_eq_getElem hlt⟩
  have hv:(b.map E.byte)[((i:Nat):Int).toNat]?=some (E.byte c):=by
   rw[Int.toNat_natCast,List.getElem?_map,hc];rfl
  have hdr:b.drop i=c::b.drop (i+1):=by
   rw[List.drop_eq_getElem_cons hlt];congr 1
   exact(List.getElem?_eq_some_iff.1 hc).2
  rw[hdr]at hq
  have hq2:Nc (Mo q c p) p (b.drop (i+1))=fin:=hq
  have ei:IntKind.i64.wrap ((i:Int)+1)=((i+1:Nat):Int):=by rw[IntWalk.i64_in _ (by omega)];omega
  repeat'(first|(apply Zb (Nb _ _ _);kernel_rfl;(iterate 4 exact Z))|rw[ei]|(apply Zi Za;exact Z)|(apply Zg Za;exact Z)|refine Zd Z Qt ?_|(apply ZC Za;(iterate 6 exact Z);(first|exact Qt|rotate_left);(first|with_reducible assumption|decide +kernel|exact Z);(first|exact Zm rfl|with_reducible assumption|decide +kernel|rotate_left)))
  refine Lands.mk' (m:=k-1) (by omega) ⟨i+1,_,.tup [],by omega,hq2,rfl,rfl,rfl⟩ ?_ rfl rfl rfl rfl rfl rfl
  exact .cons rfl (.cons rfl (.cons rfl (.cons rfl (.cons rfl (.cons rfl (.cons rfl .nil))))))
 ·have hd:decide ((i:Int)<(b.length:Int))=false:=decide_eq_false (by omega)
  rw[List.drop_eq_nil_of_le hge]at hq
  have hq:q=fin:=hq
  subst hq
  repeat'(first|(apply Zg Za;exact Z)|refine Zf Z Qt ?_)
  all_goals exact Qe
def KF (b:List UInt8):Int:=bits .xor .u16 (if IntKind.u16.signed then -1 else IntKind.u16.max) (IntKind.u16.wrap (Nc 65535 33800 b))
def JC (b:List UInt8):Int:=bits .xor .u32 (if IntKind.u32.signed then -1 else IntKind.u32.max) (Nc 4294967295 2197175160 b)
theorem Mq [Known](b:List UInt8)(hb:b.length<=1000000000):AP Tryz.prog 198 [byE b] (.int .u16 (KF b)) []:=by
 have hR:=Mp 65535 33800 b hb
 refine AP.ofA (Zl Tryz.func198 Z Tryz.ntmps198 Z Z ?_)
 repeat'(first|(apply Zb (hR);kernel_rfl;(iterate 4 exact Z))|refine NZ Z Z ?_|(apply Zi Za;exact Z)|(apply Zg Za;exact Z))
 all_goals exact Qe
theorem LU [Known](b:List UInt8)(hb:b.length<=1000000000):AP Tryz.prog 199 [byE b] (.int .u32 (JC b)) []:=by
 have hR:=Mp 4294967295 2197175160 b hb
 refine AP.ofA (Zl Tryz.func199 Z Tryz.ntmps199 Z Z ?_)
 repeat'(first|(apply Zb (hR);kernel_rfl;(iterate 4 exact Z))|refine NZ Z Z ?_|(apply Zi Za;exact Z)|(apply Zg Za;exact Z))
 all_goals exact Qe
def Yt (s:Nat)(l:List It):It:=.mk 4 0 [] (l++[.mk 2 0 (List.replicate (2*s) 0) []])
abbrev shU (k:IntKind)(z:Int)(q:Int):Int:=IntKind.u8.wrap (z.fdiv (2 ^ (min q.toNat k.bits)))
def S9 (s:Nat)(b:List UInt8):List E:=
 if s=1 then [.int .u8 (shU .u16 (KF b) 8),.int .u8 (IntKind.u8.wrap (KF b))]
 else [.int .u8 (shU .u32 (JC b) 24),.int .u8 (shU .u32 (JC b) 16),.int .u8 (shU .u32 (JC b) 8),.int .u8 (IntKind.u8.wrap (JC b))]
def by8 (z:Int):UInt8:=UInt8.ofNat (IntKind.u8.wrap z).toNat
theorem Ba (z:Int):E.byte (by8 z)=.int .u8 (IntKind.u8.wrap z):=by
 have h:0<=IntKind.u8.wrap z/\IntKind.u8.wrap z<256:=by
  rw[IntKind.wrap_u8];omega
 show E.int .u8 ((by8 z).toNat:Int)=_
 have e:((by8 z).toNat:Int)=IntKind.u8.wrap z:=by
  unfold by8
  rw[UInt8.toNat_ofNat']
  omega
 rw[e]
def U9 (s:Nat)(b:List UInt8):List UInt8:=
 if s=1 then [by8 ((KF b).fdiv (2 ^ (min (8:Int).toNat IntKind.u16.bits))),by8 (KF b)]
 else [by8 ((JC b).fdiv (2 ^ (min (24:Int).toNat IntKind.u32.bits))),by8 ((JC b).fdiv (2 ^ (min (16:Int).toNat IntKind.u32.bits))),by8 ((JC b).fdiv (2 ^ (min (8:Int).toNat IntKind.u32.bits))),by8 (JC b)]
theorem Sq (s:Nat)(b:List UInt8):(U9 s b).map E.byte=S9 s b:=by
 unfold U9 S9
 split<;>simp only[List.map_cons,List.map_nil,Ba]
theorem KG (s:Nat)(b:List UInt8)(hs:s=1\/s=2):(U9 s b).length=2*s:=by
 unfold U9
 rcases hs with rfl|rfl<;>rfl
theorem XX:∀ {l r:List It},wfs l->wfs r->wfs (l++r)
 | [],r,_,h=>h
 | x::l,r,h1,h2=>⟨h1.1,XX h1.2 h2⟩
theorem LV {s:Nat}{l:List It}(hs:s=1\/s=2)(hws:wfs l)(hl:l.length<=1000000):wfI (Yt s l):=by
 refine⟨by decide,by simp,by simp;omega,XX hws ⟨⟨by decide,?_,by simp,trivial⟩,trivial⟩⟩
 rcases hs with rfl|rfl<;>decide
theorem KH [Known](s:Nat)(hs:s=1\/s=2):AP Tryz.prog 167 [.int .i64 (s:Int)] (.int .i64 ((2*s:Nat):Int)) []:=by
 rcases hs with rfl|rfl
 all_goals
  refine AP.ofA (Zl Tryz.func167 Z Tryz.ntmps167 Z Z ?_)
  repeat'(first|(apply Zg Za;exact Z))
  all_goals exact Qe
theorem Gy [Known][KnownU8](l:List It)(s:Nat)(hs:s=1\/s=2)(hne:l ≠ [])(hws:wfs l)(hl:l.length<=1000000)(hlim:(Z0 (Yt s l)).length<=1000000000) :
  AP Tryz.prog 168 [.sl .ext (Zx l),.int .i64 (s:Int)] (match ZV (Yt s l) with|true=>.tup [byE (U9 s (Z0 (Yt s l))),.int .i64 0]|false=>.tup [.sl .ext [],.int .i64 3]) []:=by
 have hwz:=LV hs hws hl
 have hC:=Na l hne hl
 have hW:=OD (Yt s l) hwz (by omega) (Wu _ hwz)
 have hU:=Wl l
 have hlen:=ZD l
 have hmx:(Zx l).length<=1000000:=by omega
 have hZ:=KH s hs
 have hB:=Jz (List.replicate (2*s) 0) (by rcases hs with rfl|rfl<;>decide)
 have hL:=W5 (l++[.mk 2 0 (List.replicate (2*s) 0) []]) (by simp;omega) hwz.2.2.2
 have hSh:=Mq (Z0 (Yt s l)) hlim
 have hLo:=LU (Z0 (Yt s l)) hlim
 rw[V1]at hL
 have eZ:itD (.mk 4 0 [] (l++[.mk 2 0 (List.replicate (2*s) 0) []]))=itD (Yt s l):=rfl
 rw[eZ]at hL
 unfold byE
 rw[Sq]
 rw[<- hlen]at hC
 cases hr:ZV (Yt s l) with
 | false=>
  rw[hr]at hW
  replace hW:AP Tryz.prog 151 [itD (Yt s l)] (.tup [.sl .ext [],.int .i64 3]) []:=hW
  have eL:itD (Yt s l)=.agg [.int .i64 4,.int .u64 0,.sl .ext [],.sl .ext (Zx (l++[.mk 2 0 (List.replicate (2*s) 0) []]))]:=rfl
  rw[eL]at hL hW
  generalize Zx (l++[.mk 2 0 (List.replicate (2*s) 0) []])=ZL at *
  clear hSh hLo hlim hwz eZ eL
  rcases hs with rfl|rfl
  all_goals
   refine AP.ofA (Zl Tryz.func168 Z Tryz.ntmps168 Z Z ?_)
   repeat'(first|(apply Zo [] [] (hC);kernel_rfl;(iterate 10 exact Z))|(apply Zb (hZ);kernel_rfl;(iterate 4 exact Z))|(apply Jq Za (l:=2);(iterate 12 exact Z))|(apply Jq Za (l:=4);(iterate 12 exact Z))|(apply Zb (hB);kernel_rfl;(iterate 4 exact Z))|(apply Zb (hL);kernel_rfl;(iterate 4 exact Z))|(apply Zb (hW);kernel_rfl;(iterate 4 exact Z))|(apply Zi Za;exact Z)|(apply Zg Za;exact Z)|(apply Zu Za;exact Z)|refine Zd Z Qt ?_|refine Z7 Za Z Z Z Z Z Z Z Z Z Z Z Z ?_|(apply Z4 Za;(iterate 6 exact Z);(first|with_reducible assumption|decide +kernel|exact Z|rotate_left);exact Z;exact Z;(first|exact Zm rfl|with_reducible assumption|decide +kernel|rotate_left);(first|exact Zm rfl|with_reducible assumption|decide +kernel|rotate_left);(first|exact Qt|rotate_left);(first|exact Qt|rotate_left);(first|exact Qt|rotate_left);exact Z;exact Z))
   all_goals first|((apply Zs [];(apply Zc Za;exact Z);(iterate 4 exact Z)))|skip
   all_goals first|rfl|(first|rfl|(simp only[List.length_append,List.length_cons,List.length_nil,List.length_map,ZD];done)|(simp only[List.length_append,List.length_cons,List.length_nil,List.length_map,ZD]at *;(try unfold maxLen);(try simp only[Nat.add_mul]);omega))|(simp;done)|(simp;omega)|(simp;unfold maxLen;omega)
 | true=>
  rw[hr]at hW
  replace hW:AP Tryz.prog 151 [itD (Yt s l)] (.tup [byE (Z0 (Yt s l)),.int .i64 0]) []:=hW
  have eL:itD (Yt s l)=.agg [.int .i64 4,.int .u64 0,.sl .ext [],.sl .ext (Zx (l++[.mk 2 0 (List.replicate (2*s) 0) []]))]:=rfl
  rw[eL]at hL hW
  generalize Zx (l++[.mk 2 0 (List.replicate (2*s) 0) []])=ZL at *
  generalize Z0 (Yt s l)=PZ at *
  clear hlim hwz eZ eL hr
  rcases hs with rfl|rfl
  all_goals
   refine AP.ofA (Zl Tryz.func168 Z Tryz.ntmps168 Z Z ?_)
   repeat'(first|(apply Zo [] [] (hC);kernel_rfl;(iterate 10 exact Z))|(apply Zb (hZ);kernel_rfl;(iterate 4 exact Z))|(apply Jq Za (l:=2);(iterate 12 exact Z))|(apply Jq Za (l:=4);(iterate 12 exact Z))|(apply Zb (hB);kernel_rfl;(iterate 4 exact Z))|(apply Zb (hL);kernel_rfl;(iterate 4 exact Z))|(apply Zb (hW);kernel_rfl;(iterate 4 exact Z))|(apply Zb (hSh);kernel_rfl;(iterate 4 exact Z))|(apply Zb (hLo);kernel_rfl;(iterate 4 exact Z))|(apply Zi Za;exact Z)|(apply Zg Za;exact Z)|refine Zd Z Qt ?_|refine Zf Z Qt ?_|refine Z7 Za Z Z Z Z Z Z Z Z Z Z Z Z ?_|(apply Z4 Za;(iterate 6 exact Z);(first|with_reducible assumption|decide +kernel|exact Z|rotate_left);exact Z;exact Z;(first|exact Zm rfl|with_reducible assumption|decide +kernel|rotate_left);(first|exact Zm rfl|with_reducible assumption|decide +kernel|rotate_left);(first|exact Qt|rotate_left);(first|exact Qt|rotate_left);(first|exact Qt|rotate_left);exact Z;exact Z)|(apply YB;exact Z;exact Z;(first|exact Qt|rotate_left);exact Z))
   all_goals first|((apply Zs [];(apply Zc Za;exact Z);(iterate 4 exact Z)))|skip
   all_goals first|rfl|(first|rfl|(simp only[List.length_append,List.length_cons,List.length_nil,List.length_map,ZD];done)|(simp only[List.length_append,List.length_cons,List.length_nil,List.length_map,ZD]at *;(try unfold maxLen);(try simp only[Nat.add_mul]);omega))|(simp;done)|(simp;omega)|(simp;unfold maxLen;omega)
end Go.Proofs.YtkdpfkjlheajhaaGreatDoor
end
