/- Package primary: the sum of a list's bytes. -/
import Derived.Test.YtchlgagdbflkmaaDoorS16
import Derived.Test.YtchlgagdbflkmaaDoorS17
import Derived.Test.YtchlgagdbflkmaaDoorS10
import Derived.Scope
set_option linter.unusedVariables false
set_option linter.unusedSimpArgs false
section
open Go.RowKit Go.Pl Go.Av
namespace Go.Proofs.YtchlgagdbflkmaaDoor
set_option maxHeartbeats 4000000
def ZI (s:Nat)(l:List It):It:=.mk 4 0 [] (l++[.mk 2 0 (List.replicate (2*s) 0) []])
abbrev shU (k:IntKind)(z:Int)(q:Int):Int:=IntKind.u8.wrap (z.fdiv (2 ^ (min q.toNat k.bits)))
def Hx (s:Nat)(b:List UInt8):List E:=
 if s=1 then [.int .u8 (shU .u16 (Qp b) 8),.int .u8 (IntKind.u8.wrap (Qp b))]
 else [.int .u8 (shU .u32 (Ug b) 24),.int .u8 (shU .u32 (Ug b) 16),.int .u8 (shU .u32 (Ug b) 8),.int .u8 (IntKind.u8.wrap (Ug b))]
def by8 (z:Int):UInt8:=UInt8.ofNat (IntKind.u8.wrap z).toNat
theorem Hy (z:Int):E.byte (by8 z)=.int .u8 (IntKind.u8.wrap z):=by
 have h:0<=IntKind.u8.wrap z/\IntKind.u8.wrap z<256:=by
  rw[IntKind.wrap_u8];omega
 show E.int .u8 ((by8 z).toNat:Int)=_
 have e:((by8 z).toNat:Int)=IntKind.u8.wrap z:=by
  unfold by8
  rw[UInt8.toNat_ofNat']
  omega
 rw[e]
def YP (s:Nat)(b:List UInt8):List UInt8:=
 if s=1 then [by8 ((Qp b).fdiv (2 ^ (min (8:Int).toNat IntKind.u16.bits))),by8 (Qp b)]
 else [by8 ((Ug b).fdiv (2 ^ (min (24:Int).toNat IntKind.u32.bits))),by8 ((Ug b).fdiv (2 ^ (min (16:Int).toNat IntKind.u32.bits))),by8 ((Ug b).fdiv (2 ^ (min (8:Int).toNat IntKind.u32.bits))),by8 (Ug b)]
theorem G5 (s:Nat)(b:List UInt8):(YP s b).map E.byte=Hx s b:=by
 unfold YP Hx
 split<;>simp only[List.map_cons,List.map_nil,Hy]
theorem Vt (s:Nat)(b:List UInt8)(hs:s=1\/s=2):(YP s b).length=2*s:=by
 unfold YP
 rcases hs with rfl|rfl<;>rfl
theorem Uh:∀ {l r:List It},wfs l->wfs r->wfs (l++r)
 | [],r,_,h=>h
 | x::l,r,h1,h2=>⟨h1.1,Uh h1.2 h2⟩
theorem Gj {s:Nat}{l:List It}(hs:s=1\/s=2)(hws:wfs l)(hl:l.length<=1000000):wfI (ZI s l):=by
 refine⟨by decide,by simp,by simp;omega,Uh hws ⟨⟨by decide,?_,by simp,trivial⟩,trivial⟩⟩
 rcases hs with rfl|rfl<;>decide
theorem Qq [Known](s:Nat)(hs:s=1\/s=2):AP Tryd.prog 19 [.int .i64 (s:Int)] (.int .i64 ((2*s:Nat):Int)) []:=by
 rcases hs with rfl|rfl
 all_goals
  refine AP.ofA (Zm Tryd.func19 Z Tryd.ntmps19 Z Z ?_)
  repeat'(first|refine Zg Za Z ?_)
  all_goals exact Qe
theorem Ui [Known][KnownU8](l:List It)(s:Nat)(hs:s=1\/s=2)(hne:l ≠ [])(hws:wfs l)(hl:l.length<=1000000)(hlim:(ZC (ZI s l)).length<=1000000000) :
  AP Tryd.prog 16 [.sl .ext (Zh l),.int .i64 (s:Int)] (match ZB (ZI s l) with|true=>.tup [byE (YP s (ZC (ZI s l))),.int .i64 0]|false=>.tup [.sl .ext [],.int .i64 3]) []:=by
 have hwz:=Gj hs hws hl
 have hC:=K6 l hne hl
 have hW:=Oa (ZI s l) hwz (by omega) (YF _ hwz)
 have hU:=Yb l
 have hlen:=Zl l
 have hmx:(Zh l).length<=1000000:=by omega
 have hZ:=Qq s hs
 have hB:=Ud (List.replicate (2*s) 0) (by rcases hs with rfl|rfl<;>decide)
 have hL:=Y2 (l++[.mk 2 0 (List.replicate (2*s) 0) []]) (by simp;omega) hwz.2.2.2
 have hSh:=Ib (ZC (ZI s l)) hlim
 have hLo:=Gc (ZC (ZI s l)) hlim
 rw[YS]at hL
 have eZ:itD (.mk 4 0 [] (l++[.mk 2 0 (List.replicate (2*s) 0) []]))=itD (ZI s l):=rfl
 rw[eZ]at hL
 unfold byE
 rw[G5]
 rw[<- hlen]at hC
 cases hr:ZB (ZI s l) with
 | false=>
  rw[hr]at hW
  replace hW:AP Tryd.prog 29 [itD (ZI s l)] (.tup [.sl .ext [],.int .i64 3]) []:=hW
  have eL:itD (ZI s l)=.agg [.int .i64 4,.int .u64 0,.sl .ext [],.sl .ext (Zh (l++[.mk 2 0 (List.replicate (2*s) 0) []]))]:=rfl
  rw[eL]at hL hW
  generalize Zh (l++[.mk 2 0 (List.replicate (2*s) 0) []])=ZL at *
  clear hSh hLo hlim hwz eZ eL
  rcases hs with rfl|rfl
  all_goals
   refine AP.ofA (Zm Tryd.func16 Z Tryd.ntmps16 Z Z ?_)
   repeat'(first|refine ZZ [] [] hC Qk Z Z Z Z Z Z Z Z Z Z ?_|refine Zb hZ Qk Z Z Z Z ?_|(apply Ub Za (l:=2);(iterate 12 exact Z))|(apply Ub Za (l:=4);(iterate 12 exact Z))|refine Zb hB Qk Z Z Z Z ?_|refine Zb hL Qk Z Z Z Z ?_|refine Zb hW Qk Z Z Z Z ?_|refine Zj Za Z ?_|refine Zg Za Z ?_|refine Zv Za Z ?_|refine Zd Z Qt ?_|refine Yd Za Z Z Z Z Z Z Z Z Z Z Z Z ?_|(apply ZS Za;(iterate 6 exact Z);(first|with_reducible assumption|decide +kernel|exact Z|rotate_left);exact Z;exact Z;(first|exact Zf rfl|with_reducible assumption|decide +kernel|rotate_left);(first|exact Zf rfl|with_reducible assumption|decide +kernel|rotate_left);(first|exact Qt|rotate_left);(first|exact Qt|rotate_left);(first|exact Qt|rotate_left);exact Z;exact Z))
   all_goals first|((apply Zu [];(apply Zc Za;exact Z);(iterate 4 exact Z)))|skip
   all_goals first|rfl|(first|rfl|(simp only[List.length_append,List.length_cons,List.length_nil,List.length_map,Zl];done)|(simp only[List.length_append,List.length_cons,List.length_nil,List.length_map,Zl]at *;(try unfold maxLen);(try simp only[Nat.add_mul]);omega))|(simp;done)|(simp;omega)|(simp;unfold maxLen;omega)
 | true=>
  rw[hr]at hW
  replace hW:AP Tryd.prog 29 [itD (ZI s l)] (.tup [byE (ZC (ZI s l)),.int .i64 0]) []:=hW
  have eL:itD (ZI s l)=.agg [.int .i64 4,.int .u64 0,.sl .ext [],.sl .ext (Zh (l++[.mk 2 0 (List.replicate (2*s) 0) []]))]:=rfl
  rw[eL]at hL hW
  generalize Zh (l++[.mk 2 0 (List.replicate (2*s) 0) []])=ZL at *
  generalize ZC (ZI s l)=PZ at *
  clear hlim hwz eZ eL hr
  rcases hs with rfl|rfl
  all_goals
   refine AP.ofA (Zm Tryd.func16 Z Tryd.ntmps16 Z Z ?_)
   repeat'(first|refine ZZ [] [] hC Qk Z Z Z Z Z Z Z Z Z Z ?_|refine Zb hZ Qk Z Z Z Z ?_|(apply Ub Za (l:=2);(iterate 12 exact Z))|(apply Ub Za (l:=4);(iterate 12 exact Z))|refine Zb hB Qk Z Z Z Z ?_|refine Zb hL Qk Z Z Z Z ?_|refine Zb hW Qk Z Z Z Z ?_|refine Zb hSh Qk Z Z Z Z ?_|refine Zb hLo Qk Z Z Z Z ?_|refine Zj Za Z ?_|refine Zg Za Z ?_|refine Zd Z Qt ?_|refine Ze Z Qt ?_|refine Yd Za Z Z Z Z Z Z Z Z Z Z Z Z ?_|(apply ZS Za;(iterate 6 exact Z);(first|with_reducible assumption|decide +kernel|exact Z|rotate_left);exact Z;exact Z;(first|exact Zf rfl|with_reducible assumption|decide +kernel|rotate_left);(first|exact Zf rfl|with_reducible assumption|decide +kernel|rotate_left);(first|exact Qt|rotate_left);(first|exact Qt|rotate_left);(first|exact Qt|rotate_left);exact Z;exact Z)|(apply Yg;exact Z;exact Z;(first|exact Qt|rotate_left);exact Z))
   all_goals first|((apply Zu [];(apply Zc Za;exact Z);(iterate 4 exact Z)))|skip
   all_goals first|rfl|(first|rfl|(simp only[List.length_append,List.length_cons,List.length_nil,List.length_map,Zl];done)|(simp only[List.length_append,List.length_cons,List.length_nil,List.length_map,Zl]at *;(try unfold maxLen);(try simp only[Nat.add_mul]);omega))|(simp;done)|(simp;omega)|(simp;unfold maxLen;omega)
theorem Ie [Known](l:List It)(hne:l ≠ [])(hl:l.length<=2199023255488)(hws:wfs l):AT Tryd.prog 15 [.sl .ext (Zh l)] [] [] (.agg [.int .i64 4,.int .u64 0,.sl .nil [],.sl (.own 0) (Zh l)]) [] [⟨(Zh l).length,4,27⟩]:=by
 have ih':∀ y ∈ l,AP Tryd.prog 28 [itD y] (itD y) []:=fun y hy=>Uz y (ZX hws y hy)
 have hlen:=Zl l
 refine Zm Tryd.func15 rfl Tryd.ntmps15 rfl rfl ?_
 repeat'(first|refine Zj Za Z ?_|refine Zg Za Z ?_|refine Zn Za Z Z Z Z ?_)
 refine ZT (fun k' tm bx fr=>∃(i c:Nat) (L:List E),k'+i=l.length/\c=L.length/\L=Zh (l.take i)/\tm=[(3,.ptr 1 0),(2,.ptr 0 0),(7,.sl .ext (Zh l)),(8,.int .i64 ((Zh l).length:Int)),(9,.int .i64 (i:Int))] /\
  ((i=0/\bx=[[.int .i64 0,.int .u64 0,.sl .nil [],.sl .nil []],[.int .i64 4,.int .u64 0,.sl .nil [],.sl .nil []]]/\fr=[]) \/
  (bx=[[.int .i64 0,.int .u64 0,.sl .nil [],.sl .nil []],[.int .i64 4,.int .u64 0,.sl .nil [],.sl (.own 0) L]]/\fr=[⟨c,4,27⟩]))) (l.length+1) (Lands.mk' (m:=l.length) (Nat.lt_succ_self _) ⟨0,0,[],rfl,rfl,rfl,rfl,.inl ⟨rfl,rfl,rfl⟩⟩ ?_ rfl rfl rfl rfl rfl rfl) ?_
 ·exact .cons rfl (.cons rfl (.cons rfl (.cons rfl (.cons rfl .nil))))
 rintro k' tm bx fr ⟨i,c,L,hi,hc,hL,rfl,⟨rfl,rfl,rfl⟩ | ⟨rfl,rfl⟩⟩
 ·cases l with
  | nil=>exact absurd rfl hne
  | cons y l=>
   have hc:=ih' y (List.mem_cons_self ..)
   have hU:=Yb (y::l)
   have hd:decide (((0:Nat):Int)<((Zh (y::l)).length:Int))=true:=decide_eq_true (by rw[Zh];simp)
   obtain⟨k1,n1,b1,l1⟩:=y
   repeat'(first|refine Zb hc Qk Z Z Z Z ?_|refine YN Za Z Z Z Z Z Z (Zf rfl) (List.cons_ne_nil _ _) Z Qd Qd Z Z Z ?_|refine Zj Za Z ?_|refine Zg Za Z ?_|refine Zv Za Z ?_|refine Zd Z Qt ?_|refine Yd Za Z Z Z Z Z Z Z Z Z Z Z Z ?_|(apply Zo 5 ZG;decide +kernel;kernel_rfl;kernel_rfl;kernel_rfl;exact Z;exact Z)|(apply Zr;(iterate 4 exact Z))|exact AE.nil _ _ _ _|(apply Zt;exact Z)|(apply Zx;exact Z;exact Z;decide +kernel;exact Z)|(apply Zz;exact Z)|exact AO.nil _ _ _|(apply Zq;(decide +kernel))|exact AOs.nil|exact ZM rfl rfl|exact WE rfl rfl rfl rfl rfl|(apply Zs Za;(iterate 6 exact Z);(first|exact Qt|rotate_left);(first|with_reducible assumption|decide +kernel|exact Z);(first|exact Zf rfl|with_reducible assumption|decide +kernel|rotate_left)))
   refine Lands.mk' (m:=k'-1) (by simp at hi;omega) ⟨1,1,Zh [It.mk k1 n1 b1 l1],by simp at hi ⊢;omega,rfl,rfl,rfl,.inr ⟨rfl,rfl⟩⟩ ?_ rfl rfl rfl rfl rfl rfl
   exact .cons rfl (.cons rfl (.cons rfl (.cons rfl (.cons rfl .nil))))
 ·have hU:=Yb l
  have hU2:Uni 4 L:=hL ▸ Yb (l.take i)
  have el:=Zl (l.take i)
  rw[<- hL]at el
  subst hc
  rcases Nat.lt_or_ge i l.length with hlt|hge
  ·have hd:decide ((i:Int)<((Zh l).length:Int))=true:=decide_eq_true (by omega)
   obtain⟨⟨k1,n1,b1,l1⟩,hy⟩:∃ y,l[i]?=some y:=⟨_,List.getElem?_eq_getElem hlt⟩
   have hv:(Zh l)[((i:Nat):Int).toNat]?=some (.agg [.int .i64 k1,.int .u64 (n1:Int),.sl (b1.map E.byte),.sl (Zh l1)]):=by
    rw[Int.toNat_natCast,ZD,List.getElem?_map,hy];rfl
   have hc:=ih' _ (List.mem_of_getElem? hy)
   have ei:IntKind.i64.wrap ((i:Int)+1)=((i+1:Nat):Int):=by rw[IntWalk.i64_in _ (by omega)];omega
   have hs:L++[E.agg [.int .i64 k1,.int .u64 (n1:Int),.sl (b1.map E.byte),.sl (Zh l1)]]=Zh (l.take (i+1)):=by
    rw[hL,List.take_add_one,hy];exact(YS _ [It.mk k1 n1 b1 l1]).symm
   rw[List.length_take]at el
   repeat'(first|refine Zb hc Qk Z Z Z Z ?_|rw[ei]|refine Zj Za Z ?_|refine Zg Za Z ?_|refine Zv Za Z ?_|refine Zd Z Qt ?_|refine Yd Za Z Z Z Z Z Z Z Z Z Z Z Z ?_|(apply Zo 5 ZG;decide +kernel;kernel_rfl;kernel_rfl;kernel_rfl;exact Z;exact Z)|(apply Zr;(iterate 4 exact Z))|exact AE.nil _ _ _ _|(apply Zt;exact Z)|(apply Zx;exact Z;exact Z;decide +kernel;exact Z)|(apply Zz;exact Z)|exact AO.nil _ _ _|(apply Zq;(decide +kernel))|exact AOs.nil|exact ZM rfl rfl|exact WE rfl rfl rfl rfl rfl|(apply ZS Za;(iterate 6 exact Z);(first|with_reducible assumption|decide +kernel|exact Z|rotate_left);exact Z;exact Z;(first|exact Zf rfl|with_reducible assumption|decide +kernel|rotate_left);(first|exact Zf rfl|with_reducible assumption|decide +kernel|rotate_left);(first|exact Qt|rotate_left);(first|exact Qt|rotate_left);(first|exact Qt|rotate_left);exact Z;exact Z)|(apply Zs Za;(iterate 6 exact Z);(first|exact Qt|rotate_left);(first|with_reducible assumption|decide +kernel|exact Z);(first|exact Zf rfl|with_reducible assumption|decide +kernel|rotate_left)))
   ·refine Lands.mk' (m:=k'-1) (by omega) ⟨i+1,L.length+1,_,by omega,by rw[List.length_append];rfl,hs,rfl,.inr ⟨rfl,rfl⟩⟩ ?_ rfl rfl rfl rfl rfl rfl
    exact .cons rfl (.cons rfl (.cons rfl (.cons rfl (.cons rfl .nil))))
   all_goals(first|rfl|(simp only[List.length_append,List.length_cons,List.length_nil,List.length_map,Zl];done)|(simp only[List.length_append,List.length_cons,List.length_nil,List.length_map,Zl]at *;(try unfold maxLen);(try simp only[Nat.add_mul]);omega))
  ·have hd:decide ((i:Int)<((Zh l).length:Int))=false:=decide_eq_false (by omega)
   rw[List.take_of_length_le hge]at hL
   subst hL
   repeat'(first|refine Zg Za Z ?_|refine Ze Z Qt ?_)
   all_goals(apply Vf [] [0];(apply Zc Za;exact Z);(iterate 7 exact Z))
   all_goals rfl
def z0:It:=.mk 0 0 [] []
def WD (s:Nat)(l:List It):It:=.mk 4 0 [] (l++[.mk 2 0 (YP s (ZC (ZI s l))) []])
def Uj (l:List It)(a:Int):It × Int:=match decide (a<0)||decide (a ≥ (l.length:Int)) with
 | true=>(z0,1)
 | false=>match l.all ZB&&decide (Yp l a ≥ 0) with
  | false=>(z0,3)
  | true=>match decide (Yp l a>0) with
   | false=>(match ZB (.mk 4 0 [] l) with|true=>(.mk 4 0 [] l,0)|false=>(z0,3))
   | true=>(match ZB (ZI (Yp l a).toNat l) with
    | false=>(z0,3)
    | true=>match ZB (WD (Yp l a).toNat l) with
     | false=>(z0,3)
     | true=>(WD (Yp l a).toNat l,0))
abbrev Xi (r:It × Int):D:=.tup [itD r.1,.int .i64 r.2]
theorem US (l:List It)(a:Int):Yp l a = -1\/((Yp l a=0\/Yp l a=1\/Yp l a=2)/\0<=a/\a<(l.length:Int)):=by
 unfold Yp
 split
 ·exact .inl rfl
 rename_i h0
 cases h:l[a.toNat]? with
 | none=>exact .inl rfl
 | some x=>
  obtain⟨k,n,b,r⟩:=x
  have hlt:=(List.getElem?_eq_some_iff.1 h).1
  dsimp only
  cases t:decide ((n:Int)>2) with
  | true=>exact .inl rfl
  | false=>
   have:=of_decide_eq_false t
   cases It.beq (.mk k n b r) (.mk 0 n [] []) with
   | false=>exact .inl rfl
   | true=>dsimp only;omega
theorem X1 {s:Nat}{l:List It}(hs:s=1\/s=2)(hws:wfs l)(hl:l.length<=1000000):wfI (WD s l):=by
 refine⟨by decide,by simp,by simp;omega,Uh hws ⟨⟨by decide,?_,by simp,trivial⟩,trivial⟩⟩
 rw[Vt _ _ hs]
 omega
theorem Kz [Known][KnownU8](l:List It)(a:Int)(hws:wfs l)(hl:l.length<=1000000)(hlim:∀ s,s=1\/s=2->(ZC (ZI s l)).length<=1000000000):AP Tryd.prog 7 [.sl .ext (Zh l),.int .i64 a] (Xi (Uj l a)) []:=by
 have hlen:=Zl l
 have hU:=Yb l
 have hC:=Qn l hws hl
 have hT:=VK l hws a
 unfold Uj
 rw[<- hlen]
 rcases Int.lt_or_le a 0 with h0|h0
 ·have t1:decide (a<0)=true:=decide_eq_true h0
  rw[t1,Bool.true_or]
  dsimp only[z0]
  refine AP.ofA (Zm Tryd.func7 Z Tryd.ntmps7 Z Z ?_)
  repeat'(first|refine Zj Za Z ?_|refine Zg Za Z ?_|refine Zv Za Z ?_|refine Zw Z Z Z Qt ?_|refine Zp Z Qt Z Z ?_|refine Zd Z Qt ?_)
  all_goals exact Qe
 have t1:decide (a<0)=false:=decide_eq_false (by omega)
 rw[t1,Bool.false_or]
 cases t2:decide (a ≥ ((Zh l).length:Int)) with
 | true=>
  dsimp only[z0]
  refine AP.ofA (Zm Tryd.func7 Z Tryd.ntmps7 Z Z ?_)
  repeat'(first|refine Zj Za Z ?_|refine Zg Za Z ?_|refine Zv Za Z ?_|refine Zi Z Z Z Qt ?_|refine Zk Z Qt Z Z ?_|refine Zd Z Qt ?_|refine Zn Za Z Z Z Z ?_)
  all_goals exact Qe
 | false=>
 have hne:l ≠ []:=by rintro rfl;have:=of_decide_eq_false t2;simp[Zh]at this;omega
 cases hA:l.all ZB with
 | false=>
  rw[hA]at hC
  replace hC:AP Tryd.prog 14 _ (.bool true) []:=hC
  rw[Bool.false_and]
  dsimp only[z0]
  generalize Yp l a=tv at *
  refine AP.ofA (Zm Tryd.func7 Z Tryd.ntmps7 Z Z ?_)
  repeat'(first|refine Zb hC Qk Z Z Z Z ?_|refine Zb hT Qk Z Z Z Z ?_|refine Zj Za Z ?_|refine Zg Za Z ?_|refine Zv Za Z ?_|refine Zi Z Z Z Qt ?_|refine Zw Z Z Z Qt ?_|refine Zp Z Qt Z Z ?_|refine Zk Z Qt Z Z ?_|refine Zd Z Qt ?_|refine Ze Z Qt ?_|refine Zn Za Z Z Z Z ?_)
  all_goals exact Qe
 | true=>
  rw[hA]at hC
  replace hC:AP Tryd.prog 14 _ (.bool false) []:=hC
  rw[Bool.true_and]
  rcases US l a with e|⟨e|e,_,_⟩
  ·rw[e]at hT ⊢
   dsimp only[z0]
   refine AP.ofA (Zm Tryd.func7 Z Tryd.ntmps7 Z Z ?_)
   repeat'(first|refine Zb hC Qk Z Z Z Z ?_|refine Zb hT Qk Z Z Z Z ?_|refine Zj Za Z ?_|refine Zg Za Z ?_|refine Zv Za Z ?_|refine Zi Z Z Z Qt ?_|refine Zk Z Qt Z Z ?_|refine Zd Z Qt ?_|refine Ze Z Qt ?_|refine Zn Za Z Z Z Z ?_)
   all_goals exact Qe
  ·rw[e]at hT ⊢
   have hL:=Y2 l (by omega) hws
   have hR:=YF (.mk 4 0 [] l) ⟨by decide,by simp,by omega,hws⟩
   cases hr:ZB (.mk 4 0 [] l) with
   | false=>
    rw[hr]at hR
    dsimp only[z0]
    refine AP.ofA (Zm Tryd.func7 Z Tryd.ntmps7 Z Z ?_)
    repeat'(first|refine Zb hC Qk Z Z Z Z ?_|refine Zb hT Qk Z Z Z Z ?_|refine Zb hL Qk Z Z Z Z ?_|refine Zb hR Qk Z Z Z Z ?_|refine Zj Za Z ?_|refine Zg Za Z ?_|refine Zv Za Z ?_|refine Zi Z Z Z Qt ?_|refine Zk Z Qt Z Z ?_|refine Zd Z Qt ?_|refine Ze Z Qt ?_|refine Zn Za Z Z Z Z ?_)
    all_goals exact Qe
   | true=>
    rw[hr]at hR
    refine AP.ofA (Zm Tryd.func7 Z Tryd.ntmps7 Z Z ?_)
    repeat'(first|refine Zb hC Qk Z Z Z Z ?_|refine Zb hT Qk Z Z Z Z ?_|refine Zb hL Qk Z Z Z Z ?_|refine Zb hR Qk Z Z Z Z ?_|refine Zj Za Z ?_|refine Zg Za Z ?_|refine Zv Za Z ?_|refine Zi Z Z Z Qt ?_|refine Zk Z Qt Z Z ?_|refine Ze Z Qt ?_|refine Zn Za Z Z Z Z ?_)
    all_goals exact Qe
  ·obtain⟨s,hs,es⟩:∃ s:Nat,(s=1\/s=2)/\Yp l a=(s:Int):=⟨(Yp l a).toNat,by omega,by omega⟩
   rw[es]at hT ⊢
   rw[Int.toNat_natCast]
   have hS:=Ui l s hs hne hws hl (hlim s hs)
   have hL:=Ie l hne (by omega) hws
   have hsl:=Vt s (ZC (ZI s l)) hs
   have hB:=Ud (YP s (ZC (ZI s l))) (by omega)
   have hR:=YF (WD s l) (X1 hs hws hl)
   have hmx:(Zh l).length<=1000000:=by omega
   have d1:decide ((s:Int)<0)=false:=decide_eq_false (by omega)
   have d2:decide ((s:Int)>0)=true:=decide_eq_true (by omega)
   have d3:decide ((s:Int) ≥ 0)=true:=decide_eq_true (by omega)
   rw[d2,d3]
   cases hz:ZB (ZI s l) with
   | false=>
    rw[hz]at hS
    dsimp only[z0]
    dsimp only at hS
    refine AP.ofA (Zm Tryd.func7 Z Tryd.ntmps7 Z Z ?_)
    repeat'(first|refine Zb hC Qk Z Z Z Z ?_|refine Zb hT Qk Z Z Z Z ?_|refine ZZ [] [] hL Qk Z Z Z Z Z Z Z Z Z Z ?_|refine Zb hS Qk Z Z Z Z ?_|refine Zj Za Z ?_|refine Zg Za Z ?_|refine Zv Za Z ?_|refine Zi Z Z Z Qt ?_|refine Zk Z Qt Z Z ?_|refine Zd Z Qt ?_|refine Ze Z Qt ?_|refine Zn Za Z Z Z Z ?_)
    all_goals exact Qe
   | true=>
    rw[hz]at hS
    dsimp only at hS ⊢
    have eO:itD (WD s l)=.agg [.int .i64 4,.int .u64 0,.sl .ext [],.sl .ext (Zh l++[.agg [.int .i64 2,.int .u64 0,.sl ((YP s (ZC (ZI s l))).map E.byte),.sl []]])]:=by
     show D.agg [.int .i64 4,.int .u64 0,.sl .ext [],.sl .ext (Zh (l++[.mk 2 0 (YP s (ZC (ZI s l))) []]))]=_
     rw[YS]
     rfl
    cases hr:ZB (WD s l) with
    | false=>
     rw[hr,eO]at hR
     dsimp only[z0]
     generalize YP s (ZC (ZI s l))=SB at *
     refine AP.ofA (Zm Tryd.func7 Z Tryd.ntmps7 Z Z ?_)
     repeat'(first|refine Zb hC Qk Z Z Z Z ?_|refine Zb hT Qk Z Z Z Z ?_|refine ZZ [] [] hL Qk Z Z Z Z Z Z Z Z Z Z ?_|refine Zb hS Qk Z Z Z Z ?_|refine Zb hB Qk Z Z Z Z ?_|refine Zb hR Qk Z Z Z Z ?_|refine Zj Za Z ?_|refine Zg Za Z ?_|refine Zv Za Z ?_|refine Zi Z Z Z Qt ?_|refine Zk Z Qt Z Z ?_|refine Zd Z Qt ?_|refine Ze Z Qt ?_|refine Zn Za Z Z Z Z ?_|refine Yd Za Z Z Z Z Z Z Z Z Z Z Z Z ?_|(apply Zo 5 ZG;decide +kernel;kernel_rfl;kernel_rfl;kernel_rfl;exact Z;exact Z)|(apply Zr;(iterate 4 exact Z))|exact AE.nil _ _ _ _|(apply Zt;exact Z)|(apply Zx;exact Z;exact Z;decide +kernel;exact Z)|(apply Zz;exact Z)|exact AO.nil _ _ _|(apply Zq;(decide +kernel))|exact AOs.nil|exact ZM rfl rfl|exact WE rfl rfl rfl rfl rfl|(apply ZS Za;(iterate 6 exact Z);(first|with_reducible assumption|decide +kernel|exact Z|rotate_left);exact Z;exact Z;(first|exact Zf rfl|with_reducible assumption|decide +kernel|rotate_left);(first|exact Zf rfl|with_reducible assumption|decide +kernel|rotate_left);(first|exact Qt|rotate_left);(first|exact Qt|rotate_left);(first|exact Qt|rotate_left);exact Z;exact Z))
     all_goals first|((apply Zu [];(apply Zc Za;exact Z);(iterate 4 exact Z)))|skip
     all_goals first|rfl|(first|rfl|(simp only[List.length_append,List.length_cons,List.length_nil,List.length_map,Zl];done)|(simp only[List.length_append,List.length_cons,List.length_nil,List.length_map,Zl]at *;(try unfold maxLen);(try simp only[Nat.add_mul]);omega))|(simp;done)|(simp;omega)|(simp;unfold maxLen;omega)
    | true=>
     rw[hr,eO]at hR
     dsimp only[Xi]
     rw[eO]
     generalize YP s (ZC (ZI s l))=SB at *
     refine AP.ofA (Zm Tryd.func7 Z Tryd.ntmps7 Z Z ?_)
     repeat'(first|refine Zb hC Qk Z Z Z Z ?_|refine Zb hT Qk Z Z Z Z ?_|refine ZZ [] [] hL Qk Z Z Z Z Z Z Z Z Z Z ?_|refine Zb hS Qk Z Z Z Z ?_|refine Zb hB Qk Z Z Z Z ?_|refine Zb hR Qk Z Z Z Z ?_|refine Zj Za Z ?_|refine Zg Za Z ?_|refine Zv Za Z ?_|refine Zi Z Z Z Qt ?_|refine Zk Z Qt Z Z ?_|refine Zd Z Qt ?_|refine Ze Z Qt ?_|refine Zn Za Z Z Z Z ?_|refine Yd Za Z Z Z Z Z Z Z Z Z Z Z Z ?_|(apply Zo 5 ZG;decide +kernel;kernel_rfl;kernel_rfl;kernel_rfl;exact Z;exact Z)|(apply Zr;(iterate 4 exact Z))|exact AE.nil _ _ _ _|(apply Zt;exact Z)|(apply Zx;exact Z;exact Z;decide +kernel;exact Z)|(apply Zz;exact Z)|exact AO.nil _ _ _|(apply Zq;(decide +kernel))|exact AOs.nil|exact ZM rfl rfl|exact WE rfl rfl rfl rfl rfl|(apply ZS Za;(iterate 6 exact Z);(first|with_reducible assumption|decide +kernel|exact Z|rotate_left);exact Z;exact Z;(first|exact Zf rfl|with_reducible assumption|decide +kernel|rotate_left);(first|exact Zf rfl|with_reducible assumption|decide +kernel|rotate_left);(first|exact Qt|rotate_left);(first|exact Qt|rotate_left);(first|exact Qt|rotate_left);exact Z;exact Z))
     all_goals first|((apply Zu [];(apply Zc Za;exact Z);(iterate 4 exact Z)))|skip
     all_goals first|rfl|(first|rfl|(simp only[List.length_append,List.length_cons,List.length_nil,List.length_map,Zl];done)|(simp only[List.length_append,List.length_cons,List.length_nil,List.length_map,Zl]at *;(try unfold maxLen);(try simp only[Nat.add_mul]);omega))|(simp;done)|(simp;omega)|(simp;unfold maxLen;omega)
end Go.Proofs.YtchlgagdbflkmaaDoor
end
section
open Go.RowKit Go.Pl
namespace Go.Av
section
variable {P:Program} {Q:X->St->Prop} {n:Nat} {ee:Nat × Nat} {tm:List (Nat × D)} {bx:List (List D)} {fr:List Fr} {T:Tab}
variable {ops:Array Oper} {rest:List Oper} {t ty:Nat} {pos:String} {after:Array Edge}
end
end Go.Av
end
