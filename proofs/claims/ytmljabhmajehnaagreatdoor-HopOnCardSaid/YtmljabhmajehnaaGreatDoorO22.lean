/- Package primary: the sum of a list's bytes. -/
import Derived.Test.YtmljabhmajehnaaGreatDoorO21
import Derived.Test.YtmljabhmajehnaaGreatDoorO20
import Derived.Test.YtmljabhmajehnaaGreatDoorO09
import Derived.Lib.Strings
import Derived.Lib.Slices
import Derived.Lib.Walk
import Derived.Lib.Bytealg
set_option linter.unusedVariables false
set_option linter.unusedSimpArgs false
section
open Go.RowKit Go.Pl Go.Av
namespace Go.Proofs.YtmljabhmajehnaaGreatDoor
set_option maxHeartbeats 4000000
def ZX (s:Nat)(l:List It):It:=.mk 4 0 [] (l++[.mk 2 0 (List.replicate (2*s) 0) []])
abbrev shU (k:IntKind)(z:Int)(q:Int):Int:=IntKind.u8.wrap (z.fdiv (2 ^ (min q.toNat k.bits)))
def SH (s:Nat)(b:List UInt8):List E:=
 if s=1 then [.int .u8 (shU .u16 (Qi b) 8),.int .u8 (IntKind.u8.wrap (Qi b))]
 else [.int .u8 (shU .u32 (UO b) 24),.int .u8 (shU .u32 (UO b) 16),.int .u8 (shU .u32 (UO b) 8),.int .u8 (IntKind.u8.wrap (UO b))]
def by8 (z:Int):UInt8:=UInt8.ofNat (IntKind.u8.wrap z).toNat
theorem DK (z:Int):E.byte (by8 z)=.int .u8 (IntKind.u8.wrap z):=by
 have h:0<=IntKind.u8.wrap z/\IntKind.u8.wrap z<256:=by
  rw[IntKind.wrap_u8];omega
 show E.int .u8 ((by8 z).toNat:Int)=_
 have e:((by8 z).toNat:Int)=IntKind.u8.wrap z:=by
  unfold by8
  rw[UInt8.toNat_ofNat']
  omega
 rw[e]
def Uy (s:Nat)(b:List UInt8):List UInt8:=
 if s=1 then [by8 ((Qi b).fdiv (2 ^ (min (8:Int).toNat IntKind.u16.bits))),by8 (Qi b)]
 else [by8 ((UO b).fdiv (2 ^ (min (24:Int).toNat IntKind.u32.bits))),by8 ((UO b).fdiv (2 ^ (min (16:Int).toNat IntKind.u32.bits))),by8 ((UO b).fdiv (2 ^ (min (8:Int).toNat IntKind.u32.bits))),by8 (UO b)]
theorem Tf (s:Nat)(b:List UInt8):(Uy s b).map E.byte=SH s b:=by
 unfold Uy SH
 split<;>simp only[List.map_cons,List.map_nil,DK]
theorem KR (s:Nat)(b:List UInt8)(hs:s=1\/s=2):(Uy s b).length=2*s:=by
 unfold Uy
 rcases hs with rfl|rfl<;>rfl
theorem Kk:∀ {l r:List It},wfs l->wfs r->wfs (l++r)
 | [],r,_,h=>h
 | x::l,r,h1,h2=>⟨h1.1,Kk h1.2 h2⟩
theorem Nl {s:Nat}{l:List It}(hs:s=1\/s=2)(hws:wfs l)(hl:l.length<=1000000):wfI (ZX s l):=by
 refine⟨by decide,by simp,by simp;omega,Kk hws ⟨⟨by decide,?_,by simp,trivial⟩,trivial⟩⟩
 rcases hs with rfl|rfl<;>decide
theorem Tg [Known](s:Nat)(hs:s=1\/s=2):AP Tryz.prog 145 [.int .i64 (s:Int)] (.int .i64 ((2*s:Nat):Int)) []:=by
 rcases hs with rfl|rfl
 all_goals
  refine AP.ofA (Zl Tryz.func145 U Tryz.ntmps145 U U ?_)
  repeat'(first|(apply Zg Za;exact U))
  all_goals exact Qe
theorem LO [Known][KnownU8](l:List It)(s:Nat)(hs:s=1\/s=2)(hne:l ≠ [])(hws:wfs l)(hl:l.length<=1000000)(hlim:(ZN (ZX s l)).length<=1000000000) :
  AP Tryz.prog 146 [.sl .ext (Zx l),.int .i64 (s:Int)] (match ZB (ZX s l) with|true=>.tup [byE (Uy s (ZN (ZX s l))),.int .i64 0]|false=>.tup [.sl .ext [],.int .i64 3]) []:=by
 have hwz:=Nl hs hws hl
 have hC:=Md l hne hl
 have hW:=Xv (ZX s l) hwz (by omega) (WH _ hwz)
 have hU:=Wl l
 have hlen:=Zv l
 have hmx:(Zx l).length<=1000000:=by omega
 have hZ:=Tg s hs
 have hB:=KE (List.replicate (2*s) 0) (by rcases hs with rfl|rfl<;>decide)
 have hL:=Ur (l++[.mk 2 0 (List.replicate (2*s) 0) []]) (by simp;omega) hwz.2.2.2
 have hSh:=LN (ZN (ZX s l)) hlim
 have hLo:=SG (ZN (ZX s l)) hlim
 rw[WQ]at hL
 have eZ:itD (.mk 4 0 [] (l++[.mk 2 0 (List.replicate (2*s) 0) []]))=itD (ZX s l):=rfl
 rw[eZ]at hL
 unfold byE
 rw[Tf]
 rw[<- hlen]at hC
 cases hr:ZB (ZX s l) with
 | false=>
  rw[hr]at hW
  replace hW:AP Tryz.prog 63 [itD (ZX s l)] (.tup [.sl .ext [],.int .i64 3]) []:=hW
  have eL:itD (ZX s l)=.agg [.int .i64 4,.int .u64 0,.sl .ext [],.sl .ext (Zx (l++[.mk 2 0 (List.replicate (2*s) 0) []]))]:=rfl
  rw[eL]at hL hW
  generalize Zx (l++[.mk 2 0 (List.replicate (2*s) 0) []])=ZL at *
  clear hSh hLo hlim hwz eZ eL
  rcases hs with rfl|rfl
  all_goals
   refine AP.ofA (Zl Tryz.func146 U Tryz.ntmps146 U U ?_)
   repeat'(first|(apply Yn [] [] (hC);kernel_rfl;(iterate 10 exact U))|(apply Zb (hZ);kernel_rfl;(iterate 4 exact U))|(apply VR Za (l:=2);(iterate 12 exact U))|(apply VR Za (l:=4);(iterate 12 exact U))|(apply Zb (hB);kernel_rfl;(iterate 4 exact U))|(apply Zb (hL);kernel_rfl;(iterate 4 exact U))|(apply Zb (hW);kernel_rfl;(iterate 4 exact U))|(apply Zh Za;exact U)|(apply Zg Za;exact U)|(apply Zo Za;exact U)|refine Zd U Qt ?_|refine ZO Za U U U U U U U U U U U U ?_|(apply ZR Za;(iterate 6 exact U);(first|with_reducible assumption|decide +kernel|exact U|rotate_left);exact U;exact U;(first|exact Zj rfl|with_reducible assumption|decide +kernel|rotate_left);(first|exact Zj rfl|with_reducible assumption|decide +kernel|rotate_left);(first|exact Qt|rotate_left);(first|exact Qt|rotate_left);(first|exact Qt|rotate_left);exact U;exact U))
   all_goals first|((apply Zp [];(apply Zc Za;exact U);(iterate 4 exact U)))|skip
   all_goals first|rfl|(first|rfl|(simp only[List.length_append,List.length_cons,List.length_nil,List.length_map,Zv];done)|(simp only[List.length_append,List.length_cons,List.length_nil,List.length_map,Zv]at *;(try unfold maxLen);(try simp only[Nat.add_mul]);omega))|(simp;done)|(simp;omega)|(simp;unfold maxLen;omega)
 | true=>
  rw[hr]at hW
  replace hW:AP Tryz.prog 63 [itD (ZX s l)] (.tup [byE (ZN (ZX s l)),.int .i64 0]) []:=hW
  have eL:itD (ZX s l)=.agg [.int .i64 4,.int .u64 0,.sl .ext [],.sl .ext (Zx (l++[.mk 2 0 (List.replicate (2*s) 0) []]))]:=rfl
  rw[eL]at hL hW
  generalize Zx (l++[.mk 2 0 (List.replicate (2*s) 0) []])=ZL at *
  generalize ZN (ZX s l)=PZ at *
  clear hlim hwz eZ eL hr
  rcases hs with rfl|rfl
  all_goals
   refine AP.ofA (Zl Tryz.func146 U Tryz.ntmps146 U U ?_)
   repeat'(first|(apply Yn [] [] (hC);kernel_rfl;(iterate 10 exact U))|(apply Zb (hZ);kernel_rfl;(iterate 4 exact U))|(apply VR Za (l:=2);(iterate 12 exact U))|(apply VR Za (l:=4);(iterate 12 exact U))|(apply Zb (hB);kernel_rfl;(iterate 4 exact U))|(apply Zb (hL);kernel_rfl;(iterate 4 exact U))|(apply Zb (hW);kernel_rfl;(iterate 4 exact U))|(apply Zb (hSh);kernel_rfl;(iterate 4 exact U))|(apply Zb (hLo);kernel_rfl;(iterate 4 exact U))|(apply Zh Za;exact U)|(apply Zg Za;exact U)|refine Zd U Qt ?_|refine Zf U Qt ?_|refine ZO Za U U U U U U U U U U U U ?_|(apply ZR Za;(iterate 6 exact U);(first|with_reducible assumption|decide +kernel|exact U|rotate_left);exact U;exact U;(first|exact Zj rfl|with_reducible assumption|decide +kernel|rotate_left);(first|exact Zj rfl|with_reducible assumption|decide +kernel|rotate_left);(first|exact Qt|rotate_left);(first|exact Qt|rotate_left);(first|exact Qt|rotate_left);exact U;exact U)|(apply YI;exact U;exact U;(first|exact Qt|rotate_left);exact U))
   all_goals first|((apply Zp [];(apply Zc Za;exact U);(iterate 4 exact U)))|skip
   all_goals first|rfl|(first|rfl|(simp only[List.length_append,List.length_cons,List.length_nil,List.length_map,Zv];done)|(simp only[List.length_append,List.length_cons,List.length_nil,List.length_map,Zv]at *;(try unfold maxLen);(try simp only[Nat.add_mul]);omega))|(simp;done)|(simp;omega)|(simp;unfold maxLen;omega)
theorem LP [Known](l:List It)(hne:l ≠ [])(hl:l.length<=2199023255488)(hws:wfs l):AT Tryz.prog 64 [.sl .ext (Zx l)] [] [] (.agg [.int .i64 4,.int .u64 0,.sl .nil [],.sl (.own 0) (Zx l)]) [] [⟨(Zx l).length,4,115⟩]:=by
 have ih':∀ y ∈ l,AP Tryz.prog 115 [itD y] (itD y) []:=fun y hy=>OL y (Y8 hws y hy)
 have hlen:=Zv l
 refine Zl Tryz.func64 rfl Tryz.ntmps64 rfl rfl ?_
 repeat'(first|(apply Zh Za;exact U)|(apply Zg Za;exact U)|refine Zm Za U U U U ?_)
 refine ZJ (fun k' tm bx fr=>∃(i c:Nat) (L:List E),k'+i=l.length/\c=L.length/\L=Zx (l.take i)/\tm=[(3,.ptr 1 0),(2,.ptr 0 0),(7,.sl .ext (Zx l)),(8,.int .i64 ((Zx l).length:Int)),(9,.int .i64 (i:Int))] /\
  ((i=0/\bx=[[.int .i64 0,.int .u64 0,.sl .nil [],.sl .nil []],[.int .i64 4,.int .u64 0,.sl .nil [],.sl .nil []]]/\fr=[]) \/
  (bx=[[.int .i64 0,.int .u64 0,.sl .nil [],.sl .nil []],[.int .i64 4,.int .u64 0,.sl .nil [],.sl (.own 0) L]]/\fr=[⟨c,4,115⟩]))) (l.length+1) (Lands.mk' (m:=l.length) (Nat.lt_succ_self _) ⟨0,0,[],rfl,rfl,rfl,rfl,.inl ⟨rfl,rfl,rfl⟩⟩ ?_ rfl rfl rfl rfl rfl rfl) ?_
 ·exact .cons rfl (.cons rfl (.cons rfl (.cons rfl (.cons rfl .nil))))
 rintro k' tm bx fr ⟨i,c,L,hi,hc,hL,rfl,⟨rfl,rfl,rfl⟩ | ⟨rfl,rfl⟩⟩
 ·cases l with
  | nil=>exact absurd rfl hne
  | cons y l=>
   have hc:=ih' y (List.mem_cons_self ..)
   have hU:=Wl (y::l)
   have hd:decide (((0:Nat):Int)<((Zx (y::l)).length:Int))=true:=decide_eq_true (by rw[Zx];simp)
   obtain⟨k1,n1,b1,l1⟩:=y
   repeat'(first|(apply Zb (hc);kernel_rfl;(iterate 4 exact U))|refine ZT Za U U U U U U (Zj rfl) (List.cons_ne_nil _ _) U Qd Qd U U U ?_|(apply Zh Za;exact U)|(apply Zg Za;exact U)|(apply Zo Za;exact U)|refine Zd U Qt ?_|refine ZO Za U U U U U U U U U U U U ?_|(apply Zq 5 ZF;decide +kernel;kernel_rfl;kernel_rfl;kernel_rfl;exact U;exact U)|(apply Zt;(iterate 4 exact U))|exact AE.nil _ _ _ _|(apply Zw;exact U)|(apply Zz;exact U;exact U;decide +kernel;exact U)|(apply ZA;exact U)|exact AO.nil _ _ _|(apply Zs;(decide +kernel))|exact AOs.nil|exact ZI rfl rfl|exact W6 rfl rfl rfl rfl rfl|(apply Zu Za;(iterate 6 exact U);(first|exact Qt|rotate_left);(first|with_reducible assumption|decide +kernel|exact U);(first|exact Zj rfl|with_reducible assumption|decide +kernel|rotate_left)))
   refine Lands.mk' (m:=k'-1) (by simp at hi;omega) ⟨1,1,Zx [It.mk k1 n1 b1 l1],by simp at hi ⊢;omega,rfl,rfl,rfl,.inr ⟨rfl,rfl⟩⟩ ?_ rfl rfl rfl rfl rfl rfl
   exact .cons rfl (.cons rfl (.cons rfl (.cons rfl (.cons rfl .nil))))
 ·have hU:=Wl l
  have hU2:Uni 4 L:=hL ▸ Wl (l.take i)
  have el:=Zv (l.take i)
  rw[<- hL]at el
  subst hc
  rcases Nat.lt_or_ge i l.length with hlt|hge
  ·have hd:decide ((i:Int)<((Zx l).length:Int))=true:=decide_eq_true (by omega)
   obtain⟨⟨k1,n1,b1,l1⟩,hy⟩:∃ y,l[i]?=some y:=⟨_,List.getElem?_eq_getElem hlt⟩
   have hv:(Zx l)[((i:Nat):Int).toNat]?=some (.agg [.int .i64 k1,.int .u64 (n1:Int),.sl (b1.map E.byte),.sl (Zx l1)]):=by
    rw[Int.toNat_natCast,Yj,List.getElem?_map,hy];rfl
   have hc:=ih' _ (List.mem_of_getElem? hy)
   have ei:IntKind.i64.wrap ((i:Int)+1)=((i+1:Nat):Int):=by rw[IntWalk.i64_in _ (by omega)];omega
   have hs:L++[E.agg [.int .i64 k1,.int .u64 (n1:Int),.sl (b1.map E.byte),.sl (Zx l1)]]=Zx (l.take (i+1)):=by
    rw[hL,List.take_add_one,hy];exact(WQ _ [It.mk k1 n1 b1 l1]).symm
   rw[List.length_take]at el
   repeat'(first|(apply Zb (hc);kernel_rfl;(iterate 4 exact U))|rw[ei]|(apply Zh Za;exact U)|(apply Zg Za;exact U)|(apply Zo Za;exact U)|refine Zd U Qt ?_|refine ZO Za U U U U U U U U U U U U ?_|(apply Zq 5 ZF;decide +kernel;kernel_rfl;kernel_rfl;kernel_rfl;exact U;exact U)|(apply Zt;(iterate 4 exact U))|exact AE.nil _ _ _ _|(apply Zw;exact U)|(apply Zz;exact U;exact U;decide +kernel;exact U)|(apply ZA;exact U)|exact AO.nil _ _ _|(apply Zs;(decide +kernel))|exact AOs.nil|exact ZI rfl rfl|exact W6 rfl rfl rfl rfl rfl|(apply ZR Za;(iterate 6 exact U);(first|with_reducible assumption|decide +kernel|exact U|rotate_left);exact U;exact U;(first|exact Zj rfl|with_reducible assumption|decide +kernel|rotate_left);(first|exact Zj rfl|with_reducible assumption|decide +kernel|rotate_left);(first|exact Qt|rotate_left);(first|exact Qt|rotate_left);(first|exact Qt|rotate_left);exact U;exact U)|(apply Zu Za;(iterate 6 exact U);(first|exact Qt|rotate_left);(first|with_reducible assumption|decide +kernel|exact U);(first|exact Zj rfl|with_reducible assumption|decide +kernel|rotate_left)))
   ·refine Lands.mk' (m:=k'-1) (by omega) ⟨i+1,L.length+1,_,by omega,by rw[List.length_append];rfl,hs,rfl,.inr ⟨rfl,rfl⟩⟩ ?_ rfl rfl rfl rfl rfl rfl
    exact .cons rfl (.cons rfl (.cons rfl (.cons rfl (.cons rfl .nil))))
   all_goals(first|rfl|(simp only[List.length_append,List.length_cons,List.length_nil,List.length_map,Zv];done)|(simp only[List.length_append,List.length_cons,List.length_nil,List.length_map,Zv]at *;(try unfold maxLen);(try simp only[Nat.add_mul]);omega))
  ·have hd:decide ((i:Int)<((Zx l).length:Int))=false:=decide_eq_false (by omega)
   rw[List.take_of_length_le hge]at hL
   subst hL
   repeat'(first|(apply Zg Za;exact U)|refine Zf U Qt ?_)
   all_goals(apply Jz [] [0];(apply Zc Za;exact U);(iterate 7 exact U))
   all_goals rfl
def z0:It:=.mk 0 0 [] []
def UP (s:Nat)(l:List It):It:=.mk 4 0 [] (l++[.mk 2 0 (Uy s (ZN (ZX s l))) []])
def VU (l:List It)(a:Int):It × Int:=match decide (a<0)||decide (a ≥ (l.length:Int)) with
 | true=>(z0,1)
 | false=>match l.all ZB&&decide (Wn l a ≥ 0) with
  | false=>(z0,3)
  | true=>match decide (Wn l a>0) with
   | false=>(match ZB (.mk 4 0 [] l) with|true=>(.mk 4 0 [] l,0)|false=>(z0,3))
   | true=>(match ZB (ZX (Wn l a).toNat l) with
    | false=>(z0,3)
    | true=>match ZB (UP (Wn l a).toNat l) with
     | false=>(z0,3)
     | true=>(UP (Wn l a).toNat l,0))
abbrev J4 (r:It × Int):D:=.tup [itD r.1,.int .i64 r.2]
theorem QN (l:List It)(a:Int):Wn l a = -1\/((Wn l a=0\/Wn l a=1\/Wn l a=2)/\0<=a/\a<(l.length:Int)):=by
 unfold Wn
 split
 ·exact .inl rfl
 rename_i h0
 cases h:l[a.toNat]? with
 | none=>exact .inl rfl
 | some x=>
  obtain⟨k,n,b,r⟩:=x
  have hlt:=(List.getElem?_eq_some_iff.1 h).1
  dsimp only
  cases t:decide ((n:Int)>2) with
  | true=>exact .inl rfl
  | false=>
   have:=of_decide_eq_false t
   cases It.beq (.mk k n b r) (.mk 0 n [] []) with
   | false=>exact .inl rfl
   | true=>dsimp only;omega
theorem BP {s:Nat}{l:List It}(hs:s=1\/s=2)(hws:wfs l)(hl:l.length<=1000000):wfI (UP s l):=by
 refine⟨by decide,by simp,by simp;omega,Kk hws ⟨⟨by decide,?_,by simp,trivial⟩,trivial⟩⟩
 rw[KR _ _ hs]
 omega
theorem Nm [Known][KnownU8](l:List It)(a:Int)(hws:wfs l)(hl:l.length<=1000000)(hlim:∀ s,s=1\/s=2->(ZN (ZX s l)).length<=1000000000):AP Tryz.prog 138 [.sl .ext (Zx l),.int .i64 a] (J4 (VU l a)) []:=by
 have hlen:=Zv l
 have hU:=Wl l
 have hC:=LJ l hws hl
 have hT:=Me l hws a
 unfold VU
 rw[<- hlen]
 rcases Int.lt_or_le a 0 with h0|h0
 ·have t1:decide (a<0)=true:=decide_eq_true h0
  rw[t1,Bool.true_or]
  dsimp only[z0]
  refine AP.ofA (Zl Tryz.func138 U Tryz.ntmps138 U U ?_)
  repeat'(first|(apply Zh Za;exact U)|(apply Zg Za;exact U)|(apply Zo Za;exact U)|refine Zn U U U Qt ?_|refine Zk U Qt U U ?_|refine Zd U Qt ?_)
  all_goals exact Qe
 have t1:decide (a<0)=false:=decide_eq_false (by omega)
 rw[t1,Bool.false_or]
 cases t2:decide (a ≥ ((Zx l).length:Int)) with
 | true=>
  dsimp only[z0]
  refine AP.ofA (Zl Tryz.func138 U Tryz.ntmps138 U U ?_)
  repeat'(first|(apply Zh Za;exact U)|(apply Zg Za;exact U)|(apply Zo Za;exact U)|refine Ze U U U Qt ?_|refine Zi U Qt U U ?_|refine Zd U Qt ?_|refine Zm Za U U U U ?_)
  all_goals exact Qe
 | false=>
 have hne:l ≠ []:=by rintro rfl;have:=of_decide_eq_false t2;simp[Zx]at this;omega
 cases hA:l.all ZB with
 | false=>
  rw[hA]at hC
  replace hC:AP Tryz.prog 162 _ (.bool true) []:=hC
  rw[Bool.false_and]
  dsimp only[z0]
  generalize Wn l a=tv at *
  refine AP.ofA (Zl Tryz.func138 U Tryz.ntmps138 U U ?_)
  repeat'(first|(apply Zb (hC);kernel_rfl;(iterate 4 exact U))|(apply Zb (hT);kernel_rfl;(iterate 4 exact U))|(apply Zh Za;exact U)|(apply Zg Za;exact U)|(apply Zo Za;exact U)|refine Ze U U U Qt ?_|refine Zn U U U Qt ?_|refine Zk U Qt U U ?_|refine Zi U Qt U U ?_|refine Zd U Qt ?_|refine Zf U Qt ?_|refine Zm Za U U U U ?_)
  all_goals exact Qe
 | true=>
  rw[hA]at hC
  replace hC:AP Tryz.prog 162 _ (.bool false) []:=hC
  rw[Bool.true_and]
  rcases QN l a with e|⟨e|e,_,_⟩
  ·rw[e]at hT ⊢
   dsimp only[z0]
   refine AP.ofA (Zl Tryz.func138 U Tryz.ntmps138 U U ?_)
   repeat'(first|(apply Zb (hC);kernel_rfl;(iterate 4 exact U))|(apply Zb (hT);kernel_rfl;(iterate 4 exact U))|(apply Zh Za;exact U)|(apply Zg Za;exact U)|(apply Zo Za;exact U)|refine Ze U U U Qt ?_|refine Zi U Qt U U ?_|refine Zd U Qt ?_|refine Zf U Qt ?_|refine Zm Za U U U U ?_)
   all_goals exact Qe
  ·rw[e]at hT ⊢
   have hL:=Ur l (by omega) hws
   have hR:=WH (.mk 4 0 [] l) ⟨by decide,by simp,by omega,hws⟩
   cases hr:ZB (.mk 4 0 [] l) with
   | false=>
    rw[hr]at hR
    dsimp only[z0]
    refine AP.ofA (Zl Tryz.func138 U Tryz.ntmps138 U U ?_)
    repeat'(first|(apply Zb (hC);kernel_rfl;(iterate 4 exact U))|(apply Zb (hT);kernel_rfl;(iterate 4 exact U))|(apply Zb (hL);kernel_rfl;(iterate 4 exact U))|(apply Zb (hR);kernel_rfl;(iterate 4 exact U))|(apply Zh Za;exact U)|(apply Zg Za;exact U)|(apply Zo Za;exact U)|refine Ze U U U Qt ?_|refine Zi U Qt U U ?_|refine Zd U Qt ?_|refine Zf U Qt ?_|refine Zm Za U U U U ?_)
    all_goals exact Qe
   | true=>
    rw[hr]at hR
    refine AP.ofA (Zl Tryz.func138 U Tryz.ntmps138 U U ?_)
    repeat'(first|(apply Zb (hC);kernel_rfl;(iterate 4 exact U))|(apply Zb (hT);kernel_rfl;(iterate 4 exact U))|(apply Zb (hL);kernel_rfl;(iterate 4 exact U))|(apply Zb (hR);kernel_rfl;(iterate 4 exact U))|(apply Zh Za;exact U)|(apply Zg Za;exact U)|(apply Zo Za;exact U)|refine Ze U U U Qt ?_|refine Zi U Qt U U ?_|refine Zf U Qt ?_|refine Zm Za U U U U ?_)
    all_goals exact Qe
  ·obtain⟨s,hs,es⟩:∃ s:Nat,(s=1\/s=2)/\Wn l a=(s:Int):=⟨(Wn l a).toNat,by omega,by omega⟩
   rw[es]at hT ⊢
   rw[Int.toNat_natCast]
   have hS:=LO l s hs hne hws hl (hlim s hs)
   have hL:=LP l hne (by omega) hws
   have hsl:=KR s (ZN (ZX s l)) hs
   have hB:=KE (Uy s (ZN (ZX s l))) (by omega)
   have hR:=WH (UP s l) (BP hs hws hl)
   have hmx:(Zx l).length<=1000000:=by omega
   have d1:decide ((s:Int)<0)=false:=decide_eq_false (by omega)
   have d2:decide ((s:Int)>0)=true:=decide_eq_true (by omega)
   have d3:decide ((s:Int) ≥ 0)=true:=decide_eq_true (by omega)
   rw[d2,d3]
   cases hz:ZB (ZX s l) with
   | false=>
    rw[hz]at hS
    dsimp only[z0]
    dsimp only at hS
    refine AP.ofA (Zl Tryz.func138 U Tryz.ntmps138 U U ?_)
    repeat'(first|(apply Zb (hC);kernel_rfl;(iterate 4 exact U))|(apply Zb (hT);kernel_rfl;(iterate 4 exact U))|(apply Yn [] [] (hL);kernel_rfl;(iterate 10 exact U))|(apply Zb (hS);kernel_rfl;(iterate 4 exact U))|(apply Zh Za;exact U)|(apply Zg Za;exact U)|(apply Zo Za;exact U)|refine Ze U U U Qt ?_|refine Zi U Qt U U ?_|refine Zd U Qt ?_|refine Zf U Qt ?_|refine Zm Za U U U U ?_)
    all_goals exact Qe
   | true=>
    rw[hz]at hS
    dsimp only at hS ⊢
    have eO:itD (UP s l)=.agg [.int .i64 4,.int .u64 0,.sl .ext [],.sl .ext (Zx l++[.agg [.int .i64 2,.int .u64 0,.sl ((Uy s (ZN (ZX s l))).map E.byte),.sl []]])]:=by
     show D.agg [.int .i64 4,.int .u64 0,.sl .ext [],.sl .ext (Zx (l++[.mk 2 0 (Uy s (ZN (ZX s l))) []]))]=_
     rw[WQ]
     rfl
    cases hr:ZB (UP s l) with
    | false=>
     rw[hr,eO]at hR
     dsimp only[z0]
     generalize Uy s (ZN (ZX s l))=SB at *
     refine AP.ofA (Zl Tryz.func138 U Tryz.ntmps138 U U ?_)
     repeat'(first|(apply Zb (hC);kernel_rfl;(iterate 4 exact U))|(apply Zb (hT);kernel_rfl;(iterate 4 exact U))|(apply Yn [] [] (hL);kernel_rfl;(iterate 10 exact U))|(apply Zb (hS);kernel_rfl;(iterate 4 exact U))|(apply Zb (hB);kernel_rfl;(iterate 4 exact U))|(apply Zb (hR);kernel_rfl;(iterate 4 exact U))|(apply Zh Za;exact U)|(apply Zg Za;exact U)|(apply Zo Za;exact U)|refine Ze U U U Qt ?_|refine Zi U Qt U U ?_|refine Zd U Qt ?_|refine Zf U Qt ?_|refine Zm Za U U U U ?_|refine ZO Za U U U U U U U U U U U U ?_|(apply Zq 5 ZF;decide +kernel;kernel_rfl;kernel_rfl;kernel_rfl;exact U;exact U)|(apply Zt;(iterate 4 exact U))|exact AE.nil _ _ _ _|(apply Zw;exact U)|(apply Zz;exact U;exact U;decide +kernel;exact U)|(apply ZA;exact U)|exact AO.nil _ _ _|(apply Zs;(decide +kernel))|exact AOs.nil|exact ZI rfl rfl|exact W6 rfl rfl rfl rfl rfl|(apply ZR Za;(iterate 6 exact U);(first|with_reducible assumption|decide +kernel|exact U|rotate_left);exact U;exact U;(first|exact Zj rfl|with_reducible assumption|decide +kernel|rotate_left);(first|exact Zj rfl|with_reducible assumption|decide +kernel|rotate_left);(first|exact Qt|rotate_left);(first|exact Qt|rotate_left);(first|exact Qt|rotate_left);exact U;exact U))
     all_goals first|((apply Zp [];(apply Zc Za;exact U);(iterate 4 exact U)))|skip
     all_goals first|rfl|(first|rfl|(simp only[List.length_append,List.length_cons,List.length_nil,List.length_map,Zv];done)|(simp only[List.length_append,List.length_cons,List.length_nil,List.length_map,Zv]at *;(try unfold maxLen);(try simp only[Nat.add_mul]);omega))|(simp;done)|(simp;omega)|(simp;unfold maxLen;omega)
    | true=>
     rw[hr,eO]at hR
     dsimp only[J4]
     rw[eO]
     generalize Uy s (ZN (ZX s l))=SB at *
     refine AP.ofA (Zl Tryz.func138 U Tryz.ntmps138 U U ?_)
     repeat'(first|(apply Zb (hC);kernel_rfl;(iterate 4 exact U))|(apply Zb (hT);kernel_rfl;(iterate 4 exact U))|(apply Yn [] [] (hL);kernel_rfl;(iterate 10 exact U))|(apply Zb (hS);kernel_rfl;(iterate 4 exact U))|(apply Zb (hB);kernel_rfl;(iterate 4 exact U))|(apply Zb (hR);kernel_rfl;(iterate 4 exact U))|(apply Zh Za;exact U)|(apply Zg Za;exact U)|(apply Zo Za;exact U)|refine Ze U U U Qt ?_|refine Zi U Qt U U ?_|refine Zd U Qt ?_|refine Zf U Qt ?_|refine Zm Za U U U U ?_|refine ZO Za U U U U U U U U U U U U ?_|(apply Zq 5 ZF;decide +kernel;kernel_rfl;kernel_rfl;kernel_rfl;exact U;exact U)|(apply Zt;(iterate 4 exact U))|exact AE.nil _ _ _ _|(apply Zw;exact U)|(apply Zz;exact U;exact U;decide +kernel;exact U)|(apply ZA;exact U)|exact AO.nil _ _ _|(apply Zs;(decide +kernel))|exact AOs.nil|exact ZI rfl rfl|exact W6 rfl rfl rfl rfl rfl|(apply ZR Za;(iterate 6 exact U);(first|with_reducible assumption|decide +kernel|exact U|rotate_left);exact U;exact U;(first|exact Zj rfl|with_reducible assumption|decide +kernel|rotate_left);(first|exact Zj rfl|with_reducible assumption|decide +kernel|rotate_left);(first|exact Qt|rotate_left);(first|exact Qt|rotate_left);(first|exact Qt|rotate_left);exact U;exact U))
     all_goals first|((apply Zp [];(apply Zc Za;exact U);(iterate 4 exact U)))|skip
     all_goals first|rfl|(first|rfl|(simp only[List.length_append,List.length_cons,List.length_nil,List.length_map,Zv];done)|(simp only[List.length_append,List.length_cons,List.length_nil,List.length_map,Zv]at *;(try unfold maxLen);(try simp only[Nat.add_mul]);omega))|(simp;done)|(simp;omega)|(simp;unfold maxLen;omega)
theorem BQ (l:List Nat):Uni 1 (l.map fun n:Nat=>E.int .u64 (n:Int)):=Uni.map (f:=fun n:Nat=>E.int .u64 (n:Int)) (fun _=>rfl) l
def Jk (n:Nat):Bool:=decide ((n:Int)<1)||decide ((n:Int)>255)
theorem KS [Known](n:Nat):AP Tryz.prog 160 [.int .u64 (n:Int)] (.bool (Jk n)) []:=by
 unfold Jk
 refine AP.ofA (Zl Tryz.func160 U Tryz.ntmps160 U U ?_)
 repeat'(first|(apply Zh Za;exact U)|(apply Zg Za;exact U)|(apply Ze;(iterate 3 exact U);(first|with_reducible assumption|(solve|simp only[bn])))|(apply Zn;(iterate 3 exact U);(first|with_reducible assumption|(solve|simp only[bn])))|(apply Ys;exact U;exact U;all_goals intro hb)|(apply Zk;exact U;(first|with_reducible assumption|(solve|simp only[bn]));exact U;exact U)|(apply Zi;exact U;(first|with_reducible assumption|(solve|simp only[bn]));exact U;exact U))
 all_goals(apply Zp [];(apply Zc Za;exact U);(iterate 4 exact U))
 all_goals first|rfl|(simp only[*];done)|(simp only[*];rfl)
def Fs:Bool->Bool->Int
 | true,_=>0
 | false,true=>1
 | false,false => -1
theorem SI [Known](a b:Nat)(x y:Bool)(hx:Jk a=x)(hy:Jk b=y):AP Tryz.prog 184 [.sl .ext [.int .u64 (a:Int),.int .u64 (b:Int)],.fn 160 []] (.int .i64 (Fs x y)) []:=by
 have ga:=KS a
 have gb:=KS b
 rw[hx]at ga
 rw[hy]at gb
 have hU:=BQ [a,b]
 have q0:decide ((0:Int)<(([.int .u64 (a:Int),.int .u64 (b:Int)]:List E).length:Int))=true:=rfl
 have q1:decide ((1:Int)<(([.int .u64 (a:Int),.int .u64 (b:Int)]:List E).length:Int))=true:=rfl
 have q2:decide ((2:Int)<(([.int .u64 (a:Int),.int .u64 (b:Int)]:List E).length:Int))=false:=rfl
 have e1:IntKind.i64.wrap (0+1)=1:=by decide
 have e2:IntKind.i64.wrap (1+1)=2:=by decide
 cases x<;>cases y
 all_goals
  refine AP.ofA (Zl Tryz.func184 U Tryz.ntmps184 U U ?_)
  repeat'(first|rw[e1]|rw[e2]|(apply V8 (ga);exact U;kernel_rfl;(iterate 3 exact U))|(apply V8 (gb);exact U;kernel_rfl;(iterate 3 exact U))|refine Zu Za U U U U U U (by decide) U hU ?_|refine Yo 20 ?_|refine YH ?_|(apply Zh Za;exact U)|(apply Zg Za;exact U)|(apply Zo Za;exact U)|refine Zd U Qt ?_|refine Zf U Qt ?_|refine Z0 ?_|refine Zm Za U U U U ?_)
  all_goals exact Qe
theorem LQ [Known](a b:Nat):AP Tryz.prog 159 [.sl .ext [.int .u64 (a:Int),.int .u64 (b:Int)],.fn 160 []] (.bool (Jk a||Jk b)) []:=by
 cases hx:Jk a<;>cases hy:Jk b
 all_goals
  have hI:=SI a b _ _ hx hy
  refine AP.ofA (Zl Tryz.func159 U Tryz.ntmps159 U U ?_)
  repeat'(first|(apply Zb (hI);kernel_rfl;(iterate 4 exact U))|(apply Zh Za;exact U)|(apply Zg Za;exact U))
  all_goals exact Qe
theorem Th [Known](a b:Nat):AP Tryz.prog 130 [.sl .ext [.int .u64 (a:Int),.int .u64 (b:Int)]] (.bool (!(Jk a||Jk b))) []:=by
 have hI:=LQ a b
 refine AP.ofA (Zl Tryz.func130 U Tryz.ntmps130 U U ?_)
 repeat'(first|(apply Zb (hI);kernel_rfl;(iterate 4 exact U))|(apply Zh Za;exact U)|(apply Zg Za;exact U))
 all_goals exact Qe
theorem GW [Known]:AT Tryz.prog 64 [.sl .nil []] [] [] (.agg [.int .i64 4,.int .u64 0,.sl .nil [],.sl .nil []]) [] []:=by
 refine Zl Tryz.func64 rfl Tryz.ntmps64 rfl rfl ?_
 repeat'(first|refine Yo 20 ?_|refine YH ?_|(apply Zh Za;exact U)|(apply Zg Za;exact U)|refine Zf U Qt ?_|refine Zm Za U U U U ?_)
 all_goals(apply Jz [] [];(apply Zc Za;exact U);(iterate 7 exact U))
 all_goals rfl
abbrev nmE (n:Nat):E:=.agg [.int .i64 0,.int .u64 (n:Int),.sl [],.sl []]
theorem XY [Known](a b:Nat):AP Tryz.prog 97 [.sl .ext [.int .u64 (a:Int),.int .u64 (b:Int)]] (.agg [.int .i64 4,.int .u64 0,.sl .ext [],.sl .ext [nmE a,nmE b]]) []:=by
 have ga:=Wc a
 have gb:=Wc b
 have hL:=GW
 have hU:=BQ [a,b]
 have e1:IntKind.i64.wrap (0+1)=1:=by decide
 have e2:IntKind.i64.wrap (1+1)=2:=by decide
 have hU4:∀(l:List Nat),Uni 4 (l.map nmE):=fun l=>Uni.map (f:=nmE) (fun _=>rfl) l
 have q0:decide ((0:Int)<(([.int .u64 (a:Int),.int .u64 (b:Int)]:List E).length:Int))=true:=rfl
 have q1:decide ((1:Int)<(([.int .u64 (a:Int),.int .u64 (b:Int)]:List E).length:Int))=true:=rfl
 have q2:decide ((2:Int)<(([.int .u64 (a:Int),.int .u64 (b:Int)]:List E).length:Int))=false:=rfl
 have hu1:=hU4 [a]
 have hu2:=hU4 [a,b]
 refine AP.ofA (Zl Tryz.func97 U Tryz.ntmps97 U U ?_)
 repeat'(first|rw[e1]|rw[e2]|(apply Yn [] [] (hL);kernel_rfl;(iterate 10 exact U))|(apply Zb (ga);kernel_rfl;(iterate 4 exact U))|(apply Zb (gb);kernel_rfl;(iterate 4 exact U))|refine Zu Za U U U U U U (by decide) U hU ?_|refine Yo 20 ?_|refine YH ?_|refine Wk Za U U U U U U U U U U U (Zj rfl) (Zj rfl) (List.cons_ne_nil _ _) Qd Qd U U ?_|refine ZT Za U U U U U U (Zj rfl) (List.cons_ne_nil _ _) U Qd Qd U U U ?_|(apply Zh Za;exact U)|(apply Zg Za;exact U)|(apply Zo Za;exact U)|refine Zd U Qt ?_|refine Zf U Qt ?_|refine Zm Za U U U U ?_|refine ZO Za U U U U U U U U U U U U ?_|(apply Zq 5 ZF;decide +kernel;kernel_rfl;kernel_rfl;kernel_rfl;exact U;exact U)|(apply Zt;(iterate 4 exact U))|exact AE.nil _ _ _ _|(apply Zw;exact U)|(apply Zz;exact U;exact U;decide +kernel;exact U)|(apply ZA;exact U)|exact AO.nil _ _ _|(apply Zs;(decide +kernel))|exact AOs.nil|exact ZI rfl rfl|exact W6 rfl rfl rfl rfl rfl)
 all_goals exact Qe
theorem GX [Known](a b c d:Nat):AT Tryz.prog 97 [.sl .ext [.int .u64 (a:Int),.int .u64 (b:Int),.int .u64 (c:Int),.int .u64 (d:Int)]] [] [] (.agg [.int .i64 4,.int .u64 0,.sl .nil [],.sl (.own 0) [nmE a,nmE b,nmE c,nmE d]]) [] [⟨4,4,115⟩]:=by
 have ga:=Wc a
 have gb:=Wc b
 have gc:=Wc c
 have gd:=Wc d
 have hL:=GW
 have hU:=BQ [a,b,c,d]
 have e1:IntKind.i64.wrap (0+1)=1:=by decide
 have e2:IntKind.i64.wrap (1+1)=2:=by decide
 have e3:IntKind.i64.wrap (2+1)=3:=by decide
 have e4:IntKind.i64.wrap (3+1)=4:=by decide
 have hU4:∀(l:List Nat),Uni 4 (l.map nmE):=fun l=>Uni.map (f:=nmE) (fun _=>rfl) l
 have q0:decide ((0:Int)<(([.int .u64 (a:Int),.int .u64 (b:Int),.int .u64 (c:Int),.int .u64 (d:Int)]:List E).length:Int))=true:=rfl
 have q1:decide ((1:Int)<(([.int .u64 (a:Int),.int .u64 (b:Int),.int .u64 (c:Int),.int .u64 (d:Int)]:List E).length:Int))=true:=rfl
 have q2:decide ((2:Int)<(([.int .u64 (a:Int),.int .u64 (b:Int),.int .u64 (c:Int),.int .u64 (d:Int)]:List E).length:Int))=true:=rfl
 have q3:decide ((3:Int)<(([.int .u64 (a:Int),.int .u64 (b:Int),.int .u64 (c:Int),.int .u64 (d:Int)]:List E).length:Int))=true:=rfl
 have q4:decide ((4:Int)<(([.int .u64 (a:Int),.int .u64 (b:Int),.int .u64 (c:Int),.int .u64 (d:Int)]:List E).length:Int))=false:=rfl
 have hu1:=hU4 [a]
 have hu2:=hU4 [a,b]
 have hu3:=hU4 [a,b,c]
 have hu4:=hU4 [a,b,c,d]
 refine Zl Tryz.func97 rfl Tryz.ntmps97 rfl rfl ?_
 repeat'(first|rw[e1]|rw[e2]|rw[e3]|rw[e4]|(apply Yn [] [] (hL);kernel_rfl;(iterate 10 exact U))|(apply Zb (ga);kernel_rfl;(iterate 4 exact U))|(apply Zb (gb);kernel_rfl;(iterate 4 exact U))|(apply Zb (gc);kernel_rfl;(iterate 4 exact U))|(apply Zb (gd);kernel_rfl;(iterate 4 exact U))|refine Zu Za U U U U U U (by decide) U hU ?_|refine Yo 20 ?_|refine YH ?_|refine Wk Za U U U U U U U U U U U (Zj rfl) (Zj rfl) (List.cons_ne_nil _ _) Qd Qd U U ?_|refine ZT Za U U U U U U (Zj rfl) (List.cons_ne_nil _ _) U Qd Qd U U U ?_|(apply Zh Za;exact U)|(apply Zg Za;exact U)|(apply Zo Za;exact U)|refine Zd U Qt ?_|refine Zf U Qt ?_|refine Zm Za U U U U ?_|refine ZO Za U U U U U U U U U U U U ?_|(apply Zq 5 ZF;decide +kernel;kernel_rfl;kernel_rfl;kernel_rfl;exact U;exact U)|(apply Zt;(iterate 4 exact U))|exact AE.nil _ _ _ _|(apply Zw;exact U)|(apply Zz;exact U;exact U;decide +kernel;exact U)|(apply ZA;exact U)|exact AO.nil _ _ _|(apply Zs;(decide +kernel))|exact AOs.nil|exact ZI rfl rfl|exact W6 rfl rfl rfl rfl rfl)
 all_goals(apply Jz [] [0];(apply Zc Za;exact U);(iterate 7 exact U))
 all_goals rfl
def WM (c:UInt8):List UInt8->List UInt8 × List UInt8 × Bool
 | []=>([],[],false)
 | x::s=>if x=c then([],s,true) else(x::(WM c s).1,(WM c s).2.1,(WM c s).2.2)
theorem Nn {c:UInt8}:∀ {s:List UInt8},c ∉ s->WM c s=(s,[],false)
 | [],_=>rfl
 | x::s,h=>by
  have h1:¬ x=c:=fun e=>h (by rw[e];exact List.mem_cons_self ..)
  have h2:=Nn (c:=c) (s:=s) fun hm=>h (List.mem_cons_of_mem _ hm)
  rw[WM,if_neg h1,h2]
theorem Uj {c:UInt8}:∀ {a b:List UInt8},c ∉ a->WM c (a++c::b)=(a,b,true)
 | [],b,_=>by rw[List.nil_append,WM,if_pos rfl]
 | x::a,b,h=>by
  have h1:¬ x=c:=fun e=>h (by rw[e];exact List.mem_cons_self ..)
  have h2:=Uj (c:=c) (a:=a) (b:=b) fun hm=>h (List.mem_cons_of_mem _ hm)
  rw[List.cons_append,WM,if_neg h1,h2]
theorem Jc {c:UInt8}:∀ {s:List UInt8},(WM c s).2.2=true->s=(WM c s).1++c::(WM c s).2.1
 | [],h=>by rw[WM]at h;cases h
 | x::s,h=>by
  rw[WM]at h ⊢
  by_cases e:x=c
  ·rw[if_pos e];rw[e];rfl
  ·rw[if_neg e]at h ⊢
   have:=Jc (c:=c) (s:=s) h
   dsimp only
   rw[List.cons_append,<- this]
def Vc (p s:List UInt8):List UInt8 × Bool:=if s.take p.length==p then(s.drop p.length,true) else(s,false)
theorem QO (p r:List UInt8):Vc p (p++r)=(r,true):=by
 unfold Vc
 rw[List.take_left,beq_self_eq_true,if_pos rfl,List.drop_left]
theorem No {p s:List UInt8}(h:(s.take p.length==p)=false):Vc p s=(s,false):=by
 unfold Vc;rw[h];rfl
theorem Jd {p s:List UInt8}(h:(Vc p s).2=true):s=p++(Vc p s).1:=by
 unfold Vc at h ⊢
 split at h
 ·rename_i hp
  rw[if_pos hp]
  have:=beq_iff_eq.1 hp
  conv=>lhs;rw[<- List.take_append_drop p.length s,this]
 ·cases h
def ppV (s:List UInt8):EidV × Bool:=
 (⟨false,0,0,(WM 47 (Vc [47,47] s).1).1,(WM 47 (Vc [47,47] s).1).2.1⟩,(Vc [47,47] s).2&&((WM 47 (Vc [47,47] s).1).2.2&&((WM 47 (Vc [47,47] s).1).1 != []&&ZE ⟨false,0,0,(WM 47 (Vc [47,47] s).1).1,(WM 47 (Vc [47,47] s).1).2.1⟩)))
def Ut:List UInt8:=[100,116,110,58,110,111,110,101]
def Vw:List UInt8:=[105,112,110,58]
def Uz:List UInt8:=[100,116,110,58]
theorem Vx {x:EidV}:isZ x=true ↔ x=Wm:=by
 obtain⟨i,n,s,h,d⟩:=x
 simp only[isZ,Wm,Bool.and_eq_true,beq_iff_eq,EidV.mk.injEq]
 constructor
 ·rintro⟨h1,h2,h3,h4,h5,_⟩
  exact⟨h1,by omega,by omega,h4,h5⟩
 ·rintro⟨h1,h2,h3,h4,h5⟩
  exact⟨h1,by omega,by omega,h4,h5,trivial⟩
theorem JD {m:Nat}{c:UInt8}{l:List UInt8}(hl:l.all (okB m)=true)(h:okB m c=false):c ∉ l:=fun hm=>by
 have:=List.all_eq_true.1 hl c hm
 rw[h]at this;cases this
set_option maxRecDepth 100000 in
theorem LR (s:ByteArray)(c:Int)(w:World):Calls Tryz.prog 201 #[.string s,.int .u8 c] w fun e w'=>e=.returned (.int .i64 (Lib.indexByte s.data.toList c.toNat.toUInt8))/\w'=w:=by
 go_enter Tryz.func201,Tryz.ntmps201
 go_wp2
 rw[run_callFunc_extern Tryz.func206 (by kernel_rfl) (by kernel_rfl) (by kernel_rfl) (e:=Extern.BytealgIndexByte.indexByte) (by kernel_rfl),Lib.run_indexByteString]
 simp only[Result.andThen]
 rw[Oper.upon_value]
 go_wp2
 go_ret
 exact⟨rfl,rfl⟩
theorem BR [Known](s:List UInt8)(c:Int):AP Tryz.prog 201 [.str s,.int .u8 c] (.int .i64 (Lib.indexByte s c.toNat.toUInt8)) []:=by
 refine⟨fun g w vs hmem hl hv=>?_⟩
 obtain⟨v0,v1,rfl⟩:∃ v0 v1,vs=[v0,v1]:=by
  match vs,hl with
  | [v0,v1],_=>exact⟨v0,v1,rfl⟩
 have h0:=(hv 0 _ _ rfl rfl).str_inv.1
 have h1:=(hv 1 _ _ rfl rfl).int_inv
 subst h0 h1
 exact(LR ⟨s.toArray⟩ c w).mono fun e w' ⟨he,hb⟩=>Gt hmem (hb ▸ Below.refl _ _) he (.int _ _)
end Go.Proofs.YtmljabhmajehnaaGreatDoor
end
