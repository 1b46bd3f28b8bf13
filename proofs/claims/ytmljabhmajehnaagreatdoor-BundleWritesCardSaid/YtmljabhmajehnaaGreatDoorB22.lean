/- Package primary: the sum of a list's bytes. -/
import Derived.Test.YtmljabhmajehnaaGreatDoorB21
import Derived.Test.YtmljabhmajehnaaGreatDoorB20
set_option linter.unusedVariables false
set_option linter.unusedSimpArgs false
section
open Go.RowKit Go.Pl Go.Av
namespace Go.Proofs.YtmljabhmajehnaaGreatDoor
set_option maxHeartbeats 4000000
def ZP (s:Nat)(l:List It):It:=.mk 4 0 [] (l++[.mk 2 0 (List.replicate (2*s) 0) []])
abbrev shU (k:IntKind)(z:Int)(q:Int):Int:=IntKind.u8.wrap (z.fdiv (2 ^ (min q.toNat k.bits)))
def Sk (s:Nat)(b:List UInt8):List E:=
 if s=1 then [.int .u8 (shU .u16 (Qa b) 8),.int .u8 (IntKind.u8.wrap (Qa b))]
 else [.int .u8 (shU .u32 (UI b) 24),.int .u8 (shU .u32 (UI b) 16),.int .u8 (shU .u32 (UI b) 8),.int .u8 (IntKind.u8.wrap (UI b))]
def by8 (z:Int):UInt8:=UInt8.ofNat (IntKind.u8.wrap z).toNat
theorem Di (z:Int):E.byte (by8 z)=.int .u8 (IntKind.u8.wrap z):=by
 have h:0<=IntKind.u8.wrap z/\IntKind.u8.wrap z<256:=by
  rw[IntKind.wrap_u8];omega
 show E.int .u8 ((by8 z).toNat:Int)=_
 have e:((by8 z).toNat:Int)=IntKind.u8.wrap z:=by
  unfold by8
  rw[UInt8.toNat_ofNat']
  omega
 rw[e]
def VC (s:Nat)(b:List UInt8):List UInt8:=
 if s=1 then [by8 ((Qa b).fdiv (2 ^ (min (8:Int).toNat IntKind.u16.bits))),by8 (Qa b)]
 else [by8 ((UI b).fdiv (2 ^ (min (24:Int).toNat IntKind.u32.bits))),by8 ((UI b).fdiv (2 ^ (min (16:Int).toNat IntKind.u32.bits))),by8 ((UI b).fdiv (2 ^ (min (8:Int).toNat IntKind.u32.bits))),by8 (UI b)]
theorem H9 (s:Nat)(b:List UInt8):(VC s b).map E.byte=Sk s b:=by
 unfold VC Sk
 split<;>simp only[List.map_cons,List.map_nil,Di]
theorem JY (s:Nat)(b:List UInt8)(hs:s=1\/s=2):(VC s b).length=2*s:=by
 unfold VC
 rcases hs with rfl|rfl<;>rfl
theorem X8:∀ {l r:List It},wfs l->wfs r->wfs (l++r)
 | [],r,_,h=>h
 | x::l,r,h1,h2=>⟨h1.1,X8 h1.2 h2⟩
theorem Na {s:Nat}{l:List It}(hs:s=1\/s=2)(hws:wfs l)(hl:l.length<=1000000):wfI (ZP s l):=by
 refine⟨by decide,by simp,by simp;omega,X8 hws ⟨⟨by decide,?_,by simp,trivial⟩,trivial⟩⟩
 rcases hs with rfl|rfl<;>decide
theorem KF [Known](s:Nat)(hs:s=1\/s=2):AP Tryz.prog 145 [.int .i64 (s:Int)] (.int .i64 ((2*s:Nat):Int)) []:=by
 rcases hs with rfl|rfl
 all_goals
  refine AP.ofA (Zl Tryz.func145 U Tryz.ntmps145 U U ?_)
  repeat'(first|(apply Zg Za;exact U))
  all_goals exact Qe
theorem GR [Known][KnownU8](l:List It)(s:Nat)(hs:s=1\/s=2)(hne:l ≠ [])(hws:wfs l)(hl:l.length<=1000000)(hlim:(ZM (ZP s l)).length<=1000000000) :
  AP Tryz.prog 146 [.sl .ext (Zv l),.int .i64 (s:Int)] (match ZB (ZP s l) with|true=>.tup [byE (VC s (ZM (ZP s l))),.int .i64 0]|false=>.tup [.sl .ext [],.int .i64 3]) []:=by
 have hwz:=Na hs hws hl
 have hC:=NW l hne hl
 have hW:=OM (ZP s l) hwz (by omega) (WD _ hwz)
 have hU:=YH l
 have hlen:=Zw l
 have hmx:(Zv l).length<=1000000:=by omega
 have hZ:=KF s hs
 have hB:=JU (List.replicate (2*s) 0) (by rcases hs with rfl|rfl<;>decide)
 have hL:=Vj (l++[.mk 2 0 (List.replicate (2*s) 0) []]) (by simp;omega) hwz.2.2.2
 have hSh:=Lu (ZM (ZP s l)) hlim
 have hLo:=Sj (ZM (ZP s l)) hlim
 rw[WN]at hL
 have eZ:itD (.mk 4 0 [] (l++[.mk 2 0 (List.replicate (2*s) 0) []]))=itD (ZP s l):=rfl
 rw[eZ]at hL
 unfold byE
 rw[H9]
 rw[<- hlen]at hC
 cases hr:ZB (ZP s l) with
 | false=>
  rw[hr]at hW
  replace hW:AP Tryz.prog 63 [itD (ZP s l)] (.tup [.sl .ext [],.int .i64 3]) []:=hW
  have eL:itD (ZP s l)=.agg [.int .i64 4,.int .u64 0,.sl .ext [],.sl .ext (Zv (l++[.mk 2 0 (List.replicate (2*s) 0) []]))]:=rfl
  rw[eL]at hL hW
  generalize Zv (l++[.mk 2 0 (List.replicate (2*s) 0) []])=ZL at *
  clear hSh hLo hlim hwz eZ eL
  rcases hs with rfl|rfl
  all_goals
   refine AP.ofA (Zl Tryz.func146 U Tryz.ntmps146 U U ?_)
   repeat'(first|(apply Yp [] [] (hC);kernel_rfl;(iterate 10 exact U))|(apply Zb (hZ);kernel_rfl;(iterate 4 exact U))|(apply VJ Za (l:=2);(iterate 12 exact U))|(apply VJ Za (l:=4);(iterate 12 exact U))|(apply Zb (hB);kernel_rfl;(iterate 4 exact U))|(apply Zb (hL);kernel_rfl;(iterate 4 exact U))|(apply Zb (hW);kernel_rfl;(iterate 4 exact U))|(apply Zh Za;exact U)|(apply Zg Za;exact U)|(apply Zo Za;exact U)|refine Zd U Qt ?_|refine ZO Za U U U U U U U U U U U U ?_|(apply ZS Za;(iterate 6 exact U);(first|with_reducible assumption|decide +kernel|exact U|rotate_left);exact U;exact U;(first|exact Zk rfl|with_reducible assumption|decide +kernel|rotate_left);(first|exact Zk rfl|with_reducible assumption|decide +kernel|rotate_left);(first|exact Qt|rotate_left);(first|exact Qt|rotate_left);(first|exact Qt|rotate_left);exact U;exact U))
   all_goals first|((apply Zp [];(apply Zc Za;exact U);(iterate 4 exact U)))|skip
   all_goals first|rfl|(first|rfl|(simp only[List.length_append,List.length_cons,List.length_nil,List.length_map,Zw];done)|(simp only[List.length_append,List.length_cons,List.length_nil,List.length_map,Zw]at *;(try unfold maxLen);(try simp only[Nat.add_mul]);omega))|(simp;done)|(simp;omega)|(simp;unfold maxLen;omega)
 | true=>
  rw[hr]at hW
  replace hW:AP Tryz.prog 63 [itD (ZP s l)] (.tup [byE (ZM (ZP s l)),.int .i64 0]) []:=hW
  have eL:itD (ZP s l)=.agg [.int .i64 4,.int .u64 0,.sl .ext [],.sl .ext (Zv (l++[.mk 2 0 (List.replicate (2*s) 0) []]))]:=rfl
  rw[eL]at hL hW
  generalize Zv (l++[.mk 2 0 (List.replicate (2*s) 0) []])=ZL at *
  generalize ZM (ZP s l)=PZ at *
  clear hlim hwz eZ eL hr
  rcases hs with rfl|rfl
  all_goals
   refine AP.ofA (Zl Tryz.func146 U Tryz.ntmps146 U U ?_)
   repeat'(first|(apply Yp [] [] (hC);kernel_rfl;(iterate 10 exact U))|(apply Zb (hZ);kernel_rfl;(iterate 4 exact U))|(apply VJ Za (l:=2);(iterate 12 exact U))|(apply VJ Za (l:=4);(iterate 12 exact U))|(apply Zb (hB);kernel_rfl;(iterate 4 exact U))|(apply Zb (hL);kernel_rfl;(iterate 4 exact U))|(apply Zb (hW);kernel_rfl;(iterate 4 exact U))|(apply Zb (hSh);kernel_rfl;(iterate 4 exact U))|(apply Zb (hLo);kernel_rfl;(iterate 4 exact U))|(apply Zh Za;exact U)|(apply Zg Za;exact U)|refine Zd U Qt ?_|refine Zf U Qt ?_|refine ZO Za U U U U U U U U U U U U ?_|(apply ZS Za;(iterate 6 exact U);(first|with_reducible assumption|decide +kernel|exact U|rotate_left);exact U;exact U;(first|exact Zk rfl|with_reducible assumption|decide +kernel|rotate_left);(first|exact Zk rfl|with_reducible assumption|decide +kernel|rotate_left);(first|exact Qt|rotate_left);(first|exact Qt|rotate_left);(first|exact Qt|rotate_left);exact U;exact U)|(apply YL;exact U;exact U;(first|exact Qt|rotate_left);exact U))
   all_goals first|((apply Zp [];(apply Zc Za;exact U);(iterate 4 exact U)))|skip
   all_goals first|rfl|(first|rfl|(simp only[List.length_append,List.length_cons,List.length_nil,List.length_map,Zw];done)|(simp only[List.length_append,List.length_cons,List.length_nil,List.length_map,Zw]at *;(try unfold maxLen);(try simp only[Nat.add_mul]);omega))|(simp;done)|(simp;omega)|(simp;unfold maxLen;omega)
theorem Lv [Known](l:List It)(hne:l ≠ [])(hl:l.length<=2199023255488)(hws:wfs l):AT Tryz.prog 64 [.sl .ext (Zv l)] [] [] (.agg [.int .i64 4,.int .u64 0,.sl .nil [],.sl (.own 0) (Zv l)]) [] [⟨(Zv l).length,4,115⟩]:=by
 have ih':∀ y ∈ l,AP Tryz.prog 115 [itD y] (itD y) []:=fun y hy=>OE y (Yt hws y hy)
 have hlen:=Zw l
 refine Zl Tryz.func64 rfl Tryz.ntmps64 rfl rfl ?_
 repeat'(first|(apply Zh Za;exact U)|(apply Zg Za;exact U)|refine Zm Za U U U U ?_)
 refine ZI (fun k' tm bx fr=>∃(i c:Nat) (L:List E),k'+i=l.length/\c=L.length/\L=Zv (l.take i)/\tm=[(3,.ptr 1 0),(2,.ptr 0 0),(7,.sl .ext (Zv l)),(8,.int .i64 ((Zv l).length:Int)),(9,.int .i64 (i:Int))] /\
  ((i=0/\bx=[[.int .i64 0,.int .u64 0,.sl .nil [],.sl .nil []],[.int .i64 4,.int .u64 0,.sl .nil [],.sl .nil []]]/\fr=[]) \/
  (bx=[[.int .i64 0,.int .u64 0,.sl .nil [],.sl .nil []],[.int .i64 4,.int .u64 0,.sl .nil [],.sl (.own 0) L]]/\fr=[⟨c,4,115⟩]))) (l.length+1) (Lands.mk' (m:=l.length) (Nat.lt_succ_self _) ⟨0,0,[],rfl,rfl,rfl,rfl,.inl ⟨rfl,rfl,rfl⟩⟩ ?_ rfl rfl rfl rfl rfl rfl) ?_
 ·exact .cons rfl (.cons rfl (.cons rfl (.cons rfl (.cons rfl .nil))))
 rintro k' tm bx fr ⟨i,c,L,hi,hc,hL,rfl,⟨rfl,rfl,rfl⟩ | ⟨rfl,rfl⟩⟩
 ·cases l with
  | nil=>exact absurd rfl hne
  | cons y l=>
   have hc:=ih' y (List.mem_cons_self ..)
   have hU:=YH (y::l)
   have hd:decide (((0:Nat):Int)<((Zv (y::l)).length:Int))=true:=decide_eq_true (by rw[Zv];simp)
   obtain⟨k1,n1,b1,l1⟩:=y
   repeat'(first|(apply Zb (hc);kernel_rfl;(iterate 4 exact U))|refine Z3 Za U U U U U U (Zk rfl) (List.cons_ne_nil _ _) U Qd Qd U U U ?_|(apply Zh Za;exact U)|(apply Zg Za;exact U)|(apply Zo Za;exact U)|refine Zd U Qt ?_|refine ZO Za U U U U U U U U U U U U ?_|(apply Zq 5 ZE;decide +kernel;kernel_rfl;kernel_rfl;kernel_rfl;exact U;exact U)|(apply Zt;(iterate 4 exact U))|exact AE.nil _ _ _ _|(apply Zx;exact U)|(apply Zz;exact U;exact U;decide +kernel;exact U)|(apply ZA;exact U)|exact AO.nil _ _ _|(apply Zs;(decide +kernel))|exact AOs.nil|exact ZF rfl rfl|exact WK rfl rfl rfl rfl rfl|(apply Zr Za;(iterate 6 exact U);(first|exact Qt|rotate_left);(first|with_reducible assumption|decide +kernel|exact U);(first|exact Zk rfl|with_reducible assumption|decide +kernel|rotate_left)))
   refine Lands.mk' (m:=k'-1) (by simp at hi;omega) ⟨1,1,Zv [It.mk k1 n1 b1 l1],by simp at hi ⊢;omega,rfl,rfl,rfl,.inr ⟨rfl,rfl⟩⟩ ?_ rfl rfl rfl rfl rfl rfl
   exact .cons rfl (.cons rfl (.cons rfl (.cons rfl (.cons rfl .nil))))
 ·have hU:=YH l
  have hU2:Uni 4 L:=hL ▸ YH (l.take i)
  have el:=Zw (l.take i)
  rw[<- hL]at el
  subst hc
  rcases Nat.lt_or_ge i l.length with hlt|hge
  ·have hd:decide ((i:Int)<((Zv l).length:Int))=true:=decide_eq_true (by omega)
   obtain⟨⟨k1,n1,b1,l1⟩,hy⟩:∃ y,l[i]?=some y:=⟨_,List.getElem?_eq_getElem hlt⟩
   have hv:(Zv l)[((i:Nat):Int).toNat]?=some (.agg [.int .i64 k1,.int .u64 (n1:Int),.sl (b1.map E.byte),.sl (Zv l1)]):=by
    rw[Int.toNat_natCast,Z8,List.getElem?_map,hy];rfl
   have hc:=ih' _ (List.mem_of_getElem? hy)
   have ei:IntKind.i64.wrap ((i:Int)+1)=((i+1:Nat):Int):=by rw[IntWalk.i64_in _ (by omega)];omega
   have hs:L++[E.agg [.int .i64 k1,.int .u64 (n1:Int),.sl (b1.map E.byte),.sl (Zv l1)]]=Zv (l.take (i+1)):=by
    rw[hL,List.take_add_one,hy];exact(WN _ [It.mk k1 n1 b1 l1]).symm
   rw[List.length_take]at el
   repeat'(first|(apply Zb (hc);kernel_rfl;(iterate 4 exact U))|rw[ei]|(apply Zh Za;exact U)|(apply Zg Za;exact U)|(apply Zo Za;exact U)|refine Zd U Qt ?_|refine ZO Za U U U U U U U U U U U U ?_|(apply Zq 5 ZE;decide +kernel;kernel_rfl;kernel_rfl;kernel_rfl;exact U;exact U)|(apply Zt;(iterate 4 exact U))|exact AE.nil _ _ _ _|(apply Zx;exact U)|(apply Zz;exact U;exact U;decide +kernel;exact U)|(apply ZA;exact U)|exact AO.nil _ _ _|(apply Zs;(decide +kernel))|exact AOs.nil|exact ZF rfl rfl|exact WK rfl rfl rfl rfl rfl|(apply ZS Za;(iterate 6 exact U);(first|with_reducible assumption|decide +kernel|exact U|rotate_left);exact U;exact U;(first|exact Zk rfl|with_reducible assumption|decide +kernel|rotate_left);(first|exact Zk rfl|with_reducible assumption|decide +kernel|rotate_left);(first|exact Qt|rotate_left);(first|exact Qt|rotate_left);(first|exact Qt|rotate_left);exact U;exact U)|(apply Zr Za;(iterate 6 exact U);(first|exact Qt|rotate_left);(first|with_reducible assumption|decide +kernel|exact U);(first|exact Zk rfl|with_reducible assumption|decide +kernel|rotate_left)))
   ·refine Lands.mk' (m:=k'-1) (by omega) ⟨i+1,L.length+1,_,by omega,by rw[List.length_append];rfl,hs,rfl,.inr ⟨rfl,rfl⟩⟩ ?_ rfl rfl rfl rfl rfl rfl
    exact .cons rfl (.cons rfl (.cons rfl (.cons rfl (.cons rfl .nil))))
   all_goals(first|rfl|(simp only[List.length_append,List.length_cons,List.length_nil,List.length_map,Zw];done)|(simp only[List.length_append,List.length_cons,List.length_nil,List.length_map,Zw]at *;(try unfold maxLen);(try simp only[Nat.add_mul]);omega))
  ·have hd:decide ((i:Int)<((Zv l).length:Int))=false:=decide_eq_false (by omega)
   rw[List.take_of_length_le hge]at hL
   subst hL
   repeat'(first|(apply Zg Za;exact U)|refine Zf U Qt ?_)
   all_goals(apply Js [] [0];(apply Zc Za;exact U);(iterate 7 exact U))
   all_goals rfl
def z0:It:=.mk 0 0 [] []
def VM (s:Nat)(l:List It):It:=.mk 4 0 [] (l++[.mk 2 0 (VC s (ZM (ZP s l))) []])
def Vm (l:List It)(a:Int):It × Int:=match decide (a<0)||decide (a ≥ (l.length:Int)) with
 | true=>(z0,1)
 | false=>match l.all ZB&&decide (Z4 l a ≥ 0) with
  | false=>(z0,3)
  | true=>match decide (Z4 l a>0) with
   | false=>(match ZB (.mk 4 0 [] l) with|true=>(.mk 4 0 [] l,0)|false=>(z0,3))
   | true=>(match ZB (ZP (Z4 l a).toNat l) with
    | false=>(z0,3)
    | true=>match ZB (VM (Z4 l a).toNat l) with
     | false=>(z0,3)
     | true=>(VM (Z4 l a).toNat l,0))
abbrev JZ (r:It × Int):D:=.tup [itD r.1,.int .i64 r.2]
theorem Vc (l:List It)(a:Int):Z4 l a = -1\/((Z4 l a=0\/Z4 l a=1\/Z4 l a=2)/\0<=a/\a<(l.length:Int)):=by
 unfold Z4
 split
 ·exact .inl rfl
 rename_i h0
 cases h:l[a.toNat]? with
 | none=>exact .inl rfl
 | some x=>
  obtain⟨k,n,b,r⟩:=x
  have hlt:=(List.getElem?_eq_some_iff.1 h).1
  dsimp only
  cases t:decide ((n:Int)>2) with
  | true=>exact .inl rfl
  | false=>
   have:=of_decide_eq_false t
   cases It.beq (.mk k n b r) (.mk 0 n [] []) with
   | false=>exact .inl rfl
   | true=>dsimp only;omega
theorem Bv {s:Nat}{l:List It}(hs:s=1\/s=2)(hws:wfs l)(hl:l.length<=1000000):wfI (VM s l):=by
 refine⟨by decide,by simp,by simp;omega,X8 hws ⟨⟨by decide,?_,by simp,trivial⟩,trivial⟩⟩
 rw[JY _ _ hs]
 omega
theorem Nb [Known][KnownU8](l:List It)(a:Int)(hws:wfs l)(hl:l.length<=1000000)(hlim:∀ s,s=1\/s=2->(ZM (ZP s l)).length<=1000000000):AP Tryz.prog 138 [.sl .ext (Zv l),.int .i64 a] (JZ (Vm l a)) []:=by
 have hlen:=Zw l
 have hU:=YH l
 have hC:=Lr l hws hl
 have hT:=OQ l hws a
 unfold Vm
 rw[<- hlen]
 rcases Int.lt_or_le a 0 with h0|h0
 ·have t1:decide (a<0)=true:=decide_eq_true h0
  rw[t1,Bool.true_or]
  dsimp only[z0]
  refine AP.ofA (Zl Tryz.func138 U Tryz.ntmps138 U U ?_)
  repeat'(first|(apply Zh Za;exact U)|(apply Zg Za;exact U)|(apply Zo Za;exact U)|refine Zn U U U Qt ?_|refine Zj U Qt U U ?_|refine Zd U Qt ?_)
  all_goals exact Qe
 have t1:decide (a<0)=false:=decide_eq_false (by omega)
 rw[t1,Bool.false_or]
 cases t2:decide (a ≥ ((Zv l).length:Int)) with
 | true=>
  dsimp only[z0]
  refine AP.ofA (Zl Tryz.func138 U Tryz.ntmps138 U U ?_)
  repeat'(first|(apply Zh Za;exact U)|(apply Zg Za;exact U)|(apply Zo Za;exact U)|refine Ze U U U Qt ?_|refine Zi U Qt U U ?_|refine Zd U Qt ?_|refine Zm Za U U U U ?_)
  all_goals exact Qe
 | false=>
 have hne:l ≠ []:=by rintro rfl;have:=of_decide_eq_false t2;simp[Zv]at this;omega
 cases hA:l.all ZB with
 | false=>
  rw[hA]at hC
  replace hC:AP Tryz.prog 162 _ (.bool true) []:=hC
  rw[Bool.false_and]
  dsimp only[z0]
  generalize Z4 l a=tv at *
  refine AP.ofA (Zl Tryz.func138 U Tryz.ntmps138 U U ?_)
  repeat'(first|(apply Zb (hC);kernel_rfl;(iterate 4 exact U))|(apply Zb (hT);kernel_rfl;(iterate 4 exact U))|(apply Zh Za;exact U)|(apply Zg Za;exact U)|(apply Zo Za;exact U)|refine Ze U U U Qt ?_|refine Zn U U U Qt ?_|refine Zj U Qt U U ?_|refine Zi U Qt U U ?_|refine Zd U Qt ?_|refine Zf U Qt ?_|refine Zm Za U U U U ?_)
  all_goals exact Qe
 | true=>
  rw[hA]at hC
  replace hC:AP Tryz.prog 162 _ (.bool false) []:=hC
  rw[Bool.true_and]
  rcases Vc l a with e|⟨e|e,_,_⟩
  ·rw[e]at hT ⊢
   dsimp only[z0]
   refine AP.ofA (Zl Tryz.func138 U Tryz.ntmps138 U U ?_)
   repeat'(first|(apply Zb (hC);kernel_rfl;(iterate 4 exact U))|(apply Zb (hT);kernel_rfl;(iterate 4 exact U))|(apply Zh Za;exact U)|(apply Zg Za;exact U)|(apply Zo Za;exact U)|refine Ze U U U Qt ?_|refine Zi U Qt U U ?_|refine Zd U Qt ?_|refine Zf U Qt ?_|refine Zm Za U U U U ?_)
   all_goals exact Qe
  ·rw[e]at hT ⊢
   have hL:=Vj l (by omega) hws
   have hR:=WD (.mk 4 0 [] l) ⟨by decide,by simp,by omega,hws⟩
   cases hr:ZB (.mk 4 0 [] l) with
   | false=>
    rw[hr]at hR
    dsimp only[z0]
    refine AP.ofA (Zl Tryz.func138 U Tryz.ntmps138 U U ?_)
    repeat'(first|(apply Zb (hC);kernel_rfl;(iterate 4 exact U))|(apply Zb (hT);kernel_rfl;(iterate 4 exact U))|(apply Zb (hL);kernel_rfl;(iterate 4 exact U))|(apply Zb (hR);kernel_rfl;(iterate 4 exact U))|(apply Zh Za;exact U)|(apply Zg Za;exact U)|(apply Zo Za;exact U)|refine Ze U U U Qt ?_|refine Zi U Qt U U ?_|refine Zd U Qt ?_|refine Zf U Qt ?_|refine Zm Za U U U U ?_)
    all_goals exact Qe
   | true=>
    rw[hr]at hR
    refine AP.ofA (Zl Tryz.func138 U Tryz.ntmps138 U U ?_)
    repeat'(first|(apply Zb (hC);kernel_rfl;(iterate 4 exact U))|(apply Zb (hT);kernel_rfl;(iterate 4 exact U))|(apply Zb (hL);kernel_rfl;(iterate 4 exact U))|(apply Zb (hR);kernel_rfl;(iterate 4 exact U))|(apply Zh Za;exact U)|(apply Zg Za;exact U)|(apply Zo Za;exact U)|refine Ze U U U Qt ?_|refine Zi U Qt U U ?_|refine Zf U Qt ?_|refine Zm Za U U U U ?_)
    all_goals exact Qe
  ·obtain⟨s,hs,es⟩:∃ s:Nat,(s=1\/s=2)/\Z4 l a=(s:Int):=⟨(Z4 l a).toNat,by omega,by omega⟩
   rw[es]at hT ⊢
   rw[Int.toNat_natCast]
   have hS:=GR l s hs hne hws hl (hlim s hs)
   have hL:=Lv l hne (by omega) hws
   have hsl:=JY s (ZM (ZP s l)) hs
   have hB:=JU (VC s (ZM (ZP s l))) (by omega)
   have hR:=WD (VM s l) (Bv hs hws hl)
   have hmx:(Zv l).length<=1000000:=by omega
   have d1:decide ((s:Int)<0)=false:=decide_eq_false (by omega)
   have d2:decide ((s:Int)>0)=true:=decide_eq_true (by omega)
   have d3:decide ((s:Int) ≥ 0)=true:=decide_eq_true (by omega)
   rw[d2,d3]
   cases hz:ZB (ZP s l) with
   | false=>
    rw[hz]at hS
    dsimp only[z0]
    dsimp only at hS
    refine AP.ofA (Zl Tryz.func138 U Tryz.ntmps138 U U ?_)
    repeat'(first|(apply Zb (hC);kernel_rfl;(iterate 4 exact U))|(apply Zb (hT);kernel_rfl;(iterate 4 exact U))|(apply Yp [] [] (hL);kernel_rfl;(iterate 10 exact U))|(apply Zb (hS);kernel_rfl;(iterate 4 exact U))|(apply Zh Za;exact U)|(apply Zg Za;exact U)|(apply Zo Za;exact U)|refine Ze U U U Qt ?_|refine Zi U Qt U U ?_|refine Zd U Qt ?_|refine Zf U Qt ?_|refine Zm Za U U U U ?_)
    all_goals exact Qe
   | true=>
    rw[hz]at hS
    dsimp only at hS ⊢
    have eO:itD (VM s l)=.agg [.int .i64 4,.int .u64 0,.sl .ext [],.sl .ext (Zv l++[.agg [.int .i64 2,.int .u64 0,.sl ((VC s (ZM (ZP s l))).map E.byte),.sl []]])]:=by
     show D.agg [.int .i64 4,.int .u64 0,.sl .ext [],.sl .ext (Zv (l++[.mk 2 0 (VC s (ZM (ZP s l))) []]))]=_
     rw[WN]
     rfl
    cases hr:ZB (VM s l) with
    | false=>
     rw[hr,eO]at hR
     dsimp only[z0]
     generalize VC s (ZM (ZP s l))=SB at *
     refine AP.ofA (Zl Tryz.func138 U Tryz.ntmps138 U U ?_)
     repeat'(first|(apply Zb (hC);kernel_rfl;(iterate 4 exact U))|(apply Zb (hT);kernel_rfl;(iterate 4 exact U))|(apply Yp [] [] (hL);kernel_rfl;(iterate 10 exact U))|(apply Zb (hS);kernel_rfl;(iterate 4 exact U))|(apply Zb (hB);kernel_rfl;(iterate 4 exact U))|(apply Zb (hR);kernel_rfl;(iterate 4 exact U))|(apply Zh Za;exact U)|(apply Zg Za;exact U)|(apply Zo Za;exact U)|refine Ze U U U Qt ?_|refine Zi U Qt U U ?_|refine Zd U Qt ?_|refine Zf U Qt ?_|refine Zm Za U U U U ?_|refine ZO Za U U U U U U U U U U U U ?_|(apply Zq 5 ZE;decide +kernel;kernel_rfl;kernel_rfl;kernel_rfl;exact U;exact U)|(apply Zt;(iterate 4 exact U))|exact AE.nil _ _ _ _|(apply Zx;exact U)|(apply Zz;exact U;exact U;decide +kernel;exact U)|(apply ZA;exact U)|exact AO.nil _ _ _|(apply Zs;(decide +kernel))|exact AOs.nil|exact ZF rfl rfl|exact WK rfl rfl rfl rfl rfl|(apply ZS Za;(iterate 6 exact U);(first|with_reducible assumption|decide +kernel|exact U|rotate_left);exact U;exact U;(first|exact Zk rfl|with_reducible assumption|decide +kernel|rotate_left);(first|exact Zk rfl|with_reducible assumption|decide +kernel|rotate_left);(first|exact Qt|rotate_left);(first|exact Qt|rotate_left);(first|exact Qt|rotate_left);exact U;exact U))
     all_goals first|((apply Zp [];(apply Zc Za;exact U);(iterate 4 exact U)))|skip
     all_goals first|rfl|(first|rfl|(simp only[List.length_append,List.length_cons,List.length_nil,List.length_map,Zw];done)|(simp only[List.length_append,List.length_cons,List.length_nil,List.length_map,Zw]at *;(try unfold maxLen);(try simp only[Nat.add_mul]);omega))|(simp;done)|(simp;omega)|(simp;unfold maxLen;omega)
    | true=>
     rw[hr,eO]at hR
     dsimp only[JZ]
     rw[eO]
     generalize VC s (ZM (ZP s l))=SB at *
     refine AP.ofA (Zl Tryz.func138 U Tryz.ntmps138 U U ?_)
     repeat'(first|(apply Zb (hC);kernel_rfl;(iterate 4 exact U))|(apply Zb (hT);kernel_rfl;(iterate 4 exact U))|(apply Yp [] [] (hL);kernel_rfl;(iterate 10 exact U))|(apply Zb (hS);kernel_rfl;(iterate 4 exact U))|(apply Zb (hB);kernel_rfl;(iterate 4 exact U))|(apply Zb (hR);kernel_rfl;(iterate 4 exact U))|(apply Zh Za;exact U)|(apply Zg Za;exact U)|(apply Zo Za;exact U)|refine Ze U U U Qt ?_|refine Zi U Qt U U ?_|refine Zd U Qt ?_|refine Zf U Qt ?_|refine Zm Za U U U U ?_|refine ZO Za U U U U U U U U U U U U ?_|(apply Zq 5 ZE;decide +kernel;kernel_rfl;kernel_rfl;kernel_rfl;exact U;exact U)|(apply Zt;(iterate 4 exact U))|exact AE.nil _ _ _ _|(apply Zx;exact U)|(apply Zz;exact U;exact U;decide +kernel;exact U)|(apply ZA;exact U)|exact AO.nil _ _ _|(apply Zs;(decide +kernel))|exact AOs.nil|exact ZF rfl rfl|exact WK rfl rfl rfl rfl rfl|(apply ZS Za;(iterate 6 exact U);(first|with_reducible assumption|decide +kernel|exact U|rotate_left);exact U;exact U;(first|exact Zk rfl|with_reducible assumption|decide +kernel|rotate_left);(first|exact Zk rfl|with_reducible assumption|decide +kernel|rotate_left);(first|exact Qt|rotate_left);(first|exact Qt|rotate_left);(first|exact Qt|rotate_left);exact U;exact U))
     all_goals first|((apply Zp [];(apply Zc Za;exact U);(iterate 4 exact U)))|skip
     all_goals first|rfl|(first|rfl|(simp only[List.length_append,List.length_cons,List.length_nil,List.length_map,Zw];done)|(simp only[List.length_append,List.length_cons,List.length_nil,List.length_map,Zw]at *;(try unfold maxLen);(try simp only[Nat.add_mul]);omega))|(simp;done)|(simp;omega)|(simp;unfold maxLen;omega)
end Go.Proofs.YtmljabhmajehnaaGreatDoor
end
