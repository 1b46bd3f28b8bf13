/- Package primary: the sum of a list's bytes. -/
import Derived.Test.YtakblclkflnnpaaGreatDoorH21
import Derived.Test.YtakblclkflnnpaaGreatDoorH20
import Derived.Test.YtakblclkflnnpaaGreatDoorH09
import Derived.Lib.Strings
import Derived.Lib.Slices
import Derived.Lib.Walk
import Derived.Lib.Bytealg
set_option linter.unusedVariables false
set_option linter.unusedSimpArgs false
section
open Go.RowKit Go.Pl Go.Av
namespace Go.Proofs.YtakblclkflnnpaaGreatDoor
set_option maxHeartbeats 4000000
def Za0 (s:Nat)(l:List It):It:=.mk 4 0 [] (l++[.mk 2 0 (List.replicate (2*s) 0) []])
abbrev shU (k:IntKind)(z:Int)(q:Int):Int:=IntKind.u8.wrap (z.fdiv (2 ^ (min q.toNat k.bits)))
def ZsF (s:Nat)(b:List UInt8):List E:=
 if s=1 then [.int .u8 (shU .u16 (ZeX b) 8),.int .u8 (IntKind.u8.wrap (ZeX b))]
 else [.int .u8 (shU .u32 (Zfi b) 24),.int .u8 (shU .u32 (Zfi b) 16),.int .u8 (shU .u32 (Zfi b) 8),.int .u8 (IntKind.u8.wrap (Zfi b))]
def by8 (z:Int):UInt8:=UInt8.ofNat (IntKind.u8.wrap z).toNat
theorem ZsY (z:Int):E.byte (by8 z)=.int .u8 (IntKind.u8.wrap z):=by
 have h:0<=IntKind.u8.wrap z/\IntKind.u8.wrap z<256:=by
  rw[IntKind.wrap_u8];omega
 show E.int .u8 ((by8 z).toNat:Int)=_
 have e:((by8 z).toNat:Int)=IntKind.u8.wrap z:=by
  unfold by8
  rw[UInt8.toNat_ofNat']
  omega
 rw[e]
def ZgT (s:Nat)(b:List UInt8):List UInt8:=
 if s=1 then [by8 ((ZeX b).fdiv (2 ^ (min (8:Int).toNat IntKind.u16.bits))),by8 (ZeX b)]
 else [by8 ((Zfi b).fdiv (2 ^ (min (24:Int).toNat IntKind.u32.bits))),by8 ((Zfi b).fdiv (2 ^ (min (16:Int).toNat IntKind.u32.bits))),by8 ((Zfi b).fdiv (2 ^ (min (8:Int).toNat IntKind.u32.bits))),by8 (Zfi b)]
theorem Zm7 (s:Nat)(b:List UInt8):(ZgT s b).map E.byte=ZsF s b:=by
 unfold ZgT ZsF
 split<;>simp only[List.map_cons,List.map_nil,ZsY]
theorem ZhN (s:Nat)(b:List UInt8)(hs:s=1\/s=2):(ZgT s b).length=2*s:=by
 unfold ZgT
 rcases hs with rfl|rfl<;>rfl
theorem ZhO:∀ {l r:List It},wfs l->wfs r->wfs (l++r)
 | [],r,_,h=>h
 | x::l,r,h1,h2=>⟨h1.1,ZhO h1.2 h2⟩
theorem Zm8 {s:Nat}{l:List It}(hs:s=1\/s=2)(hws:wfs l)(hl:l.length<=1000000):wfI (Za0 s l):=by
 refine⟨by decide,by simp,by simp;omega,ZhO hws ⟨⟨by decide,?_,by simp,trivial⟩,trivial⟩⟩
 rcases hs with rfl|rfl<;>decide
theorem Zly [Known](s:Nat)(hs:s=1\/s=2):AP Tryz.prog 142 [.int .i64 (s:Int)] (.int .i64 ((2*s:Nat):Int)) []:=by
 rcases hs with rfl|rfl
 all_goals
  refine AP.ofA (Zam Tryz.func142 U Tryz.ntmps142 U U ?_)
  repeat'(first|(apply Zag Zab;exact U))
  all_goals exact Qe
theorem ZoV [Known][KnownU8](l:List It)(s:Nat)(hs:s=1\/s=2)(hne:l ≠ [])(hws:wfs l)(hl:l.length<=1000000)(hlim:(ZaZ (Za0 s l)).length<=1000000000) :
  AP Tryz.prog 141 [.sl .ext (ZaC l),.int .i64 (s:Int)] (match ZaD (Za0 s l) with|true=>.tup [byE (ZgT s (ZaZ (Za0 s l))),.int .i64 0]|false=>.tup [.sl .ext [],.int .i64 3]) []:=by
 have hwz:=Zm8 hs hws hl
 have hC:=Zm3 l hne hl
 have hW:=Zgp (Za0 s l) hwz (by omega) (Zce _ hwz)
 have hU:=ZcF l
 have hlen:=Zaq l
 have hmx:(ZaC l).length<=1000000:=by omega
 have hZ:=Zly s hs
 have hB:=ZhG (List.replicate (2*s) 0) (by rcases hs with rfl|rfl<;>decide)
 have hL:=ZdU (l++[.mk 2 0 (List.replicate (2*s) 0) []]) (by simp;omega) hwz.2.2.2
 have hSh:=ZoU (ZaZ (Za0 s l)) hlim
 have hLo:=ZqH (ZaZ (Za0 s l)) hlim
 rw[Zcx]at hL
 have eZ:itD (.mk 4 0 [] (l++[.mk 2 0 (List.replicate (2*s) 0) []]))=itD (Za0 s l):=rfl
 rw[eZ]at hL
 unfold byE
 rw[Zm7]
 rw[<- hlen]at hC
 cases hr:ZaD (Za0 s l) with
 | false=>
  rw[hr]at hW
  replace hW:AP Tryz.prog 112 [itD (Za0 s l)] (.tup [.sl .ext [],.int .i64 3]) []:=hW
  have eL:itD (Za0 s l)=.agg [.int .i64 4,.int .u64 0,.sl .ext [],.sl .ext (ZaC (l++[.mk 2 0 (List.replicate (2*s) 0) []]))]:=rfl
  rw[eL]at hL hW
  generalize ZaC (l++[.mk 2 0 (List.replicate (2*s) 0) []])=ZL at *
  clear hSh hLo hlim hwz eZ eL
  rcases hs with rfl|rfl
  all_goals
   refine AP.ofA (Zam Tryz.func141 U Tryz.ntmps141 U U ?_)
   repeat'(first|(apply ZaU [] [] (hC);kernel_rfl;(iterate 10 exact U))|(apply Zaa (hZ);kernel_rfl;(iterate 4 exact U))|(apply Zdd Zab (l:=2);(iterate 12 exact U))|(apply Zdd Zab (l:=4);(iterate 12 exact U))|(apply Zaa (hB);kernel_rfl;(iterate 4 exact U))|(apply Zaa (hL);kernel_rfl;(iterate 4 exact U))|(apply Zaa (hW);kernel_rfl;(iterate 4 exact U))|(apply Zai Zab;exact U)|(apply Zag Zab;exact U)|(apply Zau Zab;exact U)|refine Zad U Qt ?_|refine ZaL Zab U U U U U U U U U U U U ?_|(apply ZaF Zab;(iterate 6 exact U);(first|with_reducible assumption|decide +kernel|exact U|rotate_left);exact U;exact U;(first|exact Zaj rfl|with_reducible assumption|decide +kernel|rotate_left);(first|exact Zaj rfl|with_reducible assumption|decide +kernel|rotate_left);(first|exact Qt|rotate_left);(first|exact Qt|rotate_left);(first|exact Qt|rotate_left);exact U;exact U))
   all_goals first|((apply Zav [];(apply Zac Zab;exact U);(iterate 4 exact U)))|skip
   all_goals first|rfl|(first|rfl|(simp only[List.length_append,List.length_cons,List.length_nil,List.length_map,Zaq];done)|(simp only[List.length_append,List.length_cons,List.length_nil,List.length_map,Zaq]at *;(try unfold maxLen);(try simp only[Nat.add_mul]);omega))|(simp;done)|(simp;omega)|(simp;unfold maxLen;omega)
 | true=>
  rw[hr]at hW
  replace hW:AP Tryz.prog 112 [itD (Za0 s l)] (.tup [byE (ZaZ (Za0 s l)),.int .i64 0]) []:=hW
  have eL:itD (Za0 s l)=.agg [.int .i64 4,.int .u64 0,.sl .ext [],.sl .ext (ZaC (l++[.mk 2 0 (List.replicate (2*s) 0) []]))]:=rfl
  rw[eL]at hL hW
  generalize ZaC (l++[.mk 2 0 (List.replicate (2*s) 0) []])=ZL at *
  generalize ZaZ (Za0 s l)=PZ at *
  clear hlim hwz eZ eL hr
  rcases hs with rfl|rfl
  all_goals
   refine AP.ofA (Zam Tryz.func141 U Tryz.ntmps141 U U ?_)
   repeat'(first|(apply ZaU [] [] (hC);kernel_rfl;(iterate 10 exact U))|(apply Zaa (hZ);kernel_rfl;(iterate 4 exact U))|(apply Zdd Zab (l:=2);(iterate 12 exact U))|(apply Zdd Zab (l:=4);(iterate 12 exact U))|(apply Zaa (hB);kernel_rfl;(iterate 4 exact U))|(apply Zaa (hL);kernel_rfl;(iterate 4 exact U))|(apply Zaa (hW);kernel_rfl;(iterate 4 exact U))|(apply Zaa (hSh);kernel_rfl;(iterate 4 exact U))|(apply Zaa (hLo);kernel_rfl;(iterate 4 exact U))|(apply Zai Zab;exact U)|(apply Zag Zab;exact U)|refine Zad U Qt ?_|refine Zaf U Qt ?_|refine ZaL Zab U U U U U U U U U U U U ?_|(apply ZaF Zab;(iterate 6 exact U);(first|with_reducible assumption|decide +kernel|exact U|rotate_left);exact U;exact U;(first|exact Zaj rfl|with_reducible assumption|decide +kernel|rotate_left);(first|exact Zaj rfl|with_reducible assumption|decide +kernel|rotate_left);(first|exact Qt|rotate_left);(first|exact Qt|rotate_left);(first|exact Qt|rotate_left);exact U;exact U)|(apply ZbK;exact U;exact U;(first|exact Qt|rotate_left);exact U))
   all_goals first|((apply Zav [];(apply Zac Zab;exact U);(iterate 4 exact U)))|skip
   all_goals first|rfl|(first|rfl|(simp only[List.length_append,List.length_cons,List.length_nil,List.length_map,Zaq];done)|(simp only[List.length_append,List.length_cons,List.length_nil,List.length_map,Zaq]at *;(try unfold maxLen);(try simp only[Nat.add_mul]);omega))|(simp;done)|(simp;omega)|(simp;unfold maxLen;omega)
theorem ZoW [Known](l:List It)(hne:l ≠ [])(hl:l.length<=2199023255488)(hws:wfs l):AT Tryz.prog 87 [.sl .ext (ZaC l)] [] [] (.agg [.int .i64 4,.int .u64 0,.sl .nil [],.sl (.own 0) (ZaC l)]) [] [⟨(ZaC l).length,4,32⟩]:=by
 have ih':∀ y ∈ l,AP Tryz.prog 145 [itD y] (itD y) []:=fun y hy=>Zit y (Zbd hws y hy)
 have hlen:=Zaq l
 refine Zam Tryz.func87 rfl Tryz.ntmps87 rfl rfl ?_
 repeat'(first|(apply Zai Zab;exact U)|(apply Zag Zab;exact U)|refine Zan Zab U U U U ?_)
 refine ZaB (fun k' tm bx fr=>∃(i c:Nat) (L:List E),k'+i=l.length/\c=L.length/\L=ZaC (l.take i)/\tm=[(3,.ptr 1 0),(2,.ptr 0 0),(7,.sl .ext (ZaC l)),(8,.int .i64 ((ZaC l).length:Int)),(9,.int .i64 (i:Int))] /\
  ((i=0/\bx=[[.int .i64 0,.int .u64 0,.sl .nil [],.sl .nil []],[.int .i64 4,.int .u64 0,.sl .nil [],.sl .nil []]]/\fr=[]) \/
  (bx=[[.int .i64 0,.int .u64 0,.sl .nil [],.sl .nil []],[.int .i64 4,.int .u64 0,.sl .nil [],.sl (.own 0) L]]/\fr=[⟨c,4,32⟩]))) (l.length+1) (Lands.mk' (m:=l.length) (Nat.lt_succ_self _) ⟨0,0,[],rfl,rfl,rfl,rfl,.inl ⟨rfl,rfl,rfl⟩⟩ ?_ rfl rfl rfl rfl rfl rfl) ?_
 ·exact .cons rfl (.cons rfl (.cons rfl (.cons rfl (.cons rfl .nil))))
 rintro k' tm bx fr ⟨i,c,L,hi,hc,hL,rfl,⟨rfl,rfl,rfl⟩ | ⟨rfl,rfl⟩⟩
 ·cases l with
  | nil=>exact absurd rfl hne
  | cons y l=>
   have hc:=ih' y (List.mem_cons_self ..)
   have hU:=ZcF (y::l)
   have hd:decide (((0:Nat):Int)<((ZaC (y::l)).length:Int))=true:=decide_eq_true (by rw[ZaC];simp)
   obtain⟨k1,n1,b1,l1⟩:=y
   repeat'(first|(apply Zaa (hc);kernel_rfl;(iterate 4 exact U))|refine ZaO Zab U U U U U U (Zaj rfl) (List.cons_ne_nil _ _) U Qd Qd U U U ?_|(apply Zai Zab;exact U)|(apply Zag Zab;exact U)|(apply Zau Zab;exact U)|refine Zad U Qt ?_|refine ZaL Zab U U U U U U U U U U U U ?_|(apply Zao 5 ZaQ;decide +kernel;kernel_rfl;kernel_rfl;kernel_rfl;exact U;exact U)|(apply Zas;(iterate 4 exact U))|exact AE.nil _ _ _ _|(apply Zaw;exact U)|(apply Zay;exact U;exact U;decide +kernel;exact U)|(apply Zaz;exact U)|exact AO.nil _ _ _|(apply Zar;(decide +kernel))|exact AOs.nil|exact ZaJ rfl rfl|exact Zdh rfl rfl rfl rfl rfl|(apply Zat Zab;(iterate 6 exact U);(first|exact Qt|rotate_left);(first|with_reducible assumption|decide +kernel|exact U);(first|exact Zaj rfl|with_reducible assumption|decide +kernel|rotate_left)))
   refine Lands.mk' (m:=k'-1) (by simp at hi;omega) ⟨1,1,ZaC [It.mk k1 n1 b1 l1],by simp at hi ⊢;omega,rfl,rfl,rfl,.inr ⟨rfl,rfl⟩⟩ ?_ rfl rfl rfl rfl rfl rfl
   exact .cons rfl (.cons rfl (.cons rfl (.cons rfl (.cons rfl .nil))))
 ·have hU:=ZcF l
  have hU2:Uni 4 L:=hL ▸ ZcF (l.take i)
  have el:=Zaq (l.take i)
  rw[<- hL]at el
  subst hc
  rcases Nat.lt_or_ge i l.length with hlt|hge
  ·have hd:decide ((i:Int)<((ZaC l).length:Int))=true:=decide_eq_true (by omega)
   obtain⟨⟨k1,n1,b1,l1⟩,hy⟩:∃ y,l[i]?=some y:=⟨_,List.getElem?_eq_getElem hlt⟩
   have hv:(ZaC l)[((i:Nat):Int).toNat]?=some (.agg [.int .i64 k1,.int .u64 (n1:Int),.sl (b1.map E.byte),.sl (ZaC l1)]):=by
    rw[Int.toNat_natCast,ZaP,List.getElem?_map,hy];rfl
   have hc:=ih' _ (List.mem_of_getElem? hy)
   have ei:IntKind.i64.wrap ((i:Int)+1)=((i+1:Nat):Int):=by rw[IntWalk.i64_in _ (by omega)];omega
   have hs:L++[E.agg [.int .i64 k1,.int .u64 (n1:Int),.sl (b1.map E.byte),.sl (ZaC l1)]]=ZaC (l.take (i+1)):=by
    rw[hL,List.take_add_one,hy];exact(Zcx _ [It.mk k1 n1 b1 l1]).symm
   rw[List.length_take]at el
   repeat'(first|(apply Zaa (hc);kernel_rfl;(iterate 4 exact U))|rw[ei]|(apply Zai Zab;exact U)|(apply Zag Zab;exact U)|(apply Zau Zab;exact U)|refine Zad U Qt ?_|refine ZaL Zab U U U U U U U U U U U U ?_|(apply Zao 5 ZaQ;decide +kernel;kernel_rfl;kernel_rfl;kernel_rfl;exact U;exact U)|(apply Zas;(iterate 4 exact U))|exact AE.nil _ _ _ _|(apply Zaw;exact U)|(apply Zay;exact U;exact U;decide +kernel;exact U)|(apply Zaz;exact U)|exact AO.nil _ _ _|(apply Zar;(decide +kernel))|exact AOs.nil|exact ZaJ rfl rfl|exact Zdh rfl rfl rfl rfl rfl|(apply ZaF Zab;(iterate 6 exact U);(first|with_reducible assumption|decide +kernel|exact U|rotate_left);exact U;exact U;(first|exact Zaj rfl|with_reducible assumption|decide +kernel|rotate_left);(first|exact Zaj rfl|with_reducible assumption|decide +kernel|rotate_left);(first|exact Qt|rotate_left);(first|exact Qt|rotate_left);(first|exact Qt|rotate_left);exact U;exact U)|(apply Zat Zab;(iterate 6 exact U);(first|exact Qt|rotate_left);(first|with_reducible assumption|decide +kernel|exact U);(first|exact Zaj rfl|with_reducible assumption|decide +kernel|rotate_left)))
   ·refine Lands.mk' (m:=k'-1) (by omega) ⟨i+1,L.length+1,_,by omega,by rw[List.length_append];rfl,hs,rfl,.inr ⟨rfl,rfl⟩⟩ ?_ rfl rfl rfl rfl rfl rfl
    exact .cons rfl (.cons rfl (.cons rfl (.cons rfl (.cons rfl .nil))))
   all_goals(first|rfl|(simp only[List.length_append,List.length_cons,List.length_nil,List.length_map,Zaq];done)|(simp only[List.length_append,List.length_cons,List.length_nil,List.length_map,Zaq]at *;(try unfold maxLen);(try simp only[Nat.add_mul]);omega))
  ·have hd:decide ((i:Int)<((ZaC l).length:Int))=false:=decide_eq_false (by omega)
   rw[List.take_of_length_le hge]at hL
   subst hL
   repeat'(first|(apply Zag Zab;exact U)|refine Zaf U Qt ?_)
   all_goals(apply Zfb [] [0];(apply Zac Zab;exact U);(iterate 7 exact U))
   all_goals rfl
def z0:It:=.mk 0 0 [] []
def Zhe (s:Nat)(l:List It):It:=.mk 4 0 [] (l++[.mk 2 0 (ZgT s (ZaZ (Za0 s l))) []])
def Zd0 (l:List It)(a:Int):It × Int:=match decide (a<0)||decide (a ≥ (l.length:Int)) with
 | true=>(z0,1)
 | false=>match l.all ZaD&&decide (ZcB l a ≥ 0) with
  | false=>(z0,3)
  | true=>match decide (ZcB l a>0) with
   | false=>(match ZaD (.mk 4 0 [] l) with|true=>(.mk 4 0 [] l,0)|false=>(z0,3))
   | true=>(match ZaD (Za0 (ZcB l a).toNat l) with
    | false=>(z0,3)
    | true=>match ZaD (Zhe (ZcB l a).toNat l) with
     | false=>(z0,3)
     | true=>(Zhe (ZcB l a).toNat l,0))
abbrev ZhP (r:It × Int):D:=.tup [itD r.1,.int .i64 r.2]
theorem Zeu (l:List It)(a:Int):ZcB l a = -1\/((ZcB l a=0\/ZcB l a=1\/ZcB l a=2)/\0<=a/\a<(l.length:Int)):=by
 unfold ZcB
 split
 ·exact .inl rfl
 rename_i h0
 cases h:l[a.toNat]? with
 | none=>exact .inl rfl
 | some x=>
  obtain⟨k,n,b,r⟩:=x
  have hlt:=(List.getElem?_eq_some_iff.1 h).1
  dsimp only
  cases t:decide ((n:Int)>2) with
  | true=>exact .inl rfl
  | false=>
   have:=of_decide_eq_false t
   cases It.beq (.mk k n b r) (.mk 0 n [] []) with
   | false=>exact .inl rfl
   | true=>dsimp only;omega
theorem ZrU {s:Nat}{l:List It}(hs:s=1\/s=2)(hws:wfs l)(hl:l.length<=1000000):wfI (Zhe s l):=by
 refine⟨by decide,by simp,by simp;omega,ZhO hws ⟨⟨by decide,?_,by simp,trivial⟩,trivial⟩⟩
 rw[ZhN _ _ hs]
 omega
theorem Zm9 [Known][KnownU8](l:List It)(a:Int)(hws:wfs l)(hl:l.length<=1000000)(hlim:∀ s,s=1\/s=2->(ZaZ (Za0 s l)).length<=1000000000):AP Tryz.prog 83 [.sl .ext (ZaC l),.int .i64 a] (ZhP (Zd0 l a)) []:=by
 have hlen:=Zaq l
 have hU:=ZcF l
 have hC:=ZoR l hws hl
 have hT:=Zm4 l hws a
 unfold Zd0
 rw[<- hlen]
 rcases Int.lt_or_le a 0 with h0|h0
 ·have t1:decide (a<0)=true:=decide_eq_true h0
  rw[t1,Bool.true_or]
  dsimp only[z0]
  refine AP.ofA (Zam Tryz.func83 U Tryz.ntmps83 U U ?_)
  repeat'(first|(apply Zai Zab;exact U)|(apply Zag Zab;exact U)|(apply Zau Zab;exact U)|refine Zal U U U Qt ?_|refine Zak U Qt U U ?_|refine Zad U Qt ?_)
  all_goals exact Qe
 have t1:decide (a<0)=false:=decide_eq_false (by omega)
 rw[t1,Bool.false_or]
 cases t2:decide (a ≥ ((ZaC l).length:Int)) with
 | true=>
  dsimp only[z0]
  refine AP.ofA (Zam Tryz.func83 U Tryz.ntmps83 U U ?_)
  repeat'(first|(apply Zai Zab;exact U)|(apply Zag Zab;exact U)|(apply Zau Zab;exact U)|refine Zae U U U Qt ?_|refine Zah U Qt U U ?_|refine Zad U Qt ?_|refine Zan Zab U U U U ?_)
  all_goals exact Qe
 | false=>
 have hne:l ≠ []:=by rintro rfl;have:=of_decide_eq_false t2;simp[ZaC]at this;omega
 cases hA:l.all ZaD with
 | false=>
  rw[hA]at hC
  replace hC:AP Tryz.prog 140 _ (.bool true) []:=hC
  rw[Bool.false_and]
  dsimp only[z0]
  generalize ZcB l a=tv at *
  refine AP.ofA (Zam Tryz.func83 U Tryz.ntmps83 U U ?_)
  repeat'(first|(apply Zaa (hC);kernel_rfl;(iterate 4 exact U))|(apply Zaa (hT);kernel_rfl;(iterate 4 exact U))|(apply Zai Zab;exact U)|(apply Zag Zab;exact U)|(apply Zau Zab;exact U)|refine Zae U U U Qt ?_|refine Zal U U U Qt ?_|refine Zak U Qt U U ?_|refine Zah U Qt U U ?_|refine Zad U Qt ?_|refine Zaf U Qt ?_|refine Zan Zab U U U U ?_)
  all_goals exact Qe
 | true=>
  rw[hA]at hC
  replace hC:AP Tryz.prog 140 _ (.bool false) []:=hC
  rw[Bool.true_and]
  rcases Zeu l a with e|⟨e|e,_,_⟩
  ·rw[e]at hT ⊢
   dsimp only[z0]
   refine AP.ofA (Zam Tryz.func83 U Tryz.ntmps83 U U ?_)
   repeat'(first|(apply Zaa (hC);kernel_rfl;(iterate 4 exact U))|(apply Zaa (hT);kernel_rfl;(iterate 4 exact U))|(apply Zai Zab;exact U)|(apply Zag Zab;exact U)|(apply Zau Zab;exact U)|refine Zae U U U Qt ?_|refine Zah U Qt U U ?_|refine Zad U Qt ?_|refine Zaf U Qt ?_|refine Zan Zab U U U U ?_)
   all_goals exact Qe
  ·rw[e]at hT ⊢
   have hL:=ZdU l (by omega) hws
   have hR:=Zce (.mk 4 0 [] l) ⟨by decide,by simp,by omega,hws⟩
   cases hr:ZaD (.mk 4 0 [] l) with
   | false=>
    rw[hr]at hR
    dsimp only[z0]
    refine AP.ofA (Zam Tryz.func83 U Tryz.ntmps83 U U ?_)
    repeat'(first|(apply Zaa (hC);kernel_rfl;(iterate 4 exact U))|(apply Zaa (hT);kernel_rfl;(iterate 4 exact U))|(apply Zaa (hL);kernel_rfl;(iterate 4 exact U))|(apply Zaa (hR);kernel_rfl;(iterate 4 exact U))|(apply Zai Zab;exact U)|(apply Zag Zab;exact U)|(apply Zau Zab;exact U)|refine Zae U U U Qt ?_|refine Zah U Qt U U ?_|refine Zad U Qt ?_|refine Zaf U Qt ?_|refine Zan Zab U U U U ?_)
    all_goals exact Qe
   | true=>
    rw[hr]at hR
    refine AP.ofA (Zam Tryz.func83 U Tryz.ntmps83 U U ?_)
    repeat'(first|(apply Zaa (hC);kernel_rfl;(iterate 4 exact U))|(apply Zaa (hT);kernel_rfl;(iterate 4 exact U))|(apply Zaa (hL);kernel_rfl;(iterate 4 exact U))|(apply Zaa (hR);kernel_rfl;(iterate 4 exact U))|(apply Zai Zab;exact U)|(apply Zag Zab;exact U)|(apply Zau Zab;exact U)|refine Zae U U U Qt ?_|refine Zah U Qt U U ?_|refine Zaf U Qt ?_|refine Zan Zab U U U U ?_)
    all_goals exact Qe
  ·obtain⟨s,hs,es⟩:∃ s:Nat,(s=1\/s=2)/\ZcB l a=(s:Int):=⟨(ZcB l a).toNat,by omega,by omega⟩
   rw[es]at hT ⊢
   rw[Int.toNat_natCast]
   have hS:=ZoV l s hs hne hws hl (hlim s hs)
   have hL:=ZoW l hne (by omega) hws
   have hsl:=ZhN s (ZaZ (Za0 s l)) hs
   have hB:=ZhG (ZgT s (ZaZ (Za0 s l))) (by omega)
   have hR:=Zce (Zhe s l) (ZrU hs hws hl)
   have hmx:(ZaC l).length<=1000000:=by omega
   have d1:decide ((s:Int)<0)=false:=decide_eq_false (by omega)
   have d2:decide ((s:Int)>0)=true:=decide_eq_true (by omega)
   have d3:decide ((s:Int) ≥ 0)=true:=decide_eq_true (by omega)
   rw[d2,d3]
   cases hz:ZaD (Za0 s l) with
   | false=>
    rw[hz]at hS
    dsimp only[z0]
    dsimp only at hS
    refine AP.ofA (Zam Tryz.func83 U Tryz.ntmps83 U U ?_)
    repeat'(first|(apply Zaa (hC);kernel_rfl;(iterate 4 exact U))|(apply Zaa (hT);kernel_rfl;(iterate 4 exact U))|(apply ZaU [] [] (hL);kernel_rfl;(iterate 10 exact U))|(apply Zaa (hS);kernel_rfl;(iterate 4 exact U))|(apply Zai Zab;exact U)|(apply Zag Zab;exact U)|(apply Zau Zab;exact U)|refine Zae U U U Qt ?_|refine Zah U Qt U U ?_|refine Zad U Qt ?_|refine Zaf U Qt ?_|refine Zan Zab U U U U ?_)
    all_goals exact Qe
   | true=>
    rw[hz]at hS
    dsimp only at hS ⊢
    have eO:itD (Zhe s l)=.agg [.int .i64 4,.int .u64 0,.sl .ext [],.sl .ext (ZaC l++[.agg [.int .i64 2,.int .u64 0,.sl ((ZgT s (ZaZ (Za0 s l))).map E.byte),.sl []]])]:=by
     show D.agg [.int .i64 4,.int .u64 0,.sl .ext [],.sl .ext (ZaC (l++[.mk 2 0 (ZgT s (ZaZ (Za0 s l))) []]))]=_
     rw[Zcx]
     rfl
    cases hr:ZaD (Zhe s l) with
    | false=>
     rw[hr,eO]at hR
     dsimp only[z0]
     generalize ZgT s (ZaZ (Za0 s l))=SB at *
     refine AP.ofA (Zam Tryz.func83 U Tryz.ntmps83 U U ?_)
     repeat'(first|(apply Zaa (hC);kernel_rfl;(iterate 4 exact U))|(apply Zaa (hT);kernel_rfl;(iterate 4 exact U))|(apply ZaU [] [] (hL);kernel_rfl;(iterate 10 exact U))|(apply Zaa (hS);kernel_rfl;(iterate 4 exact U))|(apply Zaa (hB);kernel_rfl;(iterate 4 exact U))|(apply Zaa (hR);kernel_rfl;(iterate 4 exact U))|(apply Zai Zab;exact U)|(apply Zag Zab;exact U)|(apply Zau Zab;exact U)|refine Zae U U U Qt ?_|refine Zah U Qt U U ?_|refine Zad U Qt ?_|refine Zaf U Qt ?_|refine Zan Zab U U U U ?_|refine ZaL Zab U U U U U U U U U U U U ?_|(apply Zao 5 ZaQ;decide +kernel;kernel_rfl;kernel_rfl;kernel_rfl;exact U;exact U)|(apply Zas;(iterate 4 exact U))|exact AE.nil _ _ _ _|(apply Zaw;exact U)|(apply Zay;exact U;exact U;decide +kernel;exact U)|(apply Zaz;exact U)|exact AO.nil _ _ _|(apply Zar;(decide +kernel))|exact AOs.nil|exact ZaJ rfl rfl|exact Zdh rfl rfl rfl rfl rfl|(apply ZaF Zab;(iterate 6 exact U);(first|with_reducible assumption|decide +kernel|exact U|rotate_left);exact U;exact U;(first|exact Zaj rfl|with_reducible assumption|decide +kernel|rotate_left);(first|exact Zaj rfl|with_reducible assumption|decide +kernel|rotate_left);(first|exact Qt|rotate_left);(first|exact Qt|rotate_left);(first|exact Qt|rotate_left);exact U;exact U))
     all_goals first|((apply Zav [];(apply Zac Zab;exact U);(iterate 4 exact U)))|skip
     all_goals first|rfl|(first|rfl|(simp only[List.length_append,List.length_cons,List.length_nil,List.length_map,Zaq];done)|(simp only[List.length_append,List.length_cons,List.length_nil,List.length_map,Zaq]at *;(try unfold maxLen);(try simp only[Nat.add_mul]);omega))|(simp;done)|(simp;omega)|(simp;unfold maxLen;omega)
    | true=>
     rw[hr,eO]at hR
     dsimp only[ZhP]
     rw[eO]
     generalize ZgT s (ZaZ (Za0 s l))=SB at *
     refine AP.ofA (Zam Tryz.func83 U Tryz.ntmps83 U U ?_)
     repeat'(first|(apply Zaa (hC);kernel_rfl;(iterate 4 exact U))|(apply Zaa (hT);kernel_rfl;(iterate 4 exact U))|(apply ZaU [] [] (hL);kernel_rfl;(iterate 10 exact U))|(apply Zaa (hS);kernel_rfl;(iterate 4 exact U))|(apply Zaa (hB);kernel_rfl;(iterate 4 exact U))|(apply Zaa (hR);kernel_rfl;(iterate 4 exact U))|(apply Zai Zab;exact U)|(apply Zag Zab;exact U)|(apply Zau Zab;exact U)|refine Zae U U U Qt ?_|refine Zah U Qt U U ?_|refine Zad U Qt ?_|refine Zaf U Qt ?_|refine Zan Zab U U U U ?_|refine ZaL Zab U U U U U U U U U U U U ?_|(apply Zao 5 ZaQ;decide +kernel;kernel_rfl;kernel_rfl;kernel_rfl;exact U;exact U)|(apply Zas;(iterate 4 exact U))|exact AE.nil _ _ _ _|(apply Zaw;exact U)|(apply Zay;exact U;exact U;decide +kernel;exact U)|(apply Zaz;exact U)|exact AO.nil _ _ _|(apply Zar;(decide +kernel))|exact AOs.nil|exact ZaJ rfl rfl|exact Zdh rfl rfl rfl rfl rfl|(apply ZaF Zab;(iterate 6 exact U);(first|with_reducible assumption|decide +kernel|exact U|rotate_left);exact U;exact U;(first|exact Zaj rfl|with_reducible assumption|decide +kernel|rotate_left);(first|exact Zaj rfl|with_reducible assumption|decide +kernel|rotate_left);(first|exact Qt|rotate_left);(first|exact Qt|rotate_left);(first|exact Qt|rotate_left);exact U;exact U))
     all_goals first|((apply Zav [];(apply Zac Zab;exact U);(iterate 4 exact U)))|skip
     all_goals first|rfl|(first|rfl|(simp only[List.length_append,List.length_cons,List.length_nil,List.length_map,Zaq];done)|(simp only[List.length_append,List.length_cons,List.length_nil,List.length_map,Zaq]at *;(try unfold maxLen);(try simp only[Nat.add_mul]);omega))|(simp;done)|(simp;omega)|(simp;unfold maxLen;omega)
theorem ZsZ (l:List Nat):Uni 1 (l.map fun n:Nat=>E.int .u64 (n:Int)):=Uni.map (f:=fun n:Nat=>E.int .u64 (n:Int)) (fun _=>rfl) l
def Zjd (n:Nat):Bool:=decide ((n:Int)<1)||decide ((n:Int)>255)
theorem Zhf [Known](n:Nat):AP Tryz.prog 155 [.int .u64 (n:Int)] (.bool (Zjd n)) []:=by
 unfold Zjd
 refine AP.ofA (Zam Tryz.func155 U Tryz.ntmps155 U U ?_)
 repeat'(first|(apply Zai Zab;exact U)|(apply Zag Zab;exact U)|(apply Zae;(iterate 3 exact U);(first|with_reducible assumption|(solve|simp only[bn])))|(apply Zal;(iterate 3 exact U);(first|with_reducible assumption|(solve|simp only[bn])))|(apply Zbo;exact U;exact U;all_goals intro hb)|(apply Zak;exact U;(first|with_reducible assumption|(solve|simp only[bn]));exact U;exact U)|(apply Zah;exact U;(first|with_reducible assumption|(solve|simp only[bn]));exact U;exact U))
 all_goals(apply Zav [];(apply Zac Zab;exact U);(iterate 4 exact U))
 all_goals first|rfl|(simp only[*];done)|(simp only[*];rfl)
def ZtH:Bool->Bool->Int
 | true,_=>0
 | false,true=>1
 | false,false => -1
theorem ZqI [Known](a b:Nat)(x y:Bool)(hx:Zjd a=x)(hy:Zjd b=y):AP Tryz.prog 179 [.sl .ext [.int .u64 (a:Int),.int .u64 (b:Int)],.fn 155 []] (.int .i64 (ZtH x y)) []:=by
 have ga:=Zhf a
 have gb:=Zhf b
 rw[hx]at ga
 rw[hy]at gb
 have hU:=ZsZ [a,b]
 have q0:decide ((0:Int)<(([.int .u64 (a:Int),.int .u64 (b:Int)]:List E).length:Int))=true:=rfl
 have q1:decide ((1:Int)<(([.int .u64 (a:Int),.int .u64 (b:Int)]:List E).length:Int))=true:=rfl
 have q2:decide ((2:Int)<(([.int .u64 (a:Int),.int .u64 (b:Int)]:List E).length:Int))=false:=rfl
 have e1:IntKind.i64.wrap (0+1)=1:=by decide
 have e2:IntKind.i64.wrap (1+1)=2:=by decide
 cases x<;>cases y
 all_goals
  refine AP.ofA (Zam Tryz.func179 U Tryz.ntmps179 U U ?_)
  repeat'(first|rw[e1]|rw[e2]|(apply Zdt (ga);exact U;kernel_rfl;(iterate 3 exact U))|(apply Zdt (gb);exact U;kernel_rfl;(iterate 3 exact U))|refine Zat Zab U U U U U U (by decide) U hU ?_|refine Zbn 20 ?_|refine ZbC ?_|(apply Zai Zab;exact U)|(apply Zag Zab;exact U)|(apply Zau Zab;exact U)|refine Zad U Qt ?_|refine Zaf U Qt ?_|refine Za2 ?_|refine Zan Zab U U U U ?_)
  all_goals exact Qe
theorem ZoX [Known](a b:Nat):AP Tryz.prog 154 [.sl .ext [.int .u64 (a:Int),.int .u64 (b:Int)],.fn 155 []] (.bool (Zjd a||Zjd b)) []:=by
 cases hx:Zjd a<;>cases hy:Zjd b
 all_goals
  have hI:=ZqI a b _ _ hx hy
  refine AP.ofA (Zam Tryz.func154 U Tryz.ntmps154 U U ?_)
  repeat'(first|(apply Zaa (hI);kernel_rfl;(iterate 4 exact U))|(apply Zai Zab;exact U)|(apply Zag Zab;exact U))
  all_goals exact Qe
theorem Zlz [Known](a b:Nat):AP Tryz.prog 99 [.sl .ext [.int .u64 (a:Int),.int .u64 (b:Int)]] (.bool (!(Zjd a||Zjd b))) []:=by
 have hI:=ZoX a b
 refine AP.ofA (Zam Tryz.func99 U Tryz.ntmps99 U U ?_)
 repeat'(first|(apply Zaa (hI);kernel_rfl;(iterate 4 exact U))|(apply Zai Zab;exact U)|(apply Zag Zab;exact U))
 all_goals exact Qe
theorem ZkH [Known]:AT Tryz.prog 87 [.sl .nil []] [] [] (.agg [.int .i64 4,.int .u64 0,.sl .nil [],.sl .nil []]) [] []:=by
 refine Zam Tryz.func87 rfl Tryz.ntmps87 rfl rfl ?_
 repeat'(first|refine Zbn 20 ?_|refine ZbC ?_|(apply Zai Zab;exact U)|(apply Zag Zab;exact U)|refine Zaf U Qt ?_|refine Zan Zab U U U U ?_)
 all_goals(apply Zfb [] [];(apply Zac Zab;exact U);(iterate 7 exact U))
 all_goals rfl
abbrev nmE (n:Nat):E:=.agg [.int .i64 0,.int .u64 (n:Int),.sl [],.sl []]
theorem Zgr [Known](a b:Nat):AP Tryz.prog 96 [.sl .ext [.int .u64 (a:Int),.int .u64 (b:Int)]] (.agg [.int .i64 4,.int .u64 0,.sl .ext [],.sl .ext [nmE a,nmE b]]) []:=by
 have ga:=Zca a
 have gb:=Zca b
 have hL:=ZkH
 have hU:=ZsZ [a,b]
 have e1:IntKind.i64.wrap (0+1)=1:=by decide
 have e2:IntKind.i64.wrap (1+1)=2:=by decide
 have hU4:∀(l:List Nat),Uni 4 (l.map nmE):=fun l=>Uni.map (f:=nmE) (fun _=>rfl) l
 have q0:decide ((0:Int)<(([.int .u64 (a:Int),.int .u64 (b:Int)]:List E).length:Int))=true:=rfl
 have q1:decide ((1:Int)<(([.int .u64 (a:Int),.int .u64 (b:Int)]:List E).length:Int))=true:=rfl
 have q2:decide ((2:Int)<(([.int .u64 (a:Int),.int .u64 (b:Int)]:List E).length:Int))=false:=rfl
 have hu1:=hU4 [a]
 have hu2:=hU4 [a,b]
 refine AP.ofA (Zam Tryz.func96 U Tryz.ntmps96 U U ?_)
 repeat'(first|rw[e1]|rw[e2]|(apply ZaU [] [] (hL);kernel_rfl;(iterate 10 exact U))|(apply Zaa (ga);kernel_rfl;(iterate 4 exact U))|(apply Zaa (gb);kernel_rfl;(iterate 4 exact U))|refine Zat Zab U U U U U U (by decide) U hU ?_|refine Zbn 20 ?_|refine ZbC ?_|refine ZbS Zab U U U U U U U U U U U (Zaj rfl) (Zaj rfl) (List.cons_ne_nil _ _) Qd Qd U U ?_|refine ZaO Zab U U U U U U (Zaj rfl) (List.cons_ne_nil _ _) U Qd Qd U U U ?_|(apply Zai Zab;exact U)|(apply Zag Zab;exact U)|(apply Zau Zab;exact U)|refine Zad U Qt ?_|refine Zaf U Qt ?_|refine Zan Zab U U U U ?_|refine ZaL Zab U U U U U U U U U U U U ?_|(apply Zao 5 ZaQ;decide +kernel;kernel_rfl;kernel_rfl;kernel_rfl;exact U;exact U)|(apply Zas;(iterate 4 exact U))|exact AE.nil _ _ _ _|(apply Zaw;exact U)|(apply Zay;exact U;exact U;decide +kernel;exact U)|(apply Zaz;exact U)|exact AO.nil _ _ _|(apply Zar;(decide +kernel))|exact AOs.nil|exact ZaJ rfl rfl|exact Zdh rfl rfl rfl rfl rfl)
 all_goals exact Qe
theorem ZjA [Known](a b c d:Nat):AT Tryz.prog 96 [.sl .ext [.int .u64 (a:Int),.int .u64 (b:Int),.int .u64 (c:Int),.int .u64 (d:Int)]] [] [] (.agg [.int .i64 4,.int .u64 0,.sl .nil [],.sl (.own 0) [nmE a,nmE b,nmE c,nmE d]]) [] [⟨4,4,32⟩]:=by
 have ga:=Zca a
 have gb:=Zca b
 have gc:=Zca c
 have gd:=Zca d
 have hL:=ZkH
 have hU:=ZsZ [a,b,c,d]
 have e1:IntKind.i64.wrap (0+1)=1:=by decide
 have e2:IntKind.i64.wrap (1+1)=2:=by decide
 have e3:IntKind.i64.wrap (2+1)=3:=by decide
 have e4:IntKind.i64.wrap (3+1)=4:=by decide
 have hU4:∀(l:List Nat),Uni 4 (l.map nmE):=fun l=>Uni.map (f:=nmE) (fun _=>rfl) l
 have q0:decide ((0:Int)<(([.int .u64 (a:Int),.int .u64 (b:Int),.int .u64 (c:Int),.int .u64 (d:Int)]:List E).length:Int))=true:=rfl
 have q1:decide ((1:Int)<(([.int .u64 (a:Int),.int .u64 (b:Int),.int .u64 (c:Int),.int .u64 (d:Int)]:List E).length:Int))=true:=rfl
 have q2:decide ((2:Int)<(([.int .u64 (a:Int),.int .u64 (b:Int),.int .u64 (c:Int),.int .u64 (d:Int)]:List E).length:Int))=true:=rfl
 have q3:decide ((3:Int)<(([.int .u64 (a:Int),.int .u64 (b:Int),.int .u64 (c:Int),.int .u64 (d:Int)]:List E).length:Int))=true:=rfl
 have q4:decide ((4:Int)<(([.int .u64 (a:Int),.int .u64 (b:Int),.int .u64 (c:Int),.int .u64 (d:Int)]:List E).length:Int))=false:=rfl
 have hu1:=hU4 [a]
 have hu2:=hU4 [a,b]
 have hu3:=hU4 [a,b,c]
 have hu4:=hU4 [a,b,c,d]
 refine Zam Tryz.func96 rfl Tryz.ntmps96 rfl rfl ?_
 repeat'(first|rw[e1]|rw[e2]|rw[e3]|rw[e4]|(apply ZaU [] [] (hL);kernel_rfl;(iterate 10 exact U))|(apply Zaa (ga);kernel_rfl;(iterate 4 exact U))|(apply Zaa (gb);kernel_rfl;(iterate 4 exact U))|(apply Zaa (gc);kernel_rfl;(iterate 4 exact U))|(apply Zaa (gd);kernel_rfl;(iterate 4 exact U))|refine Zat Zab U U U U U U (by decide) U hU ?_|refine Zbn 20 ?_|refine ZbC ?_|refine ZbS Zab U U U U U U U U U U U (Zaj rfl) (Zaj rfl) (List.cons_ne_nil _ _) Qd Qd U U ?_|refine ZaO Zab U U U U U U (Zaj rfl) (List.cons_ne_nil _ _) U Qd Qd U U U ?_|(apply Zai Zab;exact U)|(apply Zag Zab;exact U)|(apply Zau Zab;exact U)|refine Zad U Qt ?_|refine Zaf U Qt ?_|refine Zan Zab U U U U ?_|refine ZaL Zab U U U U U U U U U U U U ?_|(apply Zao 5 ZaQ;decide +kernel;kernel_rfl;kernel_rfl;kernel_rfl;exact U;exact U)|(apply Zas;(iterate 4 exact U))|exact AE.nil _ _ _ _|(apply Zaw;exact U)|(apply Zay;exact U;exact U;decide +kernel;exact U)|(apply Zaz;exact U)|exact AO.nil _ _ _|(apply Zar;(decide +kernel))|exact AOs.nil|exact ZaJ rfl rfl|exact Zdh rfl rfl rfl rfl rfl)
 all_goals(apply Zfb [] [0];(apply Zac Zab;exact U);(iterate 7 exact U))
 all_goals rfl
def ZdN (c:UInt8):List UInt8->List UInt8 × List UInt8 × Bool
 | []=>([],[],false)
 | x::s=>if x=c then([],s,true) else(x::(ZdN c s).1,(ZdN c s).2.1,(ZdN c s).2.2)
theorem Zna {c:UInt8}:∀ {s:List UInt8},c ∉ s->ZdN c s=(s,[],false)
 | [],_=>rfl
 | x::s,h=>by
  have h1:¬ x=c:=fun e=>h (by rw[e];exact List.mem_cons_self ..)
  have h2:=Zna (c:=c) (s:=s) fun hm=>h (List.mem_cons_of_mem _ hm)
  rw[ZdN,if_neg h1,h2]
theorem ZdH {c:UInt8}:∀ {a b:List UInt8},c ∉ a->ZdN c (a++c::b)=(a,b,true)
 | [],b,_=>by rw[List.nil_append,ZdN,if_pos rfl]
 | x::a,b,h=>by
  have h1:¬ x=c:=fun e=>h (by rw[e];exact List.mem_cons_self ..)
  have h2:=ZdH (c:=c) (a:=a) (b:=b) fun hm=>h (List.mem_cons_of_mem _ hm)
  rw[List.cons_append,ZdN,if_neg h1,h2]
theorem ZeY {c:UInt8}:∀ {s:List UInt8},(ZdN c s).2.2=true->s=(ZdN c s).1++c::(ZdN c s).2.1
 | [],h=>by rw[ZdN]at h;cases h
 | x::s,h=>by
  rw[ZdN]at h ⊢
  by_cases e:x=c
  ·rw[if_pos e];rw[e];rfl
  ·rw[if_neg e]at h ⊢
   have:=ZeY (c:=c) (s:=s) h
   dsimp only
   rw[List.cons_append,<- this]
def Zev (p s:List UInt8):List UInt8 × Bool:=if s.take p.length==p then(s.drop p.length,true) else(s,false)
theorem ZeZ (p r:List UInt8):Zev p (p++r)=(r,true):=by
 unfold Zev
 rw[List.take_left,beq_self_eq_true,if_pos rfl,List.drop_left]
theorem Znb {p s:List UInt8}(h:(s.take p.length==p)=false):Zev p s=(s,false):=by
 unfold Zev;rw[h];rfl
theorem Ze0 {p s:List UInt8}(h:(Zev p s).2=true):s=p++(Zev p s).1:=by
 unfold Zev at h ⊢
 split at h
 ·rename_i hp
  rw[if_pos hp]
  have:=beq_iff_eq.1 hp
  conv=>lhs;rw[<- List.take_append_drop p.length s,this]
 ·cases h
def ppV (s:List UInt8):EidV × Bool:=
 (⟨false,0,0,(ZdN 47 (Zev [47,47] s).1).1,(ZdN 47 (Zev [47,47] s).1).2.1⟩,(Zev [47,47] s).2&&((ZdN 47 (Zev [47,47] s).1).2.2&&((ZdN 47 (Zev [47,47] s).1).1 != []&&ZaH ⟨false,0,0,(ZdN 47 (Zev [47,47] s).1).1,(ZdN 47 (Zev [47,47] s).1).2.1⟩)))
def Ze1:List UInt8:=[100,116,110,58,110,111,110,101]
def Ze2:List UInt8:=[105,112,110,58]
def ZgU:List UInt8:=[100,116,110,58]
theorem Zc3 {x:EidV}:isZ x=true ↔ x=Zdj:=by
 obtain⟨i,n,s,h,d⟩:=x
 simp only[isZ,Zdj,Bool.and_eq_true,beq_iff_eq,EidV.mk.injEq]
 constructor
 ·rintro⟨h1,h2,h3,h4,h5,_⟩
  exact⟨h1,by omega,by omega,h4,h5⟩
 ·rintro⟨h1,h2,h3,h4,h5⟩
  exact⟨h1,by omega,by omega,h4,h5,trivial⟩
theorem Zfj {m:Nat}{c:UInt8}{l:List UInt8}(hl:l.all (okB m)=true)(h:okB m c=false):c ∉ l:=fun hm=>by
 have:=List.all_eq_true.1 hl c hm
 rw[h]at this;cases this
set_option maxRecDepth 100000 in
theorem ZoY (s:ByteArray)(c:Int)(w:World):Calls Tryz.prog 214 #[.string s,.int .u8 c] w fun e w'=>e=.returned (.int .i64 (Lib.indexByte s.data.toList c.toNat.toUInt8))/\w'=w:=by
 go_enter Tryz.func214,Tryz.ntmps214
 go_wp2
 rw[run_callFunc_extern Tryz.func219 (by kernel_rfl) (by kernel_rfl) (by kernel_rfl) (e:=Extern.BytealgIndexByte.indexByte) (by kernel_rfl),Lib.run_indexByteString]
 simp only[Result.andThen]
 rw[Oper.upon_value]
 go_wp2
 go_ret
 exact⟨rfl,rfl⟩
theorem ZrV [Known](s:List UInt8)(c:Int):AP Tryz.prog 214 [.str s,.int .u8 c] (.int .i64 (Lib.indexByte s c.toNat.toUInt8)) []:=by
 refine⟨fun g w vs hmem hl hv=>?_⟩
 obtain⟨v0,v1,rfl⟩:∃ v0 v1,vs=[v0,v1]:=by
  match vs,hl with
  | [v0,v1],_=>exact⟨v0,v1,rfl⟩
 have h0:=(hv 0 _ _ rfl rfl).str_inv.1
 have h1:=(hv 1 _ _ rfl rfl).int_inv
 subst h0 h1
 exact(ZoY ⟨s.toArray⟩ c w).mono fun e w' ⟨he,hb⟩=>Zkc hmem (hb ▸ Below.refl _ _) he (.int _ _)
end Go.Proofs.YtakblclkflnnpaaGreatDoor
end
