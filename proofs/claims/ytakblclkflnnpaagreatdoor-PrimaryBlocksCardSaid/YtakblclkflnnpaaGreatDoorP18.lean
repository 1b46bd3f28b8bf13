/- Package primary: the sum of a list's bytes. -/
import Derived.Test.YtakblclkflnnpaaGreatDoorP16
import Derived.Test.YtakblclkflnnpaaGreatDoorP17
set_option linter.unusedVariables false
set_option linter.unusedSimpArgs false
section
open Go.RowKit Go.Pl Go.Av
namespace Go.Proofs.YtakblclkflnnpaaGreatDoor
set_option maxHeartbeats 4000000
def ZaJ (s:Nat)(l:List It):It:=.mk 4 0 [] (l++[.mk 2 0 (List.replicate (2*s) 0) []])
abbrev shU (k:IntKind)(z:Int)(q:Int):Int:=IntKind.u8.wrap (z.fdiv (2 ^ (min q.toNat k.bits)))
def Zo4 (s:Nat)(b:List UInt8):List E:=
 if s=1 then [.int .u8 (shU .u16 (Zed b) 8),.int .u8 (IntKind.u8.wrap (Zed b))]
 else [.int .u8 (shU .u32 (Zeu b) 24),.int .u8 (shU .u32 (Zeu b) 16),.int .u8 (shU .u32 (Zeu b) 8),.int .u8 (IntKind.u8.wrap (Zeu b))]
def by8 (z:Int):UInt8:=UInt8.ofNat (IntKind.u8.wrap z).toNat
theorem Zpo (z:Int):E.byte (by8 z)=.int .u8 (IntKind.u8.wrap z):=by
 have h:0<=IntKind.u8.wrap z/\IntKind.u8.wrap z<256:=by
  rw[IntKind.wrap_u8];omega
 show E.int .u8 ((by8 z).toNat:Int)=_
 have e:((by8 z).toNat:Int)=IntKind.u8.wrap z:=by
  unfold by8
  rw[UInt8.toNat_ofNat']
  omega
 rw[e]
def ZdP (s:Nat)(b:List UInt8):List UInt8:=
 if s=1 then [by8 ((Zed b).fdiv (2 ^ (min (8:Int).toNat IntKind.u16.bits))),by8 (Zed b)]
 else [by8 ((Zeu b).fdiv (2 ^ (min (24:Int).toNat IntKind.u32.bits))),by8 ((Zeu b).fdiv (2 ^ (min (16:Int).toNat IntKind.u32.bits))),by8 ((Zeu b).fdiv (2 ^ (min (8:Int).toNat IntKind.u32.bits))),by8 (Zeu b)]
theorem ZkR (s:Nat)(b:List UInt8):(ZdP s b).map E.byte=Zo4 s b:=by
 unfold ZdP Zo4
 split<;>simp only[List.map_cons,List.map_nil,Zpo]
theorem ZeV (s:Nat)(b:List UInt8)(hs:s=1\/s=2):(ZdP s b).length=2*s:=by
 unfold ZdP
 rcases hs with rfl|rfl<;>rfl
theorem Zgs:∀ {l r:List It},wfs l->wfs r->wfs (l++r)
 | [],r,_,h=>h
 | x::l,r,h1,h2=>⟨h1.1,Zgs h1.2 h2⟩
theorem ZkS {s:Nat}{l:List It}(hs:s=1\/s=2)(hws:wfs l)(hl:l.length<=1000000):wfI (ZaJ s l):=by
 refine⟨by decide,by simp,by simp;omega,Zgs hws ⟨⟨by decide,?_,by simp,trivial⟩,trivial⟩⟩
 rcases hs with rfl|rfl<;>decide
theorem ZfZ [Known](s:Nat)(hs:s=1\/s=2):AP Tryz.prog 142 [.int .i64 (s:Int)] (.int .i64 ((2*s:Nat):Int)) []:=by
 rcases hs with rfl|rfl
 all_goals
  refine AP.ofA ?_
  refine Zap Tryz.func142 rfl Tryz.ntmps142 rfl rfl ?_
  repeat'(first|(apply Zai Zab;exact Z))
  all_goals(apply Zax [];(apply Zad Zab;exact Z);(iterate 4 exact Z))
  all_goals rfl
theorem Zgt [Known][KnownU8](l:List It)(s:Nat)(hs:s=1\/s=2)(hne:l ≠ [])(hws:wfs l)(hl:l.length<=1000000)(hlim:(Za1 (ZaJ s l)).length<=1000000000) :
  AP Tryz.prog 141 [.sl .ext (Zas l),.int .i64 (s:Int)] (match Zaw (ZaJ s l) with|true=>.tup [byE (ZdP s (Za1 (ZaJ s l))),.int .i64 0]|false=>.tup [.sl .ext [],.int .i64 3]) []:=by
 have hwz:=ZkS hs hws hl
 have hC:=ZkL l hne hl
 have hW:=ZkQ (ZaJ s l) hwz (by omega) (Zb7 _ hwz)
 have hU:=ZbG l
 have hlen:=Zan l
 have hmx:(Zas l).length<=1000000:=by omega
 have hZ:=ZfZ s hs
 have hB:=ZeS (List.replicate (2*s) 0) (by rcases hs with rfl|rfl<;>decide)
 have hL:=ZcE (l++[.mk 2 0 (List.replicate (2*s) 0) []]) (by simp;omega) hwz.2.2.2
 have hSh:=Zmf (Za1 (ZaJ s l)) hlim
 have hLo:=Zny (Za1 (ZaJ s l)) hlim
 rw[Zb5]at hL
 have eZ:itD (.mk 4 0 [] (l++[.mk 2 0 (List.replicate (2*s) 0) []]))=itD (ZaJ s l):=rfl
 rw[eZ]at hL
 unfold byE
 rw[ZkR]
 rw[<- hlen]at hC
 cases hr:Zaw (ZaJ s l) with
 | false=>
  rw[hr]at hW
  replace hW:AP Tryz.prog 112 [itD (ZaJ s l)] (.tup [.sl .ext [],.int .i64 3]) []:=hW
  have eL:itD (ZaJ s l)=.agg [.int .i64 4,.int .u64 0,.sl .ext [],.sl .ext (Zas (l++[.mk 2 0 (List.replicate (2*s) 0) []]))]:=rfl
  rw[eL]at hL hW
  generalize Zas (l++[.mk 2 0 (List.replicate (2*s) 0) []])=ZL at *
  clear hSh hLo hlim hwz eZ eL
  rcases hs with rfl|rfl
  all_goals
   refine AP.ofA ?_
   refine Zap Tryz.func141 rfl Tryz.ntmps141 rfl rfl ?_
   repeat'(first|(apply ZaS [] [] (hC);kernel_rfl;(iterate 10 exact Z))|(apply Zaa (hZ);kernel_rfl;(iterate 4 exact Z))|(apply ZcO Zab (l:=2);(iterate 12 exact Z))|(apply ZcO Zab (l:=4);(iterate 12 exact Z))|(apply Zaa (hB);kernel_rfl;(iterate 4 exact Z))|(apply Zaa (hL);kernel_rfl;(iterate 4 exact Z))|(apply Zaa (hW);kernel_rfl;(iterate 4 exact Z))|(apply Zaj Zab;exact Z)|(apply Zai Zab;exact Z)|(apply Zay Zab;exact Z)|(apply Zac;exact Z;exact Go.Zqn)|(apply Za5 Zab;(iterate 12 exact Z))|(apply ZaK Zab;(iterate 6 exact Z);(first|with_reducible assumption|decide +kernel|exact Z|rotate_left);exact Z;exact Z;(first|exact Zag rfl|with_reducible assumption|decide +kernel|rotate_left);(first|exact Zag rfl|with_reducible assumption|decide +kernel|rotate_left);(first|exact Go.Zqn|rotate_left);(first|exact Go.Zqn|rotate_left);(first|exact Go.Zqn|rotate_left);exact Z;exact Z))
   all_goals first|((apply Zax [];(apply Zad Zab;exact Z);(iterate 4 exact Z)))|skip
   all_goals first|rfl|(first|rfl|(simp only[List.length_append,List.length_cons,List.length_nil,List.length_map,Zan];done)|(simp only[List.length_append,List.length_cons,List.length_nil,List.length_map,Zan]at *;(try unfold maxLen);(try simp only[Nat.add_mul]);omega))|(simp;done)|(simp;omega)|(simp;unfold maxLen;omega)
 | true=>
  rw[hr]at hW
  replace hW:AP Tryz.prog 112 [itD (ZaJ s l)] (.tup [byE (Za1 (ZaJ s l)),.int .i64 0]) []:=hW
  have eL:itD (ZaJ s l)=.agg [.int .i64 4,.int .u64 0,.sl .ext [],.sl .ext (Zas (l++[.mk 2 0 (List.replicate (2*s) 0) []]))]:=rfl
  rw[eL]at hL hW
  generalize Zas (l++[.mk 2 0 (List.replicate (2*s) 0) []])=ZL at *
  generalize Za1 (ZaJ s l)=PZ at *
  clear hlim hwz eZ eL hr
  rcases hs with rfl|rfl
  all_goals
   refine AP.ofA ?_
   refine Zap Tryz.func141 rfl Tryz.ntmps141 rfl rfl ?_
   repeat'(first|(apply ZaS [] [] (hC);kernel_rfl;(iterate 10 exact Z))|(apply Zaa (hZ);kernel_rfl;(iterate 4 exact Z))|(apply ZcO Zab (l:=2);(iterate 12 exact Z))|(apply ZcO Zab (l:=4);(iterate 12 exact Z))|(apply Zaa (hB);kernel_rfl;(iterate 4 exact Z))|(apply Zaa (hL);kernel_rfl;(iterate 4 exact Z))|(apply Zaa (hW);kernel_rfl;(iterate 4 exact Z))|(apply Zaa (hSh);kernel_rfl;(iterate 4 exact Z))|(apply Zaa (hLo);kernel_rfl;(iterate 4 exact Z))|(apply Zaj Zab;exact Z)|(apply Zai Zab;exact Z)|(apply Zac;exact Z;exact Go.Zqn)|(apply Zae;exact Z;exact Go.Zqn)|(apply Za5 Zab;(iterate 12 exact Z))|(apply ZaK Zab;(iterate 6 exact Z);(first|with_reducible assumption|decide +kernel|exact Z|rotate_left);exact Z;exact Z;(first|exact Zag rfl|with_reducible assumption|decide +kernel|rotate_left);(first|exact Zag rfl|with_reducible assumption|decide +kernel|rotate_left);(first|exact Go.Zqn|rotate_left);(first|exact Go.Zqn|rotate_left);(first|exact Go.Zqn|rotate_left);exact Z;exact Z)|(apply Zbv;exact Z;exact Z;(first|exact Go.Zqn|rotate_left);exact Z))
   all_goals first|((apply Zax [];(apply Zad Zab;exact Z);(iterate 4 exact Z)))|skip
   all_goals first|rfl|(first|rfl|(simp only[List.length_append,List.length_cons,List.length_nil,List.length_map,Zan];done)|(simp only[List.length_append,List.length_cons,List.length_nil,List.length_map,Zan]at *;(try unfold maxLen);(try simp only[Nat.add_mul]);omega))|(simp;done)|(simp;omega)|(simp;unfold maxLen;omega)
theorem Zmh [Known](l:List It)(hne:l ≠ [])(hl:l.length<=2199023255488)(hws:wfs l):AT Tryz.prog 87 [.sl .ext (Zas l)] [] [] (.agg [.int .i64 4,.int .u64 0,.sl .nil [],.sl (.own 0) (Zas l)]) [] [⟨(Zas l).length,4,32⟩]:=by
 have ih':∀ y ∈ l,AP Tryz.prog 145 [itD y] (itD y) []:=fun y hy=>Zfj y (ZaP hws y hy)
 have hlen:=Zan l
 refine Zap Tryz.func87 rfl Tryz.ntmps87 rfl rfl ?_
 repeat'(first|(apply Zaj Zab;exact Z)|(apply Zai Zab;exact Z)|(apply Zal Zab;(iterate 4 exact Z)))
 refine ZaC (fun k' tm bx fr=>∃(i c:Nat) (L:List E),k'+i=l.length/\c=L.length/\L=Zas (l.take i)/\tm=[(3,.ptr 1 0),(2,.ptr 0 0),(7,.sl .ext (Zas l)),(8,.int .i64 ((Zas l).length:Int)),(9,.int .i64 (i:Int))] /\
  ((i=0/\bx=[[.int .i64 0,.int .u64 0,.sl .nil [],.sl .nil []],[.int .i64 4,.int .u64 0,.sl .nil [],.sl .nil []]]/\fr=[]) \/
  (bx=[[.int .i64 0,.int .u64 0,.sl .nil [],.sl .nil []],[.int .i64 4,.int .u64 0,.sl .nil [],.sl (.own 0) L]]/\fr=[⟨c,4,32⟩]))) (l.length+1) (Lands.mk' (m:=l.length) (Nat.lt_succ_self _) ⟨0,0,[],rfl,rfl,rfl,rfl,.inl ⟨rfl,rfl,rfl⟩⟩ ?_ rfl rfl rfl rfl rfl rfl) ?_
 ·exact .cons rfl (.cons rfl (.cons rfl (.cons rfl (.cons rfl .nil))))
 rintro k' tm bx fr ⟨i,c,L,hi,hc,hL,rfl,⟨rfl,rfl,rfl⟩ | ⟨rfl,rfl⟩⟩
 ·cases l with
  | nil=>exact absurd rfl hne
  | cons y l=>
   have hc:=ih' y (List.mem_cons_self ..)
   have hU:=ZbG (y::l)
   have hd:decide (((0:Nat):Int)<((Zas (y::l)).length:Int))=true:=decide_eq_true (by rw[Zas];simp)
   obtain⟨k1,n1,b1,l1⟩:=y
   repeat'(first|(apply Zaa (hc);kernel_rfl;(iterate 4 exact Z))|(apply Zbn Zab;(iterate 6 exact Z);exact Zag rfl;exact List.cons_ne_nil _ _;exact Z;decide +kernel;decide +kernel;(iterate 3 exact Z))|(apply Zaj Zab;exact Z)|(apply Zai Zab;exact Z)|(apply Zay Zab;exact Z)|(apply Zac;exact Z;exact Go.Zqn)|(apply Za5 Zab;(iterate 12 exact Z))|(apply Zam 5 ZaR;decide +kernel;kernel_rfl;kernel_rfl;kernel_rfl;exact Z;exact Z)|(apply Zar;(iterate 4 exact Z))|exact AE.nil _ _ _ _|(apply Zav;exact Z)|(apply Zaz;exact Z;exact Z;decide +kernel;exact Z)|(apply ZaA;exact Z)|exact AO.nil _ _ _|(apply Zaq;(decide +kernel))|exact AOs.nil|exact ZaI rfl rfl|exact ZdO rfl rfl rfl rfl rfl|(apply Zat Zab;(iterate 6 exact Z);(first|exact Go.Zqn|rotate_left);(first|with_reducible assumption|decide +kernel|exact Z);(first|exact Zag rfl|with_reducible assumption|decide +kernel|rotate_left)))
   refine Lands.mk' (m:=k'-1) (by simp at hi;omega) ⟨1,1,Zas [It.mk k1 n1 b1 l1],by simp at hi ⊢;omega,rfl,rfl,rfl,.inr ⟨rfl,rfl⟩⟩ ?_ rfl rfl rfl rfl rfl rfl
   exact .cons rfl (.cons rfl (.cons rfl (.cons rfl (.cons rfl .nil))))
 ·have hU:=ZbG l
  have hU2:Uni 4 L:=hL ▸ ZbG (l.take i)
  have el:=Zan (l.take i)
  rw[<- hL]at el
  subst hc
  rcases Nat.lt_or_ge i l.length with hlt|hge
  ·have hd:decide ((i:Int)<((Zas l).length:Int))=true:=decide_eq_true (by omega)
   obtain⟨⟨k1,n1,b1,l1⟩,hy⟩:∃ y,l[i]?=some y:=⟨_,List.getElem?_eq_getElem hlt⟩
   have hv:(Zas l)[((i:Nat):Int).toNat]?=some (.agg [.int .i64 k1,.int .u64 (n1:Int),.sl (b1.map E.byte),.sl (Zas l1)]):=by
    rw[Int.toNat_natCast,ZaB,List.getElem?_map,hy];rfl
   have hc:=ih' _ (List.mem_of_getElem? hy)
   have ei:IntKind.i64.wrap ((i:Int)+1)=((i+1:Nat):Int):=by rw[IntWalk.i64_in _ (by omega)];omega
   have hs:L++[E.agg [.int .i64 k1,.int .u64 (n1:Int),.sl (b1.map E.byte),.sl (Zas l1)]]=Zas (l.take (i+1)):=by
    rw[hL,List.take_add_one,hy];exact(Zb5 _ [It.mk k1 n1 b1 l1]).symm
   rw[List.length_take]at el
   repeat'(first|(apply Zaa (hc);kernel_rfl;(iterate 4 exact Z))|rw[ei]|(apply Zaj Zab;exact Z)|(apply Zai Zab;exact Z)|(apply Zay Zab;exact Z)|(apply Zac;exact Z;exact Go.Zqn)|(apply Za5 Zab;(iterate 12 exact Z))|(apply Zam 5 ZaR;decide +kernel;kernel_rfl;kernel_rfl;kernel_rfl;exact Z;exact Z)|(apply Zar;(iterate 4 exact Z))|exact AE.nil _ _ _ _|(apply Zav;exact Z)|(apply Zaz;exact Z;exact Z;decide +kernel;exact Z)|(apply ZaA;exact Z)|exact AO.nil _ _ _|(apply Zaq;(decide +kernel))|exact AOs.nil|exact ZaI rfl rfl|exact ZdO rfl rfl rfl rfl rfl|(apply ZaK Zab;(iterate 6 exact Z);(first|with_reducible assumption|decide +kernel|exact Z|rotate_left);exact Z;exact Z;(first|exact Zag rfl|with_reducible assumption|decide +kernel|rotate_left);(first|exact Zag rfl|with_reducible assumption|decide +kernel|rotate_left);(first|exact Go.Zqn|rotate_left);(first|exact Go.Zqn|rotate_left);(first|exact Go.Zqn|rotate_left);exact Z;exact Z)|(apply Zat Zab;(iterate 6 exact Z);(first|exact Go.Zqn|rotate_left);(first|with_reducible assumption|decide +kernel|exact Z);(first|exact Zag rfl|with_reducible assumption|decide +kernel|rotate_left)))
   ·refine Lands.mk' (m:=k'-1) (by omega) ⟨i+1,L.length+1,_,by omega,by rw[List.length_append];rfl,hs,rfl,.inr ⟨rfl,rfl⟩⟩ ?_ rfl rfl rfl rfl rfl rfl
    exact .cons rfl (.cons rfl (.cons rfl (.cons rfl (.cons rfl .nil))))
   all_goals(first|rfl|(simp only[List.length_append,List.length_cons,List.length_nil,List.length_map,Zan];done)|(simp only[List.length_append,List.length_cons,List.length_nil,List.length_map,Zan]at *;(try unfold maxLen);(try simp only[Nat.add_mul]);omega))
  ·have hd:decide ((i:Int)<((Zas l).length:Int))=false:=decide_eq_false (by omega)
   rw[List.take_of_length_le hge]at hL
   subst hL
   repeat'(first|(apply Zai Zab;exact Z)|(apply Zae;exact Z;exact Go.Zqn))
   all_goals(apply ZeR [] [0];(apply Zad Zab;exact Z);(iterate 7 exact Z))
   all_goals rfl
def z0:It:=.mk 0 0 [] []
def ZdR (s:Nat)(l:List It):It:=.mk 4 0 [] (l++[.mk 2 0 (ZdP s (Za1 (ZaJ s l))) []])
def Zfp (l:List It)(a:Int):It × Int:=match decide (a<0)||decide (a ≥ (l.length:Int)) with
 | true=>(z0,1)
 | false=>match l.all Zaw&&decide (ZaM l a ≥ 0) with
  | false=>(z0,3)
  | true=>match decide (ZaM l a>0) with
   | false=>(match Zaw (.mk 4 0 [] l) with|true=>(.mk 4 0 [] l,0)|false=>(z0,3))
   | true=>(match Zaw (ZaJ (ZaM l a).toNat l) with
    | false=>(z0,3)
    | true=>match Zaw (ZdR (ZaM l a).toNat l) with
     | false=>(z0,3)
     | true=>(ZdR (ZaM l a).toNat l,0))
abbrev ZkT (r:It × Int):D:=.tup [itD r.1,.int .i64 r.2]
theorem ZbU (l:List It)(a:Int):ZaM l a = -1\/((ZaM l a=0\/ZaM l a=1\/ZaM l a=2)/\0<=a/\a<(l.length:Int)):=by
 unfold ZaM
 split
 ·exact .inl rfl
 rename_i h0
 cases h:l[a.toNat]? with
 | none=>exact .inl rfl
 | some x=>
  obtain⟨k,n,b,r⟩:=x
  have hlt:=(List.getElem?_eq_some_iff.1 h).1
  dsimp only
  cases t:decide ((n:Int)>2) with
  | true=>exact .inl rfl
  | false=>
   have:=of_decide_eq_false t
   cases It.beq (.mk k n b r) (.mk 0 n [] []) with
   | false=>exact .inl rfl
   | true=>dsimp only;omega
theorem ZkU {s:Nat}{l:List It}(hs:s=1\/s=2)(hws:wfs l)(hl:l.length<=1000000):wfI (ZdR s l):=by
 refine⟨by decide,by simp,by simp;omega,Zgs hws ⟨⟨by decide,?_,by simp,trivial⟩,trivial⟩⟩
 rw[ZeV _ _ hs]
 omega
theorem ZnD [Known][KnownU8](l:List It)(a:Int)(hws:wfs l)(hl:l.length<=1000000)(hlim:∀ s,s=1\/s=2->(Za1 (ZaJ s l)).length<=1000000000):AP Tryz.prog 83 [.sl .ext (Zas l),.int .i64 a] (ZkT (Zfp l a)) []:=by
 have hlen:=Zan l
 have hU:=ZbG l
 have hC:=ZiV l hws hl
 have hT:=Zfn l hws a
 unfold Zfp
 rw[<- hlen]
 rcases Int.lt_or_le a 0 with h0|h0
 ·have t1:decide (a<0)=true:=decide_eq_true h0
  rw[t1,Bool.true_or]
  dsimp only[z0]
  refine AP.ofA ?_
  refine Zap Tryz.func83 rfl Tryz.ntmps83 rfl rfl ?_
  repeat'(first|(apply Zaj Zab;exact Z)|(apply Zai Zab;exact Z)|(apply Zay Zab;exact Z)|(apply Zao;(iterate 3 exact Z);exact Go.Zqn)|(apply Zak;exact Z;exact Go.Zqn;exact Z;exact Z)|(apply Zac;exact Z;exact Go.Zqn))
  all_goals(apply Zax [];(apply Zad Zab;exact Z);(iterate 4 exact Z))
  all_goals rfl
 have t1:decide (a<0)=false:=decide_eq_false (by omega)
 rw[t1,Bool.false_or]
 cases t2:decide (a ≥ ((Zas l).length:Int)) with
 | true=>
  dsimp only[z0]
  refine AP.ofA ?_
  refine Zap Tryz.func83 rfl Tryz.ntmps83 rfl rfl ?_
  repeat'(first|(apply Zaj Zab;exact Z)|(apply Zai Zab;exact Z)|(apply Zay Zab;exact Z)|(apply Zaf;(iterate 3 exact Z);exact Go.Zqn)|(apply Zah;exact Z;exact Go.Zqn;exact Z;exact Z)|(apply Zac;exact Z;exact Go.Zqn)|(apply Zal Zab;(iterate 4 exact Z)))
  all_goals(apply Zax [];(apply Zad Zab;exact Z);(iterate 4 exact Z))
  all_goals rfl
 | false=>
 have hne:l ≠ []:=by rintro rfl;have:=of_decide_eq_false t2;simp[Zas]at this;omega
 cases hA:l.all Zaw with
 | false=>
  rw[hA]at hC
  replace hC:AP Tryz.prog 140 _ (.bool true) []:=hC
  rw[Bool.false_and]
  dsimp only[z0]
  generalize ZaM l a=tv at *
  refine AP.ofA ?_
  refine Zap Tryz.func83 rfl Tryz.ntmps83 rfl rfl ?_
  repeat'(first|(apply Zaa (hC);kernel_rfl;(iterate 4 exact Z))|(apply Zaa (hT);kernel_rfl;(iterate 4 exact Z))|(apply Zaj Zab;exact Z)|(apply Zai Zab;exact Z)|(apply Zay Zab;exact Z)|(apply Zaf;(iterate 3 exact Z);exact Go.Zqn)|(apply Zao;(iterate 3 exact Z);exact Go.Zqn)|(apply Zak;exact Z;exact Go.Zqn;exact Z;exact Z)|(apply Zah;exact Z;exact Go.Zqn;exact Z;exact Z)|(apply Zac;exact Z;exact Go.Zqn)|(apply Zae;exact Z;exact Go.Zqn)|(apply Zal Zab;(iterate 4 exact Z)))
  all_goals(apply Zax [];(apply Zad Zab;exact Z);(iterate 4 exact Z))
  all_goals rfl
 | true=>
  rw[hA]at hC
  replace hC:AP Tryz.prog 140 _ (.bool false) []:=hC
  rw[Bool.true_and]
  rcases ZbU l a with e|⟨e|e,_,_⟩
  ·rw[e]at hT ⊢
   dsimp only[z0]
   refine AP.ofA ?_
   refine Zap Tryz.func83 rfl Tryz.ntmps83 rfl rfl ?_
   repeat'(first|(apply Zaa (hC);kernel_rfl;(iterate 4 exact Z))|(apply Zaa (hT);kernel_rfl;(iterate 4 exact Z))|(apply Zaj Zab;exact Z)|(apply Zai Zab;exact Z)|(apply Zay Zab;exact Z)|(apply Zaf;(iterate 3 exact Z);exact Go.Zqn)|(apply Zah;exact Z;exact Go.Zqn;exact Z;exact Z)|(apply Zac;exact Z;exact Go.Zqn)|(apply Zae;exact Z;exact Go.Zqn)|(apply Zal Zab;(iterate 4 exact Z)))
   all_goals(apply Zax [];(apply Zad Zab;exact Z);(iterate 4 exact Z))
   all_goals rfl
  ·rw[e]at hT ⊢
   have hL:=ZcE l (by omega) hws
   have hR:=Zb7 (.mk 4 0 [] l) ⟨by decide,by simp,by omega,hws⟩
   cases hr:Zaw (.mk 4 0 [] l) with
   | false=>
    rw[hr]at hR
    dsimp only[z0]
    refine AP.ofA ?_
    refine Zap Tryz.func83 rfl Tryz.ntmps83 rfl rfl ?_
    repeat'(first|(apply Zaa (hC);kernel_rfl;(iterate 4 exact Z))|(apply Zaa (hT);kernel_rfl;(iterate 4 exact Z))|(apply Zaa (hL);kernel_rfl;(iterate 4 exact Z))|(apply Zaa (hR);kernel_rfl;(iterate 4 exact Z))|(apply Zaj Zab;exact Z)|(apply Zai Zab;exact Z)|(apply Zay Zab;exact Z)|(apply Zaf;(iterate 3 exact Z);exact Go.Zqn)|(apply Zah;exact Z;exact Go.Zqn;exact Z;exact Z)|(apply Zac;exact Z;exact Go.Zqn)|(apply Zae;exact Z;exact Go.Zqn)|(apply Zal Zab;(iterate 4 exact Z)))
    all_goals(apply Zax [];(apply Zad Zab;exact Z);(iterate 4 exact Z))
    all_goals rfl
   | true=>
    rw[hr]at hR
    refine AP.ofA ?_
    refine Zap Tryz.func83 rfl Tryz.ntmps83 rfl rfl ?_
    repeat'(first|(apply Zaa (hC);kernel_rfl;(iterate 4 exact Z))|(apply Zaa (hT);kernel_rfl;(iterate 4 exact Z))|(apply Zaa (hL);kernel_rfl;(iterate 4 exact Z))|(apply Zaa (hR);kernel_rfl;(iterate 4 exact Z))|(apply Zaj Zab;exact Z)|(apply Zai Zab;exact Z)|(apply Zay Zab;exact Z)|(apply Zaf;(iterate 3 exact Z);exact Go.Zqn)|(apply Zah;exact Z;exact Go.Zqn;exact Z;exact Z)|(apply Zae;exact Z;exact Go.Zqn)|(apply Zal Zab;(iterate 4 exact Z)))
    all_goals(apply Zax [];(apply Zad Zab;exact Z);(iterate 4 exact Z))
    all_goals rfl
  ·obtain⟨s,hs,es⟩:∃ s:Nat,(s=1\/s=2)/\ZaM l a=(s:Int):=⟨(ZaM l a).toNat,by omega,by omega⟩
   rw[es]at hT ⊢
   rw[Int.toNat_natCast]
   have hS:=Zgt l s hs hne hws hl (hlim s hs)
   have hL:=Zmh l hne (by omega) hws
   have hsl:=ZeV s (Za1 (ZaJ s l)) hs
   have hB:=ZeS (ZdP s (Za1 (ZaJ s l))) (by omega)
   have hR:=Zb7 (ZdR s l) (ZkU hs hws hl)
   have hmx:(Zas l).length<=1000000:=by omega
   have d1:decide ((s:Int)<0)=false:=decide_eq_false (by omega)
   have d2:decide ((s:Int)>0)=true:=decide_eq_true (by omega)
   have d3:decide ((s:Int) ≥ 0)=true:=decide_eq_true (by omega)
   rw[d2,d3]
   cases hz:Zaw (ZaJ s l) with
   | false=>
    rw[hz]at hS
    dsimp only[z0]
    dsimp only at hS
    refine AP.ofA ?_
    refine Zap Tryz.func83 rfl Tryz.ntmps83 rfl rfl ?_
    repeat'(first|(apply Zaa (hC);kernel_rfl;(iterate 4 exact Z))|(apply Zaa (hT);kernel_rfl;(iterate 4 exact Z))|(apply ZaS [] [] (hL);kernel_rfl;(iterate 10 exact Z))|(apply Zaa (hS);kernel_rfl;(iterate 4 exact Z))|(apply Zaj Zab;exact Z)|(apply Zai Zab;exact Z)|(apply Zay Zab;exact Z)|(apply Zaf;(iterate 3 exact Z);exact Go.Zqn)|(apply Zah;exact Z;exact Go.Zqn;exact Z;exact Z)|(apply Zac;exact Z;exact Go.Zqn)|(apply Zae;exact Z;exact Go.Zqn)|(apply Zal Zab;(iterate 4 exact Z)))
    all_goals(apply Zax [];(apply Zad Zab;exact Z);(iterate 4 exact Z))
    all_goals rfl
   | true=>
    rw[hz]at hS
    dsimp only at hS ⊢
    have eO:itD (ZdR s l)=.agg [.int .i64 4,.int .u64 0,.sl .ext [],.sl .ext (Zas l++[.agg [.int .i64 2,.int .u64 0,.sl ((ZdP s (Za1 (ZaJ s l))).map E.byte),.sl []]])]:=by
     show D.agg [.int .i64 4,.int .u64 0,.sl .ext [],.sl .ext (Zas (l++[.mk 2 0 (ZdP s (Za1 (ZaJ s l))) []]))]=_
     rw[Zb5]
     rfl
    cases hr:Zaw (ZdR s l) with
    | false=>
     rw[hr,eO]at hR
     dsimp only[z0]
     generalize ZdP s (Za1 (ZaJ s l))=SB at *
     refine AP.ofA ?_
     refine Zap Tryz.func83 rfl Tryz.ntmps83 rfl rfl ?_
     repeat'(first|(apply Zaa (hC);kernel_rfl;(iterate 4 exact Z))|(apply Zaa (hT);kernel_rfl;(iterate 4 exact Z))|(apply ZaS [] [] (hL);kernel_rfl;(iterate 10 exact Z))|(apply Zaa (hS);kernel_rfl;(iterate 4 exact Z))|(apply Zaa (hB);kernel_rfl;(iterate 4 exact Z))|(apply Zaa (hR);kernel_rfl;(iterate 4 exact Z))|(apply Zaj Zab;exact Z)|(apply Zai Zab;exact Z)|(apply Zay Zab;exact Z)|(apply Zaf;(iterate 3 exact Z);exact Go.Zqn)|(apply Zah;exact Z;exact Go.Zqn;exact Z;exact Z)|(apply Zac;exact Z;exact Go.Zqn)|(apply Zae;exact Z;exact Go.Zqn)|(apply Zal Zab;(iterate 4 exact Z))|(apply Za5 Zab;(iterate 12 exact Z))|(apply Zam 5 ZaR;decide +kernel;kernel_rfl;kernel_rfl;kernel_rfl;exact Z;exact Z)|(apply Zar;(iterate 4 exact Z))|exact AE.nil _ _ _ _|(apply Zav;exact Z)|(apply Zaz;exact Z;exact Z;decide +kernel;exact Z)|(apply ZaA;exact Z)|exact AO.nil _ _ _|(apply Zaq;(decide +kernel))|exact AOs.nil|exact ZaI rfl rfl|exact ZdO rfl rfl rfl rfl rfl|(apply ZaK Zab;(iterate 6 exact Z);(first|with_reducible assumption|decide +kernel|exact Z|rotate_left);exact Z;exact Z;(first|exact Zag rfl|with_reducible assumption|decide +kernel|rotate_left);(first|exact Zag rfl|with_reducible assumption|decide +kernel|rotate_left);(first|exact Go.Zqn|rotate_left);(first|exact Go.Zqn|rotate_left);(first|exact Go.Zqn|rotate_left);exact Z;exact Z))
     all_goals first|((apply Zax [];(apply Zad Zab;exact Z);(iterate 4 exact Z)))|skip
     all_goals first|rfl|(first|rfl|(simp only[List.length_append,List.length_cons,List.length_nil,List.length_map,Zan];done)|(simp only[List.length_append,List.length_cons,List.length_nil,List.length_map,Zan]at *;(try unfold maxLen);(try simp only[Nat.add_mul]);omega))|(simp;done)|(simp;omega)|(simp;unfold maxLen;omega)
    | true=>
     rw[hr,eO]at hR
     dsimp only[ZkT]
     rw[eO]
     generalize ZdP s (Za1 (ZaJ s l))=SB at *
     refine AP.ofA ?_
     refine Zap Tryz.func83 rfl Tryz.ntmps83 rfl rfl ?_
     repeat'(first|(apply Zaa (hC);kernel_rfl;(iterate 4 exact Z))|(apply Zaa (hT);kernel_rfl;(iterate 4 exact Z))|(apply ZaS [] [] (hL);kernel_rfl;(iterate 10 exact Z))|(apply Zaa (hS);kernel_rfl;(iterate 4 exact Z))|(apply Zaa (hB);kernel_rfl;(iterate 4 exact Z))|(apply Zaa (hR);kernel_rfl;(iterate 4 exact Z))|(apply Zaj Zab;exact Z)|(apply Zai Zab;exact Z)|(apply Zay Zab;exact Z)|(apply Zaf;(iterate 3 exact Z);exact Go.Zqn)|(apply Zah;exact Z;exact Go.Zqn;exact Z;exact Z)|(apply Zac;exact Z;exact Go.Zqn)|(apply Zae;exact Z;exact Go.Zqn)|(apply Zal Zab;(iterate 4 exact Z))|(apply Za5 Zab;(iterate 12 exact Z))|(apply Zam 5 ZaR;decide +kernel;kernel_rfl;kernel_rfl;kernel_rfl;exact Z;exact Z)|(apply Zar;(iterate 4 exact Z))|exact AE.nil _ _ _ _|(apply Zav;exact Z)|(apply Zaz;exact Z;exact Z;decide +kernel;exact Z)|(apply ZaA;exact Z)|exact AO.nil _ _ _|(apply Zaq;(decide +kernel))|exact AOs.nil|exact ZaI rfl rfl|exact ZdO rfl rfl rfl rfl rfl|(apply ZaK Zab;(iterate 6 exact Z);(first|with_reducible assumption|decide +kernel|exact Z|rotate_left);exact Z;exact Z;(first|exact Zag rfl|with_reducible assumption|decide +kernel|rotate_left);(first|exact Zag rfl|with_reducible assumption|decide +kernel|rotate_left);(first|exact Go.Zqn|rotate_left);(first|exact Go.Zqn|rotate_left);(first|exact Go.Zqn|rotate_left);exact Z;exact Z))
     all_goals first|((apply Zax [];(apply Zad Zab;exact Z);(iterate 4 exact Z)))|skip
     all_goals first|rfl|(first|rfl|(simp only[List.length_append,List.length_cons,List.length_nil,List.length_map,Zan];done)|(simp only[List.length_append,List.length_cons,List.length_nil,List.length_map,Zan]at *;(try unfold maxLen);(try simp only[Nat.add_mul]);omega))|(simp;done)|(simp;omega)|(simp;unfold maxLen;omega)
end Go.Proofs.YtakblclkflnnpaaGreatDoor
end
