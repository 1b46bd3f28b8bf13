/- Slices of bytes: copied, held against each other. -/
import Derived.Test.YtakblclkflnnpaaGreatDoorK10
import Derived.Test.YtakblclkflnnpaaGreatDoorK11
set_option linter.unusedVariables false
set_option linter.unusedSimpArgs false
section
open Go.RowKit Go.Pl Go.Av
namespace Go.Proofs.YtakblclkflnnpaaGreatDoor
set_option maxHeartbeats 4000000
theorem Zei [Known](b:List UInt8)(hb:b.length<=140737488351232):AP Tryz.prog 98 [byE b] (byE b) []:=by
 have hU:=Zbm b
 cases b with
 | nil=>
  refine AP.ofA ?_
  refine Zan Tryz.func98 rfl Tryz.ntmps98 rfl rfl ?_
  repeat'(first|(apply Zin Zab;(iterate 5 exact Z);intro b hbn)|(apply Zaj Zab;exact Z)|(apply Zah Zab;exact Z)|(apply Zav Zab;exact Z)|(apply Zbw;exact Z;all_goals intro hb)|(apply Zfw Zab;(iterate 12 exact Z))|(apply ZaG Zab;(iterate 6 exact Z)))
  all_goals(apply Zaw [];(apply Zad Zab;exact Z);(iterate 4 exact Z))
  all_goals rfl
 | cons c b=>
  refine AP.ofA ?_
  refine Zan Tryz.func98 rfl Tryz.ntmps98 rfl rfl ?_
  repeat'(first|(apply Zin Zab;(iterate 5 exact Z);intro b hbn;(have hbn2:=hbn (List.cons_ne_nil _ _));subst hbn2;clear hbn)|(apply Zaj Zab;exact Z)|(apply Zah Zab;exact Z)|(apply Zav Zab;exact Z)|(apply Zaf;exact Z;(first|with_reducible assumption|(solve|simp only[bn])))|(apply Zfw Zab;(iterate 12 exact Z))|(apply ZaJ Zab;(iterate 6 exact Z);(first|with_reducible assumption|exact Z|rotate_left);exact Z;exact Z;(first|exact Zai rfl|with_reducible assumption|rotate_left);(first|exact Zai rfl|with_reducible assumption|rotate_left);(first|exact Go.ZrK|rotate_left);(first|exact Go.ZrK|rotate_left);(first|exact Go.ZrK|rotate_left);exact Z;exact Z))
  all_goals first|(apply Zaw [];(apply Zad Zab;exact Z);(iterate 4 exact Z))|skip
  all_goals first|rfl|(simp at hb ⊢;(try unfold maxLen);omega)
theorem Zjo [Known](a b:List UInt8):AP Tryz.prog 101 [byE a,byE b] (.bool (a==b)) []:=by
 refine AP.ofA ?_
 refine Zan Tryz.func101 rfl Tryz.ntmps101 rfl rfl ?_
 repeat'(first|(apply Zaj Zab;exact Z)|(apply Zah Zab;exact Z)|(apply Zcs Zab;(iterate 9 exact Z)))
 all_goals(apply Zaw [];(apply Zad Zab;exact Z);(iterate 4 exact Z))
 all_goals rfl
end Go.Proofs.YtakblclkflnnpaaGreatDoor
end
section
open Go.RowKit Go.Pl Go.Av
namespace Go.Proofs.YtakblclkflnnpaaGreatDoor
set_option maxHeartbeats 4000000
theorem It.ind {P:It->Prop}(h:∀ k n b l,(∀ y ∈ l,P y)->P (.mk k n b l)):∀ x,P x:=by
 intro x
 refine It.rec (motive_1:=P) (motive_2:=fun l=>∀ y ∈ l,P y) (fun k n b l ih=>h k n b l ih) (by simp) (fun x l hx hl y hy=>?_) x
 rcases List.mem_cons.1 hy with rfl|hy
 ·exact hx
 ·exact hl y hy
mutual
def itE:It->E
 | .mk k n b l=>.agg [.int .i64 k,.int .u64 (n:Int),.sl (b.map E.byte),.sl (Zax l)]
def Zax:List It->List E
 | []=>[]
 | x::l=>itE x::Zax l
end
theorem ZaI:∀ l:List It,Zax l=l.map itE
 | []=>rfl
 | x::l=>by rw[Zax,List.map_cons,ZaI l]
theorem Zb4 (a b:List It):Zax (a++b)=Zax a++Zax b:=by rw[ZaI,ZaI,ZaI,List.map_append]
theorem Zar (l:List It):(Zax l).length=l.length:=by rw[ZaI,List.length_map]
abbrev itC (k:Int)(n:Nat)(b:List UInt8)(l:List It):List D:=[.int .i64 k,.int .u64 (n:Int),byE b,.sl .ext (Zax l)]
def itD:It->D
 | .mk k n b l=>.agg (itC k n b l)
theorem Zlk (x:It):(itE x).cells.length=4:=by obtain⟨k,n,b,l⟩:=x;rfl
theorem Zb8 (l:List It):Uni 4 (Zax l):=by rw[ZaI];exact Uni.map Zlk l
theorem ZaY:∀ {l:List It},wfs l->∀ y ∈ l,wfI y
 | x::l,⟨h1,h2⟩,y,hy=>by
  rcases List.mem_cons.1 hy with rfl|hy
  ·exact h1
  ·exact ZaY h2 y hy
theorem Zht [Known]:∀(x:It),wfI x->AP Tryz.prog 145 [itD x] (itD x) []:=by
 refine It.ind fun k n b l ih hw=>?_
 obtain⟨hn,hb,hl,hws⟩:=hw
 have ih':∀ y ∈ l,AP Tryz.prog 145 [itD y] (itD y) []:=fun y hy=>ih y hy (ZaY hws y hy)
 clear ih
 have hlen:=Zar l
 refine AP.ofA ?_
 refine Zan Tryz.func145 rfl Tryz.ntmps145 rfl rfl ?_
 repeat'(first|(apply Zaa (Zei b hb);kernel_rfl;(iterate 4 exact Z))|(apply Zaj Zab;exact Z)|(apply Zah Zab;exact Z)|(apply Zam Zab;(iterate 4 exact Z)))
 refine ZaE (fun k' tm bx fr=>∃(i c:Nat) (L:List E),k'+i=l.length/\c=L.length/\L=Zax (l.take i)/\tm=[(1,.ptr 0 0),(2,.ptr 1 0),(13,.sl .ext (Zax l)),(14,.int .i64 ((Zax l).length:Int)),(15,.int .i64 (i:Int))] /\
  ((i=0/\bx=[[.int .i64 k,.int .u64 (n:Int),byE b,.sl .nil []],[.int .i64 0,.int .u64 0,.sl .nil [],.sl .nil []]]/\fr=[]) \/
  (bx=[[.int .i64 k,.int .u64 (n:Int),byE b,.sl (.own 0) L],[.int .i64 0,.int .u64 0,.sl .nil [],.sl .nil []]]/\fr=[⟨c,4,32⟩]))) (l.length+1) (Lands.mk' (m:=l.length) (Nat.lt_succ_self _) ⟨0,0,[],rfl,rfl,rfl,rfl,.inl ⟨rfl,rfl,rfl⟩⟩ ?_ rfl rfl rfl rfl rfl rfl) ?_
 ·exact .cons rfl (.cons rfl (.cons rfl (.cons rfl (.cons rfl .nil))))
 rintro k' tm bx fr ⟨i,c,L,hi,hc,hL,rfl,⟨rfl,rfl,rfl⟩ | ⟨rfl,rfl⟩⟩
 ·cases l with
  | nil=>
   repeat'(first|(apply Zah Zab;exact Z)|(apply Zaf;exact Z;exact Go.ZrJ))
   all_goals(apply Zaw [];(apply Zad Zab;exact Z);(iterate 4 exact Z))
   all_goals rfl
  | cons y l=>
   have hc:=ih' y (List.mem_cons_self ..)
   have hU:=Zb8 (y::l)
   have hd:decide (((0:Nat):Int)<((Zax (y::l)).length:Int))=true:=decide_eq_true (by rw[Zax];simp)
   obtain⟨k1,n1,b1,l1⟩:=y
   repeat'(first|(apply Zaa (hc);kernel_rfl;(iterate 4 exact Z))|(apply ZaU Zab;(iterate 6 exact Z);exact Zai rfl;exact List.cons_ne_nil _ _;exact Z;decide +kernel;decide +kernel;(iterate 3 exact Z))|(apply Zaj Zab;exact Z)|(apply Zah Zab;exact Z)|(apply Zav Zab;exact Z)|(apply Zac;exact Z;exact Go.ZrJ)|(apply ZaX Zab;(iterate 12 exact Z))|(apply Zao 5 ZaL;decide +kernel;kernel_rfl;kernel_rfl;kernel_rfl;exact Z;exact Z)|(apply Zaq;(iterate 4 exact Z))|exact AE.nil _ _ _ _|(apply Zat;exact Z)|(apply Zay;exact Z;exact Z;decide +kernel;exact Z)|(apply Zaz;exact Z)|exact AO.nil _ _ _|(apply Zap;(decide +kernel))|exact AOs.nil|exact ZaH rfl rfl|exact Zc0 rfl rfl rfl rfl rfl|(apply Zau Zab;(iterate 6 exact Z);(first|exact Go.ZrJ|rotate_left);(first|with_reducible assumption|decide +kernel|exact Z);(first|exact Zai rfl|with_reducible assumption|decide +kernel|rotate_left)))
   refine Lands.mk' (m:=k'-1) (by simp at hi;omega) ⟨1,1,Zax [It.mk k1 n1 b1 l1],by simp at hi ⊢;omega,rfl,rfl,rfl,.inr ⟨rfl,rfl⟩⟩ ?_ rfl rfl rfl rfl rfl rfl
   exact .cons rfl (.cons rfl (.cons rfl (.cons rfl (.cons rfl .nil))))
 ·have hU:=Zb8 l
  have hU2:Uni 4 L:=hL ▸ Zb8 (l.take i)
  have el:=Zar (l.take i)
  rw[<- hL]at el
  subst hc
  rcases Nat.lt_or_ge i l.length with hlt|hge
  ·have hd:decide ((i:Int)<((Zax l).length:Int))=true:=decide_eq_true (by omega)
   obtain⟨⟨k1,n1,b1,l1⟩,hy⟩:∃ y,l[i]?=some y:=⟨_,List.getElem?_eq_getElem hlt⟩
   have hv:(Zax l)[((i:Nat):Int).toNat]?=some (.agg [.int .i64 k1,.int .u64 (n1:Int),.sl (b1.map E.byte),.sl (Zax l1)]):=by
    rw[Int.toNat_natCast,ZaI,List.getElem?_map,hy];rfl
   have hc:=ih' _ (List.mem_of_getElem? hy)
   have ei:IntKind.i64.wrap ((i:Int)+1)=((i+1:Nat):Int):=by rw[IntWalk.i64_in _ (by omega)];omega
   have hs:L++[E.agg [.int .i64 k1,.int .u64 (n1:Int),.sl (b1.map E.byte),.sl (Zax l1)]]=Zax (l.take (i+1)):=by
    rw[hL,List.take_add_one,hy];exact(Zb4 _ [It.mk k1 n1 b1 l1]).symm
   rw[List.length_take]at el
   repeat'(first|(apply Zaa (hc);kernel_rfl;(iterate 4 exact Z))|rw[ei]|(apply Zaj Zab;exact Z)|(apply Zah Zab;exact Z)|(apply Zav Zab;exact Z)|(apply Zac;exact Z;exact Go.ZrJ)|(apply ZaX Zab;(iterate 12 exact Z))|(apply Zao 5 ZaL;decide +kernel;kernel_rfl;kernel_rfl;kernel_rfl;exact Z;exact Z)|(apply Zaq;(iterate 4 exact Z))|exact AE.nil _ _ _ _|(apply Zat;exact Z)|(apply Zay;exact Z;exact Z;decide +kernel;exact Z)|(apply Zaz;exact Z)|exact AO.nil _ _ _|(apply Zap;(decide +kernel))|exact AOs.nil|exact ZaH rfl rfl|exact Zc0 rfl rfl rfl rfl rfl|(apply ZaJ Zab;(iterate 6 exact Z);(first|with_reducible assumption|decide +kernel|exact Z|rotate_left);exact Z;exact Z;(first|exact Zai rfl|with_reducible assumption|decide +kernel|rotate_left);(first|exact Zai rfl|with_reducible assumption|decide +kernel|rotate_left);(first|exact Go.ZrJ|rotate_left);(first|exact Go.ZrJ|rotate_left);(first|exact Go.ZrJ|rotate_left);exact Z;exact Z)|(apply Zau Zab;(iterate 6 exact Z);(first|exact Go.ZrJ|rotate_left);(first|with_reducible assumption|decide +kernel|exact Z);(first|exact Zai rfl|with_reducible assumption|decide +kernel|rotate_left)))
   ·refine Lands.mk' (m:=k'-1) (by omega) ⟨i+1,L.length+1,_,by omega,by rw[List.length_append];rfl,hs,rfl,.inr ⟨rfl,rfl⟩⟩ ?_ rfl rfl rfl rfl rfl rfl
    exact .cons rfl (.cons rfl (.cons rfl (.cons rfl (.cons rfl .nil))))
   all_goals(first|rfl|(simp only[List.length_append,List.length_cons,List.length_nil,List.length_map,Zar];done)|(simp only[List.length_append,List.length_cons,List.length_nil,List.length_map,Zar]at *;(try unfold maxLen);(try simp only[Nat.add_mul]);omega))
  ·have hd:decide ((i:Int)<((Zax l).length:Int))=false:=decide_eq_false (by omega)
   rw[List.take_of_length_le hge]at hL
   subst hL
   repeat'(first|(apply Zah Zab;exact Z)|(apply Zaf;exact Z;exact Go.ZrJ))
   all_goals(apply Zaw [];(apply Zad Zab;exact Z);(iterate 4 exact Z))
   all_goals rfl
theorem ZdS [Known](n:Nat):AP Tryz.prog 80 [.int .u64 (n:Int)] (itD (.mk 0 n [] [])) []:=by
 refine AP.ofA ?_
 refine Zan Tryz.func80 rfl Tryz.ntmps80 rfl rfl ?_
 repeat'(first|(apply Zah Zab;exact Z))
 all_goals(apply Zaw [];(apply Zad Zab;exact Z);(iterate 4 exact Z))
 all_goals rfl
theorem Zfa [Known](b:List UInt8)(hb:b.length<=140737488351232):AP Tryz.prog 97 [byE b] (itD (.mk 2 0 b [])) []:=by
 refine AP.ofA ?_
 refine Zan Tryz.func97 rfl Tryz.ntmps97 rfl rfl ?_
 repeat'(first|(apply Zaa (Zei b hb);kernel_rfl;(iterate 4 exact Z))|(apply Zaj Zab;exact Z)|(apply Zah Zab;exact Z))
 all_goals(apply Zaw [];(apply Zad Zab;exact Z);(iterate 4 exact Z))
 all_goals rfl
theorem ZgP [Known](l:List It)(hl:l.length<=2199023255488)(hws:wfs l):AP Tryz.prog 87 [.sl .ext (Zax l)] (itD (.mk 4 0 [] l)) []:=by
 have ih':∀ y ∈ l,AP Tryz.prog 145 [itD y] (itD y) []:=fun y hy=>Zht y (ZaY hws y hy)
 have hlen:=Zar l
 refine AP.ofA ?_
 refine Zan Tryz.func87 rfl Tryz.ntmps87 rfl rfl ?_
 repeat'(first|(apply Zaj Zab;exact Z)|(apply Zah Zab;exact Z)|(apply Zam Zab;(iterate 4 exact Z)))
 refine ZaE (fun k' tm bx fr=>∃(i c:Nat) (L:List E),k'+i=l.length/\c=L.length/\L=Zax (l.take i)/\tm=[(3,.ptr 1 0),(2,.ptr 0 0),(7,.sl .ext (Zax l)),(8,.int .i64 ((Zax l).length:Int)),(9,.int .i64 (i:Int))] /\
  ((i=0/\bx=[[.int .i64 0,.int .u64 0,.sl .nil [],.sl .nil []],[.int .i64 4,.int .u64 0,.sl .nil [],.sl .nil []]]/\fr=[]) \/
  (bx=[[.int .i64 0,.int .u64 0,.sl .nil [],.sl .nil []],[.int .i64 4,.int .u64 0,.sl .nil [],.sl (.own 0) L]]/\fr=[⟨c,4,32⟩]))) (l.length+1) (Lands.mk' (m:=l.length) (Nat.lt_succ_self _) ⟨0,0,[],rfl,rfl,rfl,rfl,.inl ⟨rfl,rfl,rfl⟩⟩ ?_ rfl rfl rfl rfl rfl rfl) ?_
 ·exact .cons rfl (.cons rfl (.cons rfl (.cons rfl (.cons rfl .nil))))
 rintro k' tm bx fr ⟨i,c,L,hi,hc,hL,rfl,⟨rfl,rfl,rfl⟩ | ⟨rfl,rfl⟩⟩
 ·cases l with
  | nil=>
   repeat'(first|(apply Zah Zab;exact Z)|(apply Zaf;exact Z;exact Go.ZrJ))
   all_goals(apply Zaw [];(apply Zad Zab;exact Z);(iterate 4 exact Z))
   all_goals rfl
  | cons y l=>
   have hc:=ih' y (List.mem_cons_self ..)
   have hU:=Zb8 (y::l)
   have hd:decide (((0:Nat):Int)<((Zax (y::l)).length:Int))=true:=decide_eq_true (by rw[Zax];simp)
   obtain⟨k1,n1,b1,l1⟩:=y
   repeat'(first|(apply Zaa (hc);kernel_rfl;(iterate 4 exact Z))|(apply ZaU Zab;(iterate 6 exact Z);exact Zai rfl;exact List.cons_ne_nil _ _;exact Z;decide +kernel;decide +kernel;(iterate 3 exact Z))|(apply Zaj Zab;exact Z)|(apply Zah Zab;exact Z)|(apply Zav Zab;exact Z)|(apply Zac;exact Z;exact Go.ZrJ)|(apply ZaX Zab;(iterate 12 exact Z))|(apply Zao 5 ZaL;decide +kernel;kernel_rfl;kernel_rfl;kernel_rfl;exact Z;exact Z)|(apply Zaq;(iterate 4 exact Z))|exact AE.nil _ _ _ _|(apply Zat;exact Z)|(apply Zay;exact Z;exact Z;decide +kernel;exact Z)|(apply Zaz;exact Z)|exact AO.nil _ _ _|(apply Zap;(decide +kernel))|exact AOs.nil|exact ZaH rfl rfl|exact Zc0 rfl rfl rfl rfl rfl|(apply Zau Zab;(iterate 6 exact Z);(first|exact Go.ZrJ|rotate_left);(first|with_reducible assumption|decide +kernel|exact Z);(first|exact Zai rfl|with_reducible assumption|decide +kernel|rotate_left)))
   refine Lands.mk' (m:=k'-1) (by simp at hi;omega) ⟨1,1,Zax [It.mk k1 n1 b1 l1],by simp at hi ⊢;omega,rfl,rfl,rfl,.inr ⟨rfl,rfl⟩⟩ ?_ rfl rfl rfl rfl rfl rfl
   exact .cons rfl (.cons rfl (.cons rfl (.cons rfl (.cons rfl .nil))))
 ·have hU:=Zb8 l
  have hU2:Uni 4 L:=hL ▸ Zb8 (l.take i)
  have el:=Zar (l.take i)
  rw[<- hL]at el
  subst hc
  rcases Nat.lt_or_ge i l.length with hlt|hge
  ·have hd:decide ((i:Int)<((Zax l).length:Int))=true:=decide_eq_true (by omega)
   obtain⟨⟨k1,n1,b1,l1⟩,hy⟩:∃ y,l[i]?=some y:=⟨_,List.getElem?_eq_getElem hlt⟩
   have hv:(Zax l)[((i:Nat):Int).toNat]?=some (.agg [.int .i64 k1,.int .u64 (n1:Int),.sl (b1.map E.byte),.sl (Zax l1)]):=by
    rw[Int.toNat_natCast,ZaI,List.getElem?_map,hy];rfl
   have hc:=ih' _ (List.mem_of_getElem? hy)
   have ei:IntKind.i64.wrap ((i:Int)+1)=((i+1:Nat):Int):=by rw[IntWalk.i64_in _ (by omega)];omega
   have hs:L++[E.agg [.int .i64 k1,.int .u64 (n1:Int),.sl (b1.map E.byte),.sl (Zax l1)]]=Zax (l.take (i+1)):=by
    rw[hL,List.take_add_one,hy];exact(Zb4 _ [It.mk k1 n1 b1 l1]).symm
   rw[List.length_take]at el
   repeat'(first|(apply Zaa (hc);kernel_rfl;(iterate 4 exact Z))|rw[ei]|(apply Zaj Zab;exact Z)|(apply Zah Zab;exact Z)|(apply Zav Zab;exact Z)|(apply Zac;exact Z;exact Go.ZrJ)|(apply ZaX Zab;(iterate 12 exact Z))|(apply Zao 5 ZaL;decide +kernel;kernel_rfl;kernel_rfl;kernel_rfl;exact Z;exact Z)|(apply Zaq;(iterate 4 exact Z))|exact AE.nil _ _ _ _|(apply Zat;exact Z)|(apply Zay;exact Z;exact Z;decide +kernel;exact Z)|(apply Zaz;exact Z)|exact AO.nil _ _ _|(apply Zap;(decide +kernel))|exact AOs.nil|exact ZaH rfl rfl|exact Zc0 rfl rfl rfl rfl rfl|(apply ZaJ Zab;(iterate 6 exact Z);(first|with_reducible assumption|decide +kernel|exact Z|rotate_left);exact Z;exact Z;(first|exact Zai rfl|with_reducible assumption|decide +kernel|rotate_left);(first|exact Zai rfl|with_reducible assumption|decide +kernel|rotate_left);(first|exact Go.ZrJ|rotate_left);(first|exact Go.ZrJ|rotate_left);(first|exact Go.ZrJ|rotate_left);exact Z;exact Z)|(apply Zau Zab;(iterate 6 exact Z);(first|exact Go.ZrJ|rotate_left);(first|with_reducible assumption|decide +kernel|exact Z);(first|exact Zai rfl|with_reducible assumption|decide +kernel|rotate_left)))
   ·refine Lands.mk' (m:=k'-1) (by omega) ⟨i+1,L.length+1,_,by omega,by rw[List.length_append];rfl,hs,rfl,.inr ⟨rfl,rfl⟩⟩ ?_ rfl rfl rfl rfl rfl rfl
    exact .cons rfl (.cons rfl (.cons rfl (.cons rfl (.cons rfl .nil))))
   all_goals(first|rfl|(simp only[List.length_append,List.length_cons,List.length_nil,List.length_map,Zar];done)|(simp only[List.length_append,List.length_cons,List.length_nil,List.length_map,Zar]at *;(try unfold maxLen);(try simp only[Nat.add_mul]);omega))
  ·have hd:decide ((i:Int)<((Zax l).length:Int))=false:=decide_eq_false (by omega)
   rw[List.take_of_length_le hge]at hL
   subst hL
   repeat'(first|(apply Zah Zab;exact Z)|(apply Zaf;exact Z;exact Go.ZrJ))
   all_goals(apply Zaw [];(apply Zad Zab;exact Z);(iterate 4 exact Z))
   all_goals rfl
end Go.Proofs.YtakblclkflnnpaaGreatDoor
end
section
open Go.RowKit Go.Pl Go.Av
namespace Go.Proofs.YtakblclkflnnpaaGreatDoor
set_option maxHeartbeats 4000000
def w8N:List UInt8->Nat
 | c0::c1::c2::c3::c4::c5::c6::c7::_=>c0.toNat+256*c1.toNat+65536*c2.toNat+16777216*c3.toNat+4294967296*c4.toNat+1099511627776*c5.toNat+281474976710656*c6.toNat+72057594037927936*c7.toNat
 | _=>0
theorem Zpp {l:List UInt8}(h:8<=l.length):∃ c0 c1 c2 c3 c4 c5 c6 c7 r,l=c0::c1::c2::c3::c4::c5::c6::c7::r:=by
 match l,h with
 | c0::c1::c2::c3::c4::c5::c6::c7::r,_=>exact⟨c0,c1,c2,c3,c4,c5,c6,c7,r,rfl⟩
abbrev hi8:Nat:=9259542123273814144
theorem Zc3 (l:List UInt8):w8N l<18446744073709551616:=by
 unfold w8N
 split
 ·rename_i c0 c1 c2 c3 c4 c5 c6 c7 r
  have:=c0.toNat_lt;have:=c1.toNat_lt;have:=c2.toNat_lt;have:=c3.toNat_lt
  have:=c4.toNat_lt;have:=c5.toNat_lt;have:=c6.toNat_lt;have:=c7.toNat_lt
  omega
 ·omega
theorem Zdy {w k:Nat}(h:w &&& hi8=0)(hk:hi8.testBit k=true):w.testBit k=false:=by
 have:=congrArg (fun x=>x.testBit k) h
 simp only[Nat.testBit_and,hk,Bool.and_true,Nat.zero_testBit]at this
 exact this
theorem ZdU {l:List UInt8}(hl:8<=l.length)(h:w8N l &&& hi8=0):∀ c ∈ l.take 8,c.toNat<128:=by
 obtain⟨c0,c1,c2,c3,c4,c5,c6,c7,r,rfl⟩:=Zpp hl
 have b0:=Zdy (k:=7) h (by decide)
 have b1:=Zdy (k:=15) h (by decide)
 have b2:=Zdy (k:=23) h (by decide)
 have b3:=Zdy (k:=31) h (by decide)
 have b4:=Zdy (k:=39) h (by decide)
 have b5:=Zdy (k:=47) h (by decide)
 have b6:=Zdy (k:=55) h (by decide)
 have b7:=Zdy (k:=63) h (by decide)
 have:=c0.toNat_lt;have:=c1.toNat_lt;have:=c2.toNat_lt;have:=c3.toNat_lt
 have:=c4.toNat_lt;have:=c5.toNat_lt;have:=c6.toNat_lt;have:=c7.toNat_lt
 simp only[Nat.testBit_eq_decide_div_mod_eq,decide_eq_false_iff_not,w8N]at b0 b1 b2 b3 b4 b5 b6 b7
 intro c hc
 simp only[List.take_succ_cons,List.take_zero,List.mem_cons,List.not_mem_nil,or_false]at hc
 rcases hc with rfl|rfl|rfl|rfl|rfl|rfl|rfl|rfl
 all_goals omega
theorem Zoq (a x k:Nat)(ha:a<2 ^ k):a ||| x*2 ^ k=a+x*2 ^ k:=by
 rw[Nat.or_comm,Nat.mul_comm,<- Nat.two_pow_add_eq_or_of_lt ha x];omega
theorem Zqf (c:UInt8)(k:Nat)(hk:k<=56):IntKind.u64.wrap (IntKind.u64.wrap (c.toNat:Int)*2 ^ min (Int.toNat (k:Int)) IntKind.u64.bits)=((c.toNat*2 ^ k:Nat):Int):=by
 have hc:=c.toNat_lt
 rw[Int.toNat_natCast,show min k IntKind.u64.bits=k from Nat.min_eq_left (by show k<=64;omega)]
 have e1:IntKind.u64.wrap (c.toNat:Int)=(c.toNat:Int):=by rw[IntKind.wrap_u64];omega
 have e2:((c.toNat:Int)*2 ^ k)=((c.toNat*2 ^ k:Nat):Int):=by simp
 rw[e1,e2,IntKind.wrap_u64]
 have:c.toNat*2 ^ k<18446744073709551616:=by
  have h1:c.toNat*2 ^ k<256*2 ^ k:=Nat.mul_lt_mul_of_pos_right hc (Nat.two_pow_pos k)
  have h2:256*2 ^ k<=256*2 ^ 56:=Nat.mul_le_mul_left _ (Nat.pow_le_pow_right (by decide) hk)
  omega
 omega
theorem Zis {a:Nat}(c:UInt8)(k:Nat)(ha:a<2 ^ k)(hk:k<=56):bits .or .u64 (a:Int) (IntKind.u64.wrap (IntKind.u64.wrap (c.toNat:Int)*2 ^ min (Int.toNat (k:Int)) IntKind.u64.bits))=((a+c.toNat*2 ^ k:Nat):Int):=by
 have hc:=c.toNat_lt
 have h56:2 ^ k<=2 ^ 56:=Nat.pow_le_pow_right (by decide) hk
 have h1:c.toNat*2 ^ k<256*2 ^ k:=Nat.mul_lt_mul_of_pos_right hc (Nat.two_pow_pos k)
 rw[Zqf c k hk,u64_or_nat _ _ (by omega) (by omega),Zoq _ _ _ ha]
theorem ZdV [Known](l:List UInt8)(hl:8<=l.length):AP Tryz.prog 212 [byE l] (.int .u64 (w8N l:Int)) []:=by
 have hU:=Zbm l
 obtain⟨c0,c1,c2,c3,c4,c5,c6,c7,r,rfl⟩:=Zpp hl
 refine AP.ofA ?_
 refine Zan Tryz.func212 rfl Tryz.ntmps212 rfl rfl ?_
 repeat'(first|(apply Zaj Zab;exact Z)|(apply Zah Zab;exact Z)|(apply ZaP 45 ZaL;decide +kernel;kernel_rfl;kernel_rfl;exact Z;exact Z)|(apply Za0;(iterate 3 exact Z))|refine AD.nil _|exact ZbC rfl|(apply Zau Zab;(iterate 6 exact Z);(first|exact Go.ZrK|rotate_left);(first|with_reducible assumption|exact Z);(first|exact Zai rfl|with_reducible assumption|rotate_left))|(apply ZiV;exact Z;exact Z;(first|exact Go.ZrK|rotate_left);exact Z))
 all_goals(apply Zaw [];(apply Zad Zab;exact Z);(iterate 4 exact Z))
 all_goals first|rfl|skip
 have:=c0.toNat_lt;have:=c1.toNat_lt;have:=c2.toNat_lt;have:=c3.toNat_lt
 have:=c4.toNat_lt;have:=c5.toNat_lt;have:=c6.toNat_lt;have:=c7.toNat_lt
 congr 1
 have e0:IntKind.u64.wrap (c0.toNat:Int)=((c0.toNat:Nat):Int):=by rw[IntKind.wrap_u64];omega
 have q1:=Zis (a:=c0.toNat) c1 8 (by omega) (by omega)
 have q2:=Zis (a:=c0.toNat+c1.toNat*2 ^ 8) c2 16 (by omega) (by omega)
 have q3:=Zis (a:=c0.toNat+c1.toNat*2 ^ 8+c2.toNat*2 ^ 16) c3 24 (by omega) (by omega)
 have q4:=Zis (a:=c0.toNat+c1.toNat*2 ^ 8+c2.toNat*2 ^ 16+c3.toNat*2 ^ 24) c4 32 (by omega) (by omega)
 have q5:=Zis (a:=c0.toNat+c1.toNat*2 ^ 8+c2.toNat*2 ^ 16+c3.toNat*2 ^ 24+c4.toNat*2 ^ 32) c5 40 (by omega) (by omega)
 have q6:=Zis (a:=c0.toNat+c1.toNat*2 ^ 8+c2.toNat*2 ^ 16+c3.toNat*2 ^ 24+c4.toNat*2 ^ 32+c5.toNat*2 ^ 40) c6 48 (by omega) (by omega)
 have q7:=Zis (a:=c0.toNat+c1.toNat*2 ^ 8+c2.toNat*2 ^ 16+c3.toNat*2 ^ 24+c4.toNat*2 ^ 32+c5.toNat*2 ^ 40+c6.toNat*2 ^ 48) c7 56 (by omega) (by omega)
 rw[e0]at *
 have fin:(w8N (c0::c1::c2::c3::c4::c5::c6::c7::r):Int)=((c0.toNat+c1.toNat*2 ^ 8+c2.toNat*2 ^ 16+c3.toNat*2 ^ 24+c4.toNat*2 ^ 32+c5.toNat*2 ^ 40+c6.toNat*2 ^ 48+c7.toNat*2 ^ 56:Nat):Int):=by
  simp only[w8N];omega
 rw[fin,<- q7,<- q6,<- q5,<- q4,<- q3,<- q2,<- q1]
 rfl
theorem ZdW {a b:Nat}(h:(a ||| b) &&& hi8=0):a &&& hi8=0/\b &&& hi8=0:=by
 rw[Nat.and_or_distrib_right]at h
 exact Nat.or_eq_zero_iff.1 h
theorem ZbX:∀(k:Nat) (l:List UInt8),k<=l.length->(∀ c ∈ l.take k,c.toNat<128)->ZaF l=ZaF (l.drop k)
 | 0,l,_,_=>rfl
 | k+1,[],h,_=>by simp at h
 | k+1,c::r,h,ha=>by
  have hc:c.toNat<128:=ha c (by simp)
  rw[Zbn]
  have:pt (c::r)=1:=by simp[pt,ptN,hc]
  rw[this]
  simp only[List.drop_zero,List.drop_succ_cons]
  exact ZbX k r (by simpa using h) fun c' h'=>ha c' (by simp[h'])
def fT (c:Nat):Nat:=if c<128 then 240 else if c<194 then 241 else if c<224 then 2 else if c<225 then 19 else if c<237 then 3 else if c<238 then 35 else if c<240 then 3 else if c<241 then 52 else if c<244 then 4 else if c<245 then 68 else 241
theorem Zej:(0,(List.range 256).map fun c=>Value.int .u8 (fT c:Int)) ∈ ZnB:=by
 have e:(List.range 256).map (fun c=>Value.int .u8 (fT c:Int))=dcs Rows.laid_unicode_utf8_first:=by kernel_rfl
 rw[e]
 unfold ZnB
 simp
def aT (i:Nat):List Value:=if i=0 then [.int .u8 128,.int .u8 191] else if i=1 then [.int .u8 160,.int .u8 191] else if i=2 then [.int .u8 128,.int .u8 159] else if i=3 then [.int .u8 144,.int .u8 191] else if i=4 then [.int .u8 128,.int .u8 143] else [.int .u8 0,.int .u8 0]
theorem ZdO:(1,(List.range 16).flatMap aT) ∈ ZnB:=by
 have e:(List.range 16).flatMap aT=dcs Rows.laid_unicode_utf8_acceptRanges:=by kernel_rfl
 rw[e]
 unfold ZnB
 simp
theorem Zfb (c:UInt8):((List.range 256).map fun c=>Value.int .u8 (fT c:Int))[0+((c.toNat:Nat):Int).toNat*1]?=some (.int .u8 (fT c.toNat:Int)):=by
 have:=c.toNat_lt
 rw[Int.toNat_natCast,Nat.zero_add,Nat.mul_one,List.getElem?_map,List.getElem?_range (by omega)]
 rfl
end Go.Proofs.YtakblclkflnnpaaGreatDoor
end
