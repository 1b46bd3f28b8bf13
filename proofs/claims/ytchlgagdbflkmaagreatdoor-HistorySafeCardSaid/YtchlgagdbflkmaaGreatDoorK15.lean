/- Items over abstract states: what is put together. -/
import Derived.Test.YtchlgagdbflkmaaGreatDoorK10
import Derived.Test.YtchlgagdbflkmaaGreatDoorK12
import Derived.Test.YtchlgagdbflkmaaGreatDoorK14
import Derived.Test.YtchlgagdbflkmaaGreatDoorK13
set_option linter.unusedVariables false
set_option linter.unusedSimpArgs false
section
open Go.RowKit Go.Pl Go.Av
namespace Go.Proofs.YtchlgagdbflkmaaGreatDoor
set_option maxHeartbeats 4000000
theorem It.ind {P:It->Prop}(h:∀ k n b l,(∀ y ∈ l,P y)->P (.mk k n b l)):∀ x,P x:=by
 intro x
 refine It.rec (motive_1:=P) (motive_2:=fun l=>∀ y ∈ l,P y) (fun k n b l ih=>h k n b l ih) (by simp) (fun x l hx hl y hy=>?_) x
 rcases List.mem_cons.1 hy with rfl|hy
 ·exact hx
 ·exact hl y hy
mutual
def itE:It->E
 | .mk k n b l=>.agg [.int .i64 k,.int .u64 (n:Int),.sl (b.map E.byte),.sl (Zu l)]
def Zu:List It->List E
 | []=>[]
 | x::l=>itE x::Zu l
end
theorem Yi:∀ l:List It,Zu l=l.map itE
 | []=>rfl
 | x::l=>by rw[Zu,List.map_cons,Yi l]
theorem VU (a b:List It):Zu (a++b)=Zu a++Zu b:=by rw[Yi,Yi,Yi,List.map_append]
theorem Zz (l:List It):(Zu l).length=l.length:=by rw[Yi,List.length_map]
abbrev itC (k:Int)(n:Nat)(b:List UInt8)(l:List It):List D:=[.int .i64 k,.int .u64 (n:Int),byE b,.sl .ext (Zu l)]
def itD:It->D
 | .mk k n b l=>.agg (itC k n b l)
theorem TK (x:It):(itE x).cells.length=4:=by obtain⟨k,n,b,l⟩:=x;rfl
theorem Y4 (l:List It):Uni 4 (Zu l):=by rw[Yi];exact Uni.map TK l
theorem YD:∀ {l:List It},wfs l->∀ y ∈ l,wfI y
 | x::l,⟨h1,h2⟩,y,hy=>by
  rcases List.mem_cons.1 hy with rfl|hy
  ·exact h1
  ·exact YD h2 y hy
theorem Oe [Known]:∀(x:It),wfI x->AP Tryz.prog 214 [itD x] (itD x) []:=by
 refine It.ind fun k n b l ih hw=>?_
 obtain⟨hn,hb,hl,hws⟩:=hw
 have ih':∀ y ∈ l,AP Tryz.prog 214 [itD y] (itD y) []:=fun y hy=>ih y hy (YD hws y hy)
 clear ih
 have hlen:=Zz l
 refine AP.ofA (Zl Tryz.func214 Z Tryz.ntmps214 Z Z ?_)
 repeat'(first|(apply Zb (Vh b hb);kernel_rfl;(iterate 4 exact Z))|(apply Zg Za;exact Z)|(apply Zh Za;exact Z)|refine Zn Za Z Z Z Z ?_)
 refine Yf (fun k' tm bx fr=>∃(i c:Nat) (L:List E),k'+i=l.length/\c=L.length/\L=Zu (l.take i)/\tm=[(1,.ptr 0 0),(2,.ptr 1 0),(13,.sl .ext (Zu l)),(14,.int .i64 ((Zu l).length:Int)),(15,.int .i64 (i:Int))] /\
  ((i=0/\bx=[[.int .i64 k,.int .u64 (n:Int),byE b,.sl .nil []],[.int .i64 0,.int .u64 0,.sl .nil [],.sl .nil []]]/\fr=[]) \/
  (bx=[[.int .i64 k,.int .u64 (n:Int),byE b,.sl (.own 0) L],[.int .i64 0,.int .u64 0,.sl .nil [],.sl .nil []]]/\fr=[⟨c,4,230⟩]))) (l.length+1) (Lands.mk' (m:=l.length) (Nat.lt_succ_self _) ⟨0,0,[],rfl,rfl,rfl,rfl,.inl ⟨rfl,rfl,rfl⟩⟩ ?_ rfl rfl rfl rfl rfl rfl) ?_
 ·exact .cons rfl (.cons rfl (.cons rfl (.cons rfl (.cons rfl .nil))))
 rintro k' tm bx fr ⟨i,c,L,hi,hc,hL,rfl,⟨rfl,rfl,rfl⟩ | ⟨rfl,rfl⟩⟩
 ·cases l with
  | nil=>
   repeat'(first|(apply Zh Za;exact Z)|refine Zf Z Qt ?_)
   all_goals exact Qe
  | cons y l=>
   have hc:=ih' y (List.mem_cons_self ..)
   have hU:=Y4 (y::l)
   have hd:decide (((0:Nat):Int)<((Zu (y::l)).length:Int))=true:=decide_eq_true (by rw[Zu];simp)
   obtain⟨k1,n1,b1,l1⟩:=y
   repeat'(first|(apply Zb (hc);kernel_rfl;(iterate 4 exact Z))|refine Z9 Za Z Z Z Z Z Z (Zk rfl) (List.cons_ne_nil _ _) Z Qd Qd Z Z Z ?_|(apply Zg Za;exact Z)|(apply Zh Za;exact Z)|(apply Zs Za;exact Z)|refine Ze Z Qt ?_|refine ZO Za Z Z Z Z Z Z Z Z Z Z Z Z ?_|(apply Zm 5 ZG;decide +kernel;kernel_rfl;kernel_rfl;kernel_rfl;exact Z;exact Z)|(apply Zq;(iterate 4 exact Z))|exact AE.nil _ _ _ _|(apply Zv;exact Z)|(apply ZA;exact Z;exact Z;decide +kernel;exact Z)|(apply ZB;exact Z)|exact AO.nil _ _ _|(apply Zp;(decide +kernel))|exact AOs.nil|exact ZJ rfl rfl|exact Y6 rfl rfl rfl rfl rfl|(apply Zw Za;(iterate 6 exact Z);(first|exact Qt|rotate_left);(first|with_reducible assumption|decide +kernel|exact Z);(first|exact Zk rfl|with_reducible assumption|decide +kernel|rotate_left)))
   refine Lands.mk' (m:=k'-1) (by simp at hi;omega) ⟨1,1,Zu [It.mk k1 n1 b1 l1],by simp at hi ⊢;omega,rfl,rfl,rfl,.inr ⟨rfl,rfl⟩⟩ ?_ rfl rfl rfl rfl rfl rfl
   exact .cons rfl (.cons rfl (.cons rfl (.cons rfl (.cons rfl .nil))))
 ·have hU:=Y4 l
  have hU2:Uni 4 L:=hL ▸ Y4 (l.take i)
  have el:=Zz (l.take i)
  rw[<- hL]at el
  subst hc
  rcases Nat.lt_or_ge i l.length with hlt|hge
  ·have hd:decide ((i:Int)<((Zu l).length:Int))=true:=decide_eq_true (by omega)
   obtain⟨⟨k1,n1,b1,l1⟩,hy⟩:∃ y,l[i]?=some y:=⟨_,List.getElem?_eq_getElem hlt⟩
   have hv:(Zu l)[((i:Nat):Int).toNat]?=some (.agg [.int .i64 k1,.int .u64 (n1:Int),.sl (b1.map E.byte),.sl (Zu l1)]):=by
    rw[Int.toNat_natCast,Yi,List.getElem?_map,hy];rfl
   have hc:=ih' _ (List.mem_of_getElem? hy)
   have ei:IntKind.i64.wrap ((i:Int)+1)=((i+1:Nat):Int):=by rw[IntWalk.i64_in _ (by omega)];omega
   have hs:L++[E.agg [.int .i64 k1,.int .u64 (n1:Int),.sl (b1.map E.byte),.sl (Zu l1)]]=Zu (l.take (i+1)):=by
    rw[hL,List.take_add_one,hy];exact(VU _ [It.mk k1 n1 b1 l1]).symm
   rw[List.length_take]at el
   repeat'(first|(apply Zb (hc);kernel_rfl;(iterate 4 exact Z))|rw[ei]|(apply Zg Za;exact Z)|(apply Zh Za;exact Z)|(apply Zs Za;exact Z)|refine Ze Z Qt ?_|refine ZO Za Z Z Z Z Z Z Z Z Z Z Z Z ?_|(apply Zm 5 ZG;decide +kernel;kernel_rfl;kernel_rfl;kernel_rfl;exact Z;exact Z)|(apply Zq;(iterate 4 exact Z))|exact AE.nil _ _ _ _|(apply Zv;exact Z)|(apply ZA;exact Z;exact Z;decide +kernel;exact Z)|(apply ZB;exact Z)|exact AO.nil _ _ _|(apply Zp;(decide +kernel))|exact AOs.nil|exact ZJ rfl rfl|exact Y6 rfl rfl rfl rfl rfl|(apply Z3 Za;(iterate 6 exact Z);(first|with_reducible assumption|decide +kernel|exact Z|rotate_left);exact Z;exact Z;(first|exact Zk rfl|with_reducible assumption|decide +kernel|rotate_left);(first|exact Zk rfl|with_reducible assumption|decide +kernel|rotate_left);(first|exact Qt|rotate_left);(first|exact Qt|rotate_left);(first|exact Qt|rotate_left);exact Z;exact Z)|(apply Zw Za;(iterate 6 exact Z);(first|exact Qt|rotate_left);(first|with_reducible assumption|decide +kernel|exact Z);(first|exact Zk rfl|with_reducible assumption|decide +kernel|rotate_left)))
   ·refine Lands.mk' (m:=k'-1) (by omega) ⟨i+1,L.length+1,_,by omega,by rw[List.length_append];rfl,hs,rfl,.inr ⟨rfl,rfl⟩⟩ ?_ rfl rfl rfl rfl rfl rfl
    exact .cons rfl (.cons rfl (.cons rfl (.cons rfl (.cons rfl .nil))))
   all_goals(first|rfl|(simp only[List.length_append,List.length_cons,List.length_nil,List.length_map,Zz];done)|(simp only[List.length_append,List.length_cons,List.length_nil,List.length_map,Zz]at *;(try unfold maxLen);(try simp only[Nat.add_mul]);omega))
  ·have hd:decide ((i:Int)<((Zu l).length:Int))=false:=decide_eq_false (by omega)
   rw[List.take_of_length_le hge]at hL
   subst hL
   repeat'(first|(apply Zh Za;exact Z)|refine Zf Z Qt ?_)
   all_goals exact Qe
theorem YY [Known](n:Nat):AP Tryz.prog 211 [.int .u64 (n:Int)] (itD (.mk 0 n [] [])) []:=by
 refine AP.ofA (Zl Tryz.func211 Z Tryz.ntmps211 Z Z ?_)
 repeat'(first|(apply Zh Za;exact Z))
 all_goals exact Qe
theorem Lp [Known](b:List UInt8):AP Tryz.prog 249 [.str b] (itD (.mk 3 0 b [])) []:=by
 refine AP.ofA (Zl Tryz.func249 Z Tryz.ntmps249 Z Z ?_)
 repeat'(first|refine RT Za Z Z Z Z Z Z Z Z ?_|(apply Zg Za;exact Z)|(apply Zh Za;exact Z))
 all_goals exact Qe
theorem Jy [Known](b:List UInt8)(hb:b.length<=140737488351232):AP Tryz.prog 208 [byE b] (itD (.mk 2 0 b [])) []:=by
 refine AP.ofA (Zl Tryz.func208 Z Tryz.ntmps208 Z Z ?_)
 repeat'(first|(apply Zb (Vh b hb);kernel_rfl;(iterate 4 exact Z))|(apply Zg Za;exact Z)|(apply Zh Za;exact Z))
 all_goals exact Qe
theorem W4 [Known](l:List It)(hl:l.length<=2199023255488)(hws:wfs l):AP Tryz.prog 174 [.sl .ext (Zu l)] (itD (.mk 4 0 [] l)) []:=by
 have ih':∀ y ∈ l,AP Tryz.prog 214 [itD y] (itD y) []:=fun y hy=>Oe y (YD hws y hy)
 have hlen:=Zz l
 refine AP.ofA (Zl Tryz.func174 Z Tryz.ntmps174 Z Z ?_)
 repeat'(first|(apply Zg Za;exact Z)|(apply Zh Za;exact Z)|refine Zn Za Z Z Z Z ?_)
 refine Yf (fun k' tm bx fr=>∃(i c:Nat) (L:List E),k'+i=l.length/\c=L.length/\L=Zu (l.take i)/\tm=[(3,.ptr 1 0),(2,.ptr 0 0),(7,.sl .ext (Zu l)),(8,.int .i64 ((Zu l).length:Int)),(9,.int .i64 (i:Int))] /\
  ((i=0/\bx=[[.int .i64 0,.int .u64 0,.sl .nil [],.sl .nil []],[.int .i64 4,.int .u64 0,.sl .nil [],.sl .nil []]]/\fr=[]) \/
  (bx=[[.int .i64 0,.int .u64 0,.sl .nil [],.sl .nil []],[.int .i64 4,.int .u64 0,.sl .nil [],.sl (.own 0) L]]/\fr=[⟨c,4,230⟩]))) (l.length+1) (Lands.mk' (m:=l.length) (Nat.lt_succ_self _) ⟨0,0,[],rfl,rfl,rfl,rfl,.inl ⟨rfl,rfl,rfl⟩⟩ ?_ rfl rfl rfl rfl rfl rfl) ?_
 ·exact .cons rfl (.cons rfl (.cons rfl (.cons rfl (.cons rfl .nil))))
 rintro k' tm bx fr ⟨i,c,L,hi,hc,hL,rfl,⟨rfl,rfl,rfl⟩ | ⟨rfl,rfl⟩⟩
 ·cases l with
  | nil=>
   repeat'(first|(apply Zh Za;exact Z)|refine Zf Z Qt ?_)
   all_goals exact Qe
  | cons y l=>
   have hc:=ih' y (List.mem_cons_self ..)
   have hU:=Y4 (y::l)
   have hd:decide (((0:Nat):Int)<((Zu (y::l)).length:Int))=true:=decide_eq_true (by rw[Zu];simp)
   obtain⟨k1,n1,b1,l1⟩:=y
   repeat'(first|(apply Zb (hc);kernel_rfl;(iterate 4 exact Z))|refine Z9 Za Z Z Z Z Z Z (Zk rfl) (List.cons_ne_nil _ _) Z Qd Qd Z Z Z ?_|(apply Zg Za;exact Z)|(apply Zh Za;exact Z)|(apply Zs Za;exact Z)|refine Ze Z Qt ?_|refine ZO Za Z Z Z Z Z Z Z Z Z Z Z Z ?_|(apply Zm 5 ZG;decide +kernel;kernel_rfl;kernel_rfl;kernel_rfl;exact Z;exact Z)|(apply Zq;(iterate 4 exact Z))|exact AE.nil _ _ _ _|(apply Zv;exact Z)|(apply ZA;exact Z;exact Z;decide +kernel;exact Z)|(apply ZB;exact Z)|exact AO.nil _ _ _|(apply Zp;(decide +kernel))|exact AOs.nil|exact ZJ rfl rfl|exact Y6 rfl rfl rfl rfl rfl|(apply Zw Za;(iterate 6 exact Z);(first|exact Qt|rotate_left);(first|with_reducible assumption|decide +kernel|exact Z);(first|exact Zk rfl|with_reducible assumption|decide +kernel|rotate_left)))
   refine Lands.mk' (m:=k'-1) (by simp at hi;omega) ⟨1,1,Zu [It.mk k1 n1 b1 l1],by simp at hi ⊢;omega,rfl,rfl,rfl,.inr ⟨rfl,rfl⟩⟩ ?_ rfl rfl rfl rfl rfl rfl
   exact .cons rfl (.cons rfl (.cons rfl (.cons rfl (.cons rfl .nil))))
 ·have hU:=Y4 l
  have hU2:Uni 4 L:=hL ▸ Y4 (l.take i)
  have el:=Zz (l.take i)
  rw[<- hL]at el
  subst hc
  rcases Nat.lt_or_ge i l.length with hlt|hge
  ·have hd:decide ((i:Int)<((Zu l).length:Int))=true:=decide_eq_true (by omega)
   obtain⟨⟨k1,n1,b1,l1⟩,hy⟩:∃ y,l[i]?=some y:=⟨_,List.getElem?_eq_getElem hlt⟩
   have hv:(Zu l)[((i:Nat):Int).toNat]?=some (.agg [.int .i64 k1,.int .u64 (n1:Int),.sl (b1.map E.byte),.sl (Zu l1)]):=by
    rw[Int.toNat_natCast,Yi,List.getElem?_map,hy];rfl
   have hc:=ih' _ (List.mem_of_getElem? hy)
   have ei:IntKind.i64.wrap ((i:Int)+1)=((i+1:Nat):Int):=by rw[IntWalk.i64_in _ (by omega)];omega
   have hs:L++[E.agg [.int .i64 k1,.int .u64 (n1:Int),.sl (b1.map E.byte),.sl (Zu l1)]]=Zu (l.take (i+1)):=by
    rw[hL,List.take_add_one,hy];exact(VU _ [It.mk k1 n1 b1 l1]).symm
   rw[List.length_take]at el
   repeat'(first|(apply Zb (hc);kernel_rfl;(iterate 4 exact Z))|rw[ei]|(apply Zg Za;exact Z)|(apply Zh Za;exact Z)|(apply Zs Za;exact Z)|refine Ze Z Qt ?_|refine ZO Za Z Z Z Z Z Z Z Z Z Z Z Z ?_|(apply Zm 5 ZG;decide +kernel;kernel_rfl;kernel_rfl;kernel_rfl;exact Z;exact Z)|(apply Zq;(iterate 4 exact Z))|exact AE.nil _ _ _ _|(apply Zv;exact Z)|(apply ZA;exact Z;exact Z;decide +kernel;exact Z)|(apply ZB;exact Z)|exact AO.nil _ _ _|(apply Zp;(decide +kernel))|exact AOs.nil|exact ZJ rfl rfl|exact Y6 rfl rfl rfl rfl rfl|(apply Z3 Za;(iterate 6 exact Z);(first|with_reducible assumption|decide +kernel|exact Z|rotate_left);exact Z;exact Z;(first|exact Zk rfl|with_reducible assumption|decide +kernel|rotate_left);(first|exact Zk rfl|with_reducible assumption|decide +kernel|rotate_left);(first|exact Qt|rotate_left);(first|exact Qt|rotate_left);(first|exact Qt|rotate_left);exact Z;exact Z)|(apply Zw Za;(iterate 6 exact Z);(first|exact Qt|rotate_left);(first|with_reducible assumption|decide +kernel|exact Z);(first|exact Zk rfl|with_reducible assumption|decide +kernel|rotate_left)))
   ·refine Lands.mk' (m:=k'-1) (by omega) ⟨i+1,L.length+1,_,by omega,by rw[List.length_append];rfl,hs,rfl,.inr ⟨rfl,rfl⟩⟩ ?_ rfl rfl rfl rfl rfl rfl
    exact .cons rfl (.cons rfl (.cons rfl (.cons rfl (.cons rfl .nil))))
   all_goals(first|rfl|(simp only[List.length_append,List.length_cons,List.length_nil,List.length_map,Zz];done)|(simp only[List.length_append,List.length_cons,List.length_nil,List.length_map,Zz]at *;(try unfold maxLen);(try simp only[Nat.add_mul]);omega))
  ·have hd:decide ((i:Int)<((Zu l).length:Int))=false:=decide_eq_false (by omega)
   rw[List.take_of_length_le hge]at hL
   subst hL
   repeat'(first|(apply Zh Za;exact Z)|refine Zf Z Qt ?_)
   all_goals exact Qe
end Go.Proofs.YtchlgagdbflkmaaGreatDoor
end
section
open Go.RowKit Go.Pl Go.Av
namespace Go.Proofs.YtchlgagdbflkmaaGreatDoor
set_option maxHeartbeats 4000000
theorem IX:∀ {l l':List It},l.length ≠ l'.length->It.beqs l l'=false
 | [],[],h=>by simp at h
 | [],_::_,_=>rfl
 | _::_,[],_=>rfl
 | x::l,y::l',h=>by
  rw[It.beqs]
  cases It.beq x y
  ·rfl
  ·exact IX (by simpa using h)
theorem TL [Known](l l':List It)(hl:l.length<=2199023255488)(hl':l'.length<=2199023255488)(ih:∀ y ∈ l,∀ y' ∈ l',AP Tryz.prog 176 [itD y,itD y'] (.bool (It.beq y y')) []):AP Tryz.prog 218 [.sl .ext (Zu l),.sl .ext (Zu l'),.fn 176 []] (.bool (It.beqs l l')) []:=by
 have e1:=Zz l
 have e2:=Zz l'
 by_cases hne:l.length=l'.length
 ·have t1:(((Zu l).length:Int) != ((Zu l').length:Int))=false:=by rw[e1,e2,hne];simp
  generalize hfin:It.beqs l l'=fin
  refine AP.ofA (Zl Tryz.func218 Z Tryz.ntmps218 Z Z ?_)
  repeat'(first|(apply Zg Za;exact Z)|(apply Zh Za;exact Z)|(apply Zs Za;exact Z)|refine Zf Z Qt ?_|refine Zn Za Z Z Z Z ?_)
  refine Yf (fun f tm bx fr=>∃ i:Nat,f+i=l.length/\It.beqs (l.drop i) (l'.drop i)=fin/\tm=[(0,.sl .ext (Zu l)),(1,.sl .ext (Zu l')),(2,.fn 176 []),(6,.bool false),(15,.sl .ext (Zu l)),(16,.int .i64 ((Zu l).length:Int)),(17,.int .i64 (i:Int))]/\bx=[]/\fr=[]) (l.length+1) (Lands.mk' (m:=l.length) (Nat.lt_succ_self _) ⟨0,rfl,hfin,rfl,rfl,rfl⟩ ?_ rfl rfl rfl rfl rfl rfl) ?_
  ·exact .cons rfl (.cons rfl (.cons rfl (.cons rfl (.cons rfl (.cons rfl (.cons rfl .nil))))))
  rintro f tm bx fr ⟨i,hf,hfin,rfl,rfl,rfl⟩
  have hU:=Y4 l
  have hU':=Y4 l'
  rcases Nat.lt_or_ge i l.length with hlt|hge
  ·have hdl:decide ((i:Int)<((Zu l).length:Int))=true:=decide_eq_true (by omega)
   obtain⟨⟨k1,n1,b1,l1⟩,hy⟩:∃ y,l[i]?=some y:=⟨_,List.getElem?_eq_getElem hlt⟩
   obtain⟨⟨k2,n2,b2,l2⟩,hy'⟩:∃ y,l'[i]?=some y:=⟨_,List.getElem?_eq_getElem (by omega)⟩
   have hv:(Zu l)[((i:Nat):Int).toNat]?=some (.agg [.int .i64 k1,.int .u64 (n1:Int),.sl (b1.map E.byte),.sl (Zu l1)]):=by
    rw[Int.toNat_natCast,Yi,List.getElem?_map,hy];rfl
   have hv':(Zu l')[((i:Nat):Int).toNat]?=some (.agg [.int .i64 k2,.int .u64 (n2:Int),.sl (b2.map E.byte),.sl (Zu l2)]):=by
    rw[Int.toNat_natCast,Yi,List.getElem?_map,hy'];rfl
   have hc:=ih _ (List.mem_of_getElem? hy) _ (List.mem_of_getElem? hy')
   have hdr:l.drop i=It.mk k1 n1 b1 l1::l.drop (i+1):=by
    rw[List.drop_eq_getElem_cons hlt];congr 1
    exact(List.getElem?_eq_some_iff.1 hy).2
   have hdr':l'.drop i=It.mk k2 n2 b2 l2::l'.drop (i+1):=by
    rw[List.drop_eq_getElem_cons (by omega)];congr 1
    exact(List.getElem?_eq_some_iff.1 hy').2
   rw[hdr,hdr',It.beqs]at hfin
   have ei:IntKind.i64.wrap ((i:Int)+1)=((i+1:Nat):Int):=by rw[IntWalk.i64_in _ (by omega)];omega
   cases hb:It.beq (.mk k1 n1 b1 l1) (.mk k2 n2 b2 l2) with
   | false=>
    rw[hb]at hfin hc
    subst hfin
    repeat'(first|(apply WR (hc);exact Z;kernel_rfl;(iterate 3 exact Z))|(apply Zg Za;exact Z)|(apply Zh Za;exact Z)|(apply Zs Za;exact Z)|refine Ze Z Qt ?_|(apply Zw Za;(iterate 6 exact Z);(first|exact Qt|rotate_left);(first|with_reducible assumption|decide +kernel|exact Z);(first|exact Zk rfl|with_reducible assumption|decide +kernel|rotate_left)))
    all_goals exact Qe
   | true=>
    rw[hb]at hfin hc
    repeat'(first|rw[ei]|(apply WR (hc);exact Z;kernel_rfl;(iterate 3 exact Z))|(apply Zg Za;exact Z)|(apply Zh Za;exact Z)|(apply Zs Za;exact Z)|refine Ze Z Qt ?_|refine Zf Z Qt ?_|(apply Zw Za;(iterate 6 exact Z);(first|exact Qt|rotate_left);(first|with_reducible assumption|decide +kernel|exact Z);(first|exact Zk rfl|with_reducible assumption|decide +kernel|rotate_left)))
    refine Lands.mk' (m:=f-1) (by omega) ⟨i+1,by omega,hfin,rfl,rfl,rfl⟩ ?_ rfl rfl rfl rfl rfl rfl
    exact .cons rfl (.cons rfl (.cons rfl (.cons rfl (.cons rfl (.cons rfl (.cons rfl .nil))))))
  ·have hdl:decide ((i:Int)<((Zu l).length:Int))=false:=decide_eq_false (by omega)
   rw[List.drop_eq_nil_of_le hge,List.drop_eq_nil_of_le (by omega)]at hfin
   have hfin:true=fin:=hfin
   subst hfin
   repeat'(first|(apply Zh Za;exact Z)|refine Zf Z Qt ?_)
   all_goals exact Qe
 ·have t1:(((Zu l).length:Int) != ((Zu l').length:Int))=true:=by rw[e1,e2];simp;omega
  rw[IX hne]
  refine AP.ofA (Zl Tryz.func218 Z Tryz.ntmps218 Z Z ?_)
  repeat'(first|(apply Zg Za;exact Z)|(apply Zh Za;exact Z)|(apply Zs Za;exact Z)|refine Ze Z Qt ?_|refine Zn Za Z Z Z Z ?_)
  all_goals exact Qe
theorem Bf (n m:Nat):((n:Int)==(m:Int))=(n==m):=by
 rw[Bool.eq_iff_iff,beq_iff_eq,beq_iff_eq];omega
theorem Ub [Known]:∀(x:It),wfI x->∀ y:It,wfI y->AP Tryz.prog 176 [itD x,itD y] (.bool (It.beq x y)) []:=by
 refine It.ind fun k n b l ih hw y hw'=>?_
 obtain⟨k',n',b',l'⟩:=y
 obtain⟨_,_,hl,hws⟩:=hw
 obtain⟨_,_,hl',hws'⟩:=hw'
 have hE:=TL l l' hl hl' fun y hy y' hy'=>ih y hy (YD hws y hy) y' (YD hws' y' hy')
 have hB:=Q4 b b'
 have en:=Bf n n'
 rw[It.beq]
 cases h1:k==k'<;>cases h2:n==n'<;>cases h3:b==b'
 all_goals
  rw[h2]at en
  rw[h3]at hB
  refine AP.ofA (Zl Tryz.func176 Z Tryz.ntmps176 Z Z ?_)
  repeat'(first|rw[en]|(apply Zb (hB);kernel_rfl;(iterate 4 exact Z))|(apply Zb (hE);kernel_rfl;(iterate 4 exact Z))|(apply Zg Za;exact Z)|(apply Zh Za;exact Z)|refine Zd Z Z Z Qt ?_|refine Zr Z Z Z Qt ?_|refine Zj Z Qt Z Z ?_|refine Zi Z Qt Z Z ?_)
  all_goals exact Qe
def w8N:List UInt8->Nat
 | c0::c1::c2::c3::c4::c5::c6::c7::_=>c0.toNat+256*c1.toNat+65536*c2.toNat+16777216*c3.toNat+4294967296*c4.toNat+1099511627776*c5.toNat+281474976710656*c6.toNat+72057594037927936*c7.toNat
 | _=>0
theorem Rm {l:List UInt8}(h:8<=l.length):∃ c0 c1 c2 c3 c4 c5 c6 c7 r,l=c0::c1::c2::c3::c4::c5::c6::c7::r:=by
 match l,h with
 | c0::c1::c2::c3::c4::c5::c6::c7::r,_=>exact⟨c0,c1,c2,c3,c4,c5,c6,c7,r,rfl⟩
abbrev hi8:Nat:=9259542123273814144
theorem Vl (l:List UInt8):w8N l<18446744073709551616:=by
 unfold w8N
 split
 ·rename_i c0 c1 c2 c3 c4 c5 c6 c7 r
  have:=c0.toNat_lt;have:=c1.toNat_lt;have:=c2.toNat_lt;have:=c3.toNat_lt
  have:=c4.toNat_lt;have:=c5.toNat_lt;have:=c6.toNat_lt;have:=c7.toNat_lt
  omega
 ·omega
theorem Uc {w k:Nat}(h:w &&& hi8=0)(hk:hi8.testBit k=true):w.testBit k=false:=by
 have:=congrArg (fun x=>x.testBit k) h
 simp only[Nat.testBit_and,hk,Bool.and_true,Nat.zero_testBit]at this
 exact this
theorem UJ {l:List UInt8}(hl:8<=l.length)(h:w8N l &&& hi8=0):∀ c ∈ l.take 8,c.toNat<128:=by
 obtain⟨c0,c1,c2,c3,c4,c5,c6,c7,r,rfl⟩:=Rm hl
 have b0:=Uc (k:=7) h (by decide)
 have b1:=Uc (k:=15) h (by decide)
 have b2:=Uc (k:=23) h (by decide)
 have b3:=Uc (k:=31) h (by decide)
 have b4:=Uc (k:=39) h (by decide)
 have b5:=Uc (k:=47) h (by decide)
 have b6:=Uc (k:=55) h (by decide)
 have b7:=Uc (k:=63) h (by decide)
 have:=c0.toNat_lt;have:=c1.toNat_lt;have:=c2.toNat_lt;have:=c3.toNat_lt
 have:=c4.toNat_lt;have:=c5.toNat_lt;have:=c6.toNat_lt;have:=c7.toNat_lt
 simp only[Nat.testBit_eq_decide_div_mod_eq,decide_eq_false_iff_not,w8N]at b0 b1 b2 b3 b4 b5 b6 b7
 intro c hc
 simp only[List.take_succ_cons,List.take_zero,List.mem_cons,List.not_mem_nil,or_false]at hc
 rcases hc with rfl|rfl|rfl|rfl|rfl|rfl|rfl|rfl
 all_goals omega
theorem Lq (a x k:Nat)(ha:a<2 ^ k):a ||| x*2 ^ k=a+x*2 ^ k:=by
 rw[Nat.or_comm,Nat.mul_comm,<- Nat.two_pow_add_eq_or_of_lt ha x];omega
theorem Bg (c:UInt8)(k:Nat)(hk:k<=56):IntKind.u64.wrap (IntKind.u64.wrap (c.toNat:Int)*2 ^ min (Int.toNat (k:Int)) IntKind.u64.bits)=((c.toNat*2 ^ k:Nat):Int):=by
 have hc:=c.toNat_lt
 rw[Int.toNat_natCast,show min k IntKind.u64.bits=k from Nat.min_eq_left (by show k<=64;omega)]
 have e1:IntKind.u64.wrap (c.toNat:Int)=(c.toNat:Int):=by rw[IntKind.wrap_u64];omega
 have e2:((c.toNat:Int)*2 ^ k)=((c.toNat*2 ^ k:Nat):Int):=by simp
 rw[e1,e2,IntKind.wrap_u64]
 have:c.toNat*2 ^ k<18446744073709551616:=by
  have h1:c.toNat*2 ^ k<256*2 ^ k:=Nat.mul_lt_mul_of_pos_right hc (Nat.two_pow_pos k)
  have h2:256*2 ^ k<=256*2 ^ 56:=Nat.mul_le_mul_left _ (Nat.pow_le_pow_right (by decide) hk)
  omega
 omega
theorem Ke {a:Nat}(c:UInt8)(k:Nat)(ha:a<2 ^ k)(hk:k<=56):bits .or .u64 (a:Int) (IntKind.u64.wrap (IntKind.u64.wrap (c.toNat:Int)*2 ^ min (Int.toNat (k:Int)) IntKind.u64.bits))=((a+c.toNat*2 ^ k:Nat):Int):=by
 have hc:=c.toNat_lt
 have h56:2 ^ k<=2 ^ 56:=Nat.pow_le_pow_right (by decide) hk
 have h1:c.toNat*2 ^ k<256*2 ^ k:=Nat.mul_lt_mul_of_pos_right hc (Nat.two_pow_pos k)
 rw[Bg c k hk,u64_or_nat _ _ (by omega) (by omega),Lq _ _ _ ha]
theorem UK [Known](l:List UInt8)(hl:8<=l.length):AP Tryz.prog 282 [byE l] (.int .u64 (w8N l:Int)) []:=by
 have hU:=Y7 l
 obtain⟨c0,c1,c2,c3,c4,c5,c6,c7,r,rfl⟩:=Rm hl
 refine AP.ofA (Zl Tryz.func282 Z Tryz.ntmps282 Z Z ?_)
 repeat'(first|(apply Zg Za;exact Z)|(apply Zh Za;exact Z)|(apply ZW 45 ZG;decide +kernel;kernel_rfl;kernel_rfl;exact Z;exact Z)|(apply Yb;(iterate 3 exact Z))|refine AD.nil _|exact Yv rfl|(apply Zw Za;(iterate 6 exact Z);(first|exact Qb|rotate_left);(first|with_reducible assumption|exact Z);(first|exact Zk rfl|with_reducible assumption|rotate_left))|(apply OW;exact Z;exact Z;(first|exact Qb|rotate_left);exact Z))
 all_goals(apply Zt [];(apply Zc Za;exact Z);(iterate 4 exact Z))
 all_goals first|rfl|skip
 have:=c0.toNat_lt;have:=c1.toNat_lt;have:=c2.toNat_lt;have:=c3.toNat_lt
 have:=c4.toNat_lt;have:=c5.toNat_lt;have:=c6.toNat_lt;have:=c7.toNat_lt
 congr 1
 have e0:IntKind.u64.wrap (c0.toNat:Int)=((c0.toNat:Nat):Int):=by rw[IntKind.wrap_u64];omega
 have q1:=Ke (a:=c0.toNat) c1 8 (by omega) (by omega)
 have q2:=Ke (a:=c0.toNat+c1.toNat*2 ^ 8) c2 16 (by omega) (by omega)
 have q3:=Ke (a:=c0.toNat+c1.toNat*2 ^ 8+c2.toNat*2 ^ 16) c3 24 (by omega) (by omega)
 have q4:=Ke (a:=c0.toNat+c1.toNat*2 ^ 8+c2.toNat*2 ^ 16+c3.toNat*2 ^ 24) c4 32 (by omega) (by omega)
 have q5:=Ke (a:=c0.toNat+c1.toNat*2 ^ 8+c2.toNat*2 ^ 16+c3.toNat*2 ^ 24+c4.toNat*2 ^ 32) c5 40 (by omega) (by omega)
 have q6:=Ke (a:=c0.toNat+c1.toNat*2 ^ 8+c2.toNat*2 ^ 16+c3.toNat*2 ^ 24+c4.toNat*2 ^ 32+c5.toNat*2 ^ 40) c6 48 (by omega) (by omega)
 have q7:=Ke (a:=c0.toNat+c1.toNat*2 ^ 8+c2.toNat*2 ^ 16+c3.toNat*2 ^ 24+c4.toNat*2 ^ 32+c5.toNat*2 ^ 40+c6.toNat*2 ^ 48) c7 56 (by omega) (by omega)
 rw[e0]at *
 have fin:(w8N (c0::c1::c2::c3::c4::c5::c6::c7::r):Int)=((c0.toNat+c1.toNat*2 ^ 8+c2.toNat*2 ^ 16+c3.toNat*2 ^ 24+c4.toNat*2 ^ 32+c5.toNat*2 ^ 40+c6.toNat*2 ^ 48+c7.toNat*2 ^ 56:Nat):Int):=by
  simp only[w8N];omega
 rw[fin,<- q7,<- q6,<- q5,<- q4,<- q3,<- q2,<- q1]
 rfl
theorem UL {a b:Nat}(h:(a ||| b) &&& hi8=0):a &&& hi8=0/\b &&& hi8=0:=by
 rw[Nat.and_or_distrib_right]at h
 exact Nat.or_eq_zero_iff.1 h
theorem Wu:∀(k:Nat) (l:List UInt8),k<=l.length->(∀ c ∈ l.take k,c.toNat<128)->ZI l=ZI (l.drop k)
 | 0,l,_,_=>rfl
 | k+1,[],h,_=>by simp at h
 | k+1,c::r,h,ha=>by
  have hc:c.toNat<128:=ha c (by simp)
  rw[Yz]
  have:pt (c::r)=1:=by simp[pt,ptN,hc]
  rw[this]
  simp only[List.drop_zero,List.drop_succ_cons]
  exact Wu k r (by simpa using h) fun c' h'=>ha c' (by simp[h'])
def fT (c:Nat):Nat:=if c<128 then 240 else if c<194 then 241 else if c<224 then 2 else if c<225 then 19 else if c<237 then 3 else if c<238 then 35 else if c<240 then 3 else if c<241 then 52 else if c<244 then 4 else if c<245 then 68 else 241
theorem QI:(6,(List.range 256).map fun c=>Value.int .u8 (fT c:Int)) ∈ Is:=by
 have e:(List.range 256).map (fun c=>Value.int .u8 (fT c:Int))=dcs Rows.laid_unicode_utf8_first:=by kernel_rfl
 rw[e]
 unfold Is
 simp
def aT (i:Nat):List Value:=if i=0 then [.int .u8 128,.int .u8 191] else if i=1 then [.int .u8 160,.int .u8 191] else if i=2 then [.int .u8 128,.int .u8 159] else if i=3 then [.int .u8 144,.int .u8 191] else if i=4 then [.int .u8 128,.int .u8 143] else [.int .u8 0,.int .u8 0]
theorem UM:(7,(List.range 16).flatMap aT) ∈ Is:=by
 have e:(List.range 16).flatMap aT=dcs Rows.laid_unicode_utf8_acceptRanges:=by kernel_rfl
 rw[e]
 unfold Is
 simp
theorem Jz (c:UInt8):((List.range 256).map fun c=>Value.int .u8 (fT c:Int))[0+((c.toNat:Nat):Int).toNat*1]?=some (.int .u8 (fT c.toNat:Int)):=by
 have:=c.toNat_lt
 rw[Int.toNat_natCast,Nat.zero_add,Nat.mul_one,List.getElem?_map,List.getElem?_range (by omega)]
 rfl
end Go.Proofs.YtchlgagdbflkmaaGreatDoor
end
