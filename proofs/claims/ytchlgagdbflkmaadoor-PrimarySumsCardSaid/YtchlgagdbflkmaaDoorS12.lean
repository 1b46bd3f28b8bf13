/- Items over abstract states: what is put together. -/
import Derived.Test.YtchlgagdbflkmaaDoorS10
import Derived.Test.YtchlgagdbflkmaaDoorS11
import Derived.Recover
set_option linter.unusedVariables false
set_option linter.unusedSimpArgs false
section
open Go.RowKit Go.Pl Go.Av
namespace Go.Proofs.YtchlgagdbflkmaaDoor
set_option maxHeartbeats 4000000
theorem It.ind {P:It->Prop}(h:∀ k n b l,(∀ y ∈ l,P y)->P (.mk k n b l)):∀ x,P x:=by
 intro x
 refine It.rec (motive_1:=P) (motive_2:=fun l=>∀ y ∈ l,P y) (fun k n b l ih=>h k n b l ih) (by simp) (fun x l hx hl y hy=>?_) x
 rcases List.mem_cons.1 hy with rfl|hy
 ·exact hx
 ·exact hl y hy
mutual
def itE:It->E
 | .mk k n b l=>.agg [.int .i64 k,.int .u64 (n:Int),.sl (b.map E.byte),.sl (Zh l)]
def Zh:List It->List E
 | []=>[]
 | x::l=>itE x::Zh l
end
theorem ZD:∀ l:List It,Zh l=l.map itE
 | []=>rfl
 | x::l=>by rw[Zh,List.map_cons,ZD l]
theorem YS (a b:List It):Zh (a++b)=Zh a++Zh b:=by rw[ZD,ZD,ZD,List.map_append]
theorem Zl (l:List It):(Zh l).length=l.length:=by rw[ZD,List.length_map]
abbrev itC (k:Int)(n:Nat)(b:List UInt8)(l:List It):List D:=[.int .i64 k,.int .u64 (n:Int),byE b,.sl .ext (Zh l)]
def itD:It->D
 | .mk k n b l=>.agg (itC k n b l)
theorem K4 (x:It):(itE x).cells.length=4:=by obtain⟨k,n,b,l⟩:=x;rfl
theorem Yb (l:List It):Uni 4 (Zh l):=by rw[ZD];exact Uni.map K4 l
theorem ZX:∀ {l:List It},wfs l->∀ y ∈ l,wfI y
 | x::l,⟨h1,h2⟩,y,hy=>by
  rcases List.mem_cons.1 hy with rfl|hy
  ·exact h1
  ·exact ZX h2 y hy
theorem Uz [Known]:∀(x:It),wfI x->AP Tryd.prog 28 [itD x] (itD x) []:=by
 refine It.ind fun k n b l ih hw=>?_
 obtain⟨hn,hb,hl,hws⟩:=hw
 have ih':∀ y ∈ l,AP Tryd.prog 28 [itD y] (itD y) []:=fun y hy=>ih y hy (ZX hws y hy)
 clear ih
 have hlen:=Zl l
 refine AP.ofA (Zm Tryd.func28 Z Tryd.ntmps28 Z Z ?_)
 repeat'(first|refine Zb (Q7 b hb) Qk Z Z Z Z ?_|refine Zj Za Z ?_|refine Zg Za Z ?_|refine Zn Za Z Z Z Z ?_)
 refine ZT (fun k' tm bx fr=>∃(i c:Nat) (L:List E),k'+i=l.length/\c=L.length/\L=Zh (l.take i)/\tm=[(1,.ptr 0 0),(2,.ptr 1 0),(13,.sl .ext (Zh l)),(14,.int .i64 ((Zh l).length:Int)),(15,.int .i64 (i:Int))] /\
  ((i=0/\bx=[[.int .i64 k,.int .u64 (n:Int),byE b,.sl .nil []],[.int .i64 0,.int .u64 0,.sl .nil [],.sl .nil []]]/\fr=[]) \/
  (bx=[[.int .i64 k,.int .u64 (n:Int),byE b,.sl (.own 0) L],[.int .i64 0,.int .u64 0,.sl .nil [],.sl .nil []]]/\fr=[⟨c,4,27⟩]))) (l.length+1) (Lands.mk' (m:=l.length) (Nat.lt_succ_self _) ⟨0,0,[],rfl,rfl,rfl,rfl,.inl ⟨rfl,rfl,rfl⟩⟩ ?_ rfl rfl rfl rfl rfl rfl) ?_
 ·exact .cons rfl (.cons rfl (.cons rfl (.cons rfl (.cons rfl .nil))))
 rintro k' tm bx fr ⟨i,c,L,hi,hc,hL,rfl,⟨rfl,rfl,rfl⟩ | ⟨rfl,rfl⟩⟩
 ·cases l with
  | nil=>
   repeat'(first|refine Zg Za Z ?_|refine Ze Z Qt ?_)
   all_goals exact Qe
  | cons y l=>
   have hc:=ih' y (List.mem_cons_self ..)
   have hU:=Yb (y::l)
   have hd:decide (((0:Nat):Int)<((Zh (y::l)).length:Int))=true:=decide_eq_true (by rw[Zh];simp)
   obtain⟨k1,n1,b1,l1⟩:=y
   repeat'(first|refine Zb hc Qk Z Z Z Z ?_|refine YN Za Z Z Z Z Z Z (Zf rfl) (List.cons_ne_nil _ _) Z Qd Qd Z Z Z ?_|refine Zj Za Z ?_|refine Zg Za Z ?_|refine Zv Za Z ?_|refine Zd Z Qt ?_|refine Yd Za Z Z Z Z Z Z Z Z Z Z Z Z ?_|(apply Zo 5 ZG;decide +kernel;kernel_rfl;kernel_rfl;kernel_rfl;exact Z;exact Z)|(apply Zr;(iterate 4 exact Z))|exact AE.nil _ _ _ _|(apply Zt;exact Z)|(apply Zx;exact Z;exact Z;decide +kernel;exact Z)|(apply Zz;exact Z)|exact AO.nil _ _ _|(apply Zq;(decide +kernel))|exact AOs.nil|exact ZM rfl rfl|exact WE rfl rfl rfl rfl rfl|(apply Zs Za;(iterate 6 exact Z);(first|exact Qt|rotate_left);(first|with_reducible assumption|decide +kernel|exact Z);(first|exact Zf rfl|with_reducible assumption|decide +kernel|rotate_left)))
   refine Lands.mk' (m:=k'-1) (by simp at hi;omega) ⟨1,1,Zh [It.mk k1 n1 b1 l1],by simp at hi ⊢;omega,rfl,rfl,rfl,.inr ⟨rfl,rfl⟩⟩ ?_ rfl rfl rfl rfl rfl rfl
   exact .cons rfl (.cons rfl (.cons rfl (.cons rfl (.cons rfl .nil))))
 ·have hU:=Yb l
  have hU2:Uni 4 L:=hL ▸ Yb (l.take i)
  have el:=Zl (l.take i)
  rw[<- hL]at el
  subst hc
  rcases Nat.lt_or_ge i l.length with hlt|hge
  ·have hd:decide ((i:Int)<((Zh l).length:Int))=true:=decide_eq_true (by omega)
   obtain⟨⟨k1,n1,b1,l1⟩,hy⟩:∃ y,l[i]?=some y:=⟨_,List.getElem?_eq_getElem hlt⟩
   have hv:(Zh l)[((i:Nat):Int).toNat]?=some (.agg [.int .i64 k1,.int .u64 (n1:Int),.sl (b1.map E.byte),.sl (Zh l1)]):=by
    rw[Int.toNat_natCast,ZD,List.getElem?_map,hy];rfl
   have hc:=ih' _ (List.mem_of_getElem? hy)
   have ei:IntKind.i64.wrap ((i:Int)+1)=((i+1:Nat):Int):=by rw[IntWalk.i64_in _ (by omega)];omega
   have hs:L++[E.agg [.int .i64 k1,.int .u64 (n1:Int),.sl (b1.map E.byte),.sl (Zh l1)]]=Zh (l.take (i+1)):=by
    rw[hL,List.take_add_one,hy];exact(YS _ [It.mk k1 n1 b1 l1]).symm
   rw[List.length_take]at el
   repeat'(first|refine Zb hc Qk Z Z Z Z ?_|rw[ei]|refine Zj Za Z ?_|refine Zg Za Z ?_|refine Zv Za Z ?_|refine Zd Z Qt ?_|refine Yd Za Z Z Z Z Z Z Z Z Z Z Z Z ?_|(apply Zo 5 ZG;decide +kernel;kernel_rfl;kernel_rfl;kernel_rfl;exact Z;exact Z)|(apply Zr;(iterate 4 exact Z))|exact AE.nil _ _ _ _|(apply Zt;exact Z)|(apply Zx;exact Z;exact Z;decide +kernel;exact Z)|(apply Zz;exact Z)|exact AO.nil _ _ _|(apply Zq;(decide +kernel))|exact AOs.nil|exact ZM rfl rfl|exact WE rfl rfl rfl rfl rfl|(apply ZS Za;(iterate 6 exact Z);(first|with_reducible assumption|decide +kernel|exact Z|rotate_left);exact Z;exact Z;(first|exact Zf rfl|with_reducible assumption|decide +kernel|rotate_left);(first|exact Zf rfl|with_reducible assumption|decide +kernel|rotate_left);(first|exact Qt|rotate_left);(first|exact Qt|rotate_left);(first|exact Qt|rotate_left);exact Z;exact Z)|(apply Zs Za;(iterate 6 exact Z);(first|exact Qt|rotate_left);(first|with_reducible assumption|decide +kernel|exact Z);(first|exact Zf rfl|with_reducible assumption|decide +kernel|rotate_left)))
   ·refine Lands.mk' (m:=k'-1) (by omega) ⟨i+1,L.length+1,_,by omega,by rw[List.length_append];rfl,hs,rfl,.inr ⟨rfl,rfl⟩⟩ ?_ rfl rfl rfl rfl rfl rfl
    exact .cons rfl (.cons rfl (.cons rfl (.cons rfl (.cons rfl .nil))))
   all_goals(first|rfl|(simp only[List.length_append,List.length_cons,List.length_nil,List.length_map,Zl];done)|(simp only[List.length_append,List.length_cons,List.length_nil,List.length_map,Zl]at *;(try unfold maxLen);(try simp only[Nat.add_mul]);omega))
  ·have hd:decide ((i:Int)<((Zh l).length:Int))=false:=decide_eq_false (by omega)
   rw[List.take_of_length_le hge]at hL
   subst hL
   repeat'(first|refine Zg Za Z ?_|refine Ze Z Qt ?_)
   all_goals exact Qe
theorem Yy [Known](n:Nat):AP Tryd.prog 6 [.int .u64 (n:Int)] (itD (.mk 0 n [] [])) []:=by
 refine AP.ofA (Zm Tryd.func6 Z Tryd.ntmps6 Z Z ?_)
 repeat'(first|refine Zg Za Z ?_)
 all_goals exact Qe
theorem I8 [Known](b:List UInt8):AP Tryd.prog 37 [.str b] (itD (.mk 3 0 b [])) []:=by
 refine AP.ofA (Zm Tryd.func37 Z Tryd.ntmps37 Z Z ?_)
 repeat'(first|refine GT Za Z Z Z Z Z Z Z Z ?_|refine Zj Za Z ?_|refine Zg Za Z ?_)
 all_goals exact Qe
theorem Ud [Known](b:List UInt8)(hb:b.length<=140737488351232):AP Tryd.prog 17 [byE b] (itD (.mk 2 0 b [])) []:=by
 refine AP.ofA (Zm Tryd.func17 Z Tryd.ntmps17 Z Z ?_)
 repeat'(first|refine Zb (Q7 b hb) Qk Z Z Z Z ?_|refine Zj Za Z ?_|refine Zg Za Z ?_)
 all_goals exact Qe
theorem Y2 [Known](l:List It)(hl:l.length<=2199023255488)(hws:wfs l):AP Tryd.prog 15 [.sl .ext (Zh l)] (itD (.mk 4 0 [] l)) []:=by
 have ih':∀ y ∈ l,AP Tryd.prog 28 [itD y] (itD y) []:=fun y hy=>Uz y (ZX hws y hy)
 have hlen:=Zl l
 refine AP.ofA (Zm Tryd.func15 Z Tryd.ntmps15 Z Z ?_)
 repeat'(first|refine Zj Za Z ?_|refine Zg Za Z ?_|refine Zn Za Z Z Z Z ?_)
 refine ZT (fun k' tm bx fr=>∃(i c:Nat) (L:List E),k'+i=l.length/\c=L.length/\L=Zh (l.take i)/\tm=[(3,.ptr 1 0),(2,.ptr 0 0),(7,.sl .ext (Zh l)),(8,.int .i64 ((Zh l).length:Int)),(9,.int .i64 (i:Int))] /\
  ((i=0/\bx=[[.int .i64 0,.int .u64 0,.sl .nil [],.sl .nil []],[.int .i64 4,.int .u64 0,.sl .nil [],.sl .nil []]]/\fr=[]) \/
  (bx=[[.int .i64 0,.int .u64 0,.sl .nil [],.sl .nil []],[.int .i64 4,.int .u64 0,.sl .nil [],.sl (.own 0) L]]/\fr=[⟨c,4,27⟩]))) (l.length+1) (Lands.mk' (m:=l.length) (Nat.lt_succ_self _) ⟨0,0,[],rfl,rfl,rfl,rfl,.inl ⟨rfl,rfl,rfl⟩⟩ ?_ rfl rfl rfl rfl rfl rfl) ?_
 ·exact .cons rfl (.cons rfl (.cons rfl (.cons rfl (.cons rfl .nil))))
 rintro k' tm bx fr ⟨i,c,L,hi,hc,hL,rfl,⟨rfl,rfl,rfl⟩ | ⟨rfl,rfl⟩⟩
 ·cases l with
  | nil=>
   repeat'(first|refine Zg Za Z ?_|refine Ze Z Qt ?_)
   all_goals exact Qe
  | cons y l=>
   have hc:=ih' y (List.mem_cons_self ..)
   have hU:=Yb (y::l)
   have hd:decide (((0:Nat):Int)<((Zh (y::l)).length:Int))=true:=decide_eq_true (by rw[Zh];simp)
   obtain⟨k1,n1,b1,l1⟩:=y
   repeat'(first|refine Zb hc Qk Z Z Z Z ?_|refine YN Za Z Z Z Z Z Z (Zf rfl) (List.cons_ne_nil _ _) Z Qd Qd Z Z Z ?_|refine Zj Za Z ?_|refine Zg Za Z ?_|refine Zv Za Z ?_|refine Zd Z Qt ?_|refine Yd Za Z Z Z Z Z Z Z Z Z Z Z Z ?_|(apply Zo 5 ZG;decide +kernel;kernel_rfl;kernel_rfl;kernel_rfl;exact Z;exact Z)|(apply Zr;(iterate 4 exact Z))|exact AE.nil _ _ _ _|(apply Zt;exact Z)|(apply Zx;exact Z;exact Z;decide +kernel;exact Z)|(apply Zz;exact Z)|exact AO.nil _ _ _|(apply Zq;(decide +kernel))|exact AOs.nil|exact ZM rfl rfl|exact WE rfl rfl rfl rfl rfl|(apply Zs Za;(iterate 6 exact Z);(first|exact Qt|rotate_left);(first|with_reducible assumption|decide +kernel|exact Z);(first|exact Zf rfl|with_reducible assumption|decide +kernel|rotate_left)))
   refine Lands.mk' (m:=k'-1) (by simp at hi;omega) ⟨1,1,Zh [It.mk k1 n1 b1 l1],by simp at hi ⊢;omega,rfl,rfl,rfl,.inr ⟨rfl,rfl⟩⟩ ?_ rfl rfl rfl rfl rfl rfl
   exact .cons rfl (.cons rfl (.cons rfl (.cons rfl (.cons rfl .nil))))
 ·have hU:=Yb l
  have hU2:Uni 4 L:=hL ▸ Yb (l.take i)
  have el:=Zl (l.take i)
  rw[<- hL]at el
  subst hc
  rcases Nat.lt_or_ge i l.length with hlt|hge
  ·have hd:decide ((i:Int)<((Zh l).length:Int))=true:=decide_eq_true (by omega)
   obtain⟨⟨k1,n1,b1,l1⟩,hy⟩:∃ y,l[i]?=some y:=⟨_,List.getElem?_eq_getElem hlt⟩
   have hv:(Zh l)[((i:Nat):Int).toNat]?=some (.agg [.int .i64 k1,.int .u64 (n1:Int),.sl (b1.map E.byte),.sl (Zh l1)]):=by
    rw[Int.toNat_natCast,ZD,List.getElem?_map,hy];rfl
   have hc:=ih' _ (List.mem_of_getElem? hy)
   have ei:IntKind.i64.wrap ((i:Int)+1)=((i+1:Nat):Int):=by rw[IntWalk.i64_in _ (by omega)];omega
   have hs:L++[E.agg [.int .i64 k1,.int .u64 (n1:Int),.sl (b1.map E.byte),.sl (Zh l1)]]=Zh (l.take (i+1)):=by
    rw[hL,List.take_add_one,hy];exact(YS _ [It.mk k1 n1 b1 l1]).symm
   rw[List.length_take]at el
   repeat'(first|refine Zb hc Qk Z Z Z Z ?_|rw[ei]|refine Zj Za Z ?_|refine Zg Za Z ?_|refine Zv Za Z ?_|refine Zd Z Qt ?_|refine Yd Za Z Z Z Z Z Z Z Z Z Z Z Z ?_|(apply Zo 5 ZG;decide +kernel;kernel_rfl;kernel_rfl;kernel_rfl;exact Z;exact Z)|(apply Zr;(iterate 4 exact Z))|exact AE.nil _ _ _ _|(apply Zt;exact Z)|(apply Zx;exact Z;exact Z;decide +kernel;exact Z)|(apply Zz;exact Z)|exact AO.nil _ _ _|(apply Zq;(decide +kernel))|exact AOs.nil|exact ZM rfl rfl|exact WE rfl rfl rfl rfl rfl|(apply ZS Za;(iterate 6 exact Z);(first|with_reducible assumption|decide +kernel|exact Z|rotate_left);exact Z;exact Z;(first|exact Zf rfl|with_reducible assumption|decide +kernel|rotate_left);(first|exact Zf rfl|with_reducible assumption|decide +kernel|rotate_left);(first|exact Qt|rotate_left);(first|exact Qt|rotate_left);(first|exact Qt|rotate_left);exact Z;exact Z)|(apply Zs Za;(iterate 6 exact Z);(first|exact Qt|rotate_left);(first|with_reducible assumption|decide +kernel|exact Z);(first|exact Zf rfl|with_reducible assumption|decide +kernel|rotate_left)))
   ·refine Lands.mk' (m:=k'-1) (by omega) ⟨i+1,L.length+1,_,by omega,by rw[List.length_append];rfl,hs,rfl,.inr ⟨rfl,rfl⟩⟩ ?_ rfl rfl rfl rfl rfl rfl
    exact .cons rfl (.cons rfl (.cons rfl (.cons rfl (.cons rfl .nil))))
   all_goals(first|rfl|(simp only[List.length_append,List.length_cons,List.length_nil,List.length_map,Zl];done)|(simp only[List.length_append,List.length_cons,List.length_nil,List.length_map,Zl]at *;(try unfold maxLen);(try simp only[Nat.add_mul]);omega))
  ·have hd:decide ((i:Int)<((Zh l).length:Int))=false:=decide_eq_false (by omega)
   rw[List.take_of_length_le hge]at hL
   subst hL
   repeat'(first|refine Zg Za Z ?_|refine Ze Z Qt ?_)
   all_goals exact Qe
end Go.Proofs.YtchlgagdbflkmaaDoor
end
section
open Go.RowKit Go.Pl
namespace Go.Av
section
variable {P:Program} {Q:X->St->Prop} {n:Nat} {ee:Nat × Nat} {tm tm':List (Nat × D)} {bx bx':List (List D)} {fr fr':List Fr} {b0:Bs} {g:G} {w:World} {a:Act} {T:Tab}
variable {ops:Array Oper} {rest:List Oper} {t ty:Nat} {pos:String} {after:Array Edge}
end
end Go.Av
end
section
open Go.RowKit Go.Pl Go.Av
namespace Go.Proofs.YtchlgagdbflkmaaDoor
set_option maxHeartbeats 4000000
theorem Xb:∀ {l l':List It},l.length ≠ l'.length->It.beqs l l'=false
 | [],[],h=>by simp at h
 | [],_::_,_=>rfl
 | _::_,[],_=>rfl
 | x::l,y::l',h=>by
  rw[It.beqs]
  cases It.beq x y
  ·rfl
  ·exact Xb (by simpa using h)
theorem K5 [Known](l l':List It)(hl:l.length<=2199023255488)(hl':l'.length<=2199023255488)(ih:∀ y ∈ l,∀ y' ∈ l',AP Tryd.prog 18 [itD y,itD y'] (.bool (It.beq y y')) []):AP Tryd.prog 34 [.sl .ext (Zh l),.sl .ext (Zh l'),.fn 18 []] (.bool (It.beqs l l')) []:=by
 have e1:=Zl l
 have e2:=Zl l'
 by_cases hne:l.length=l'.length
 ·have t1:(((Zh l).length:Int) != ((Zh l').length:Int))=false:=by rw[e1,e2,hne];simp
  generalize hfin:It.beqs l l'=fin
  refine AP.ofA (Zm Tryd.func34 Z Tryd.ntmps34 Z Z ?_)
  repeat'(first|refine Zj Za Z ?_|refine Zg Za Z ?_|refine Zv Za Z ?_|refine Ze Z Qt ?_|refine Zn Za Z Z Z Z ?_)
  refine ZT (fun f tm bx fr=>∃ i:Nat,f+i=l.length/\It.beqs (l.drop i) (l'.drop i)=fin/\tm=[(0,.sl .ext (Zh l)),(1,.sl .ext (Zh l')),(2,.fn 18 []),(6,.bool false),(15,.sl .ext (Zh l)),(16,.int .i64 ((Zh l).length:Int)),(17,.int .i64 (i:Int))]/\bx=[]/\fr=[]) (l.length+1) (Lands.mk' (m:=l.length) (Nat.lt_succ_self _) ⟨0,rfl,hfin,rfl,rfl,rfl⟩ ?_ rfl rfl rfl rfl rfl rfl) ?_
  ·exact .cons rfl (.cons rfl (.cons rfl (.cons rfl (.cons rfl (.cons rfl (.cons rfl .nil))))))
  rintro f tm bx fr ⟨i,hf,hfin,rfl,rfl,rfl⟩
  have hU:=Yb l
  have hU':=Yb l'
  rcases Nat.lt_or_ge i l.length with hlt|hge
  ·have hdl:decide ((i:Int)<((Zh l).length:Int))=true:=decide_eq_true (by omega)
   obtain⟨⟨k1,n1,b1,l1⟩,hy⟩:∃ y,l[i]?=some y:=⟨_,List.getElem?_eq_getElem hlt⟩
   obtain⟨⟨k2,n2,b2,l2⟩,hy'⟩:∃ y,l'[i]?=some y:=⟨_,List.getElem?_eq_getElem (by omega)⟩
   have hv:(Zh l)[((i:Nat):Int).toNat]?=some (.agg [.int .i64 k1,.int .u64 (n1:Int),.sl (b1.map E.byte),.sl (Zh l1)]):=by
    rw[Int.toNat_natCast,ZD,List.getElem?_map,hy];rfl
   have hv':(Zh l')[((i:Nat):Int).toNat]?=some (.agg [.int .i64 k2,.int .u64 (n2:Int),.sl (b2.map E.byte),.sl (Zh l2)]):=by
    rw[Int.toNat_natCast,ZD,List.getElem?_map,hy'];rfl
   have hc:=ih _ (List.mem_of_getElem? hy) _ (List.mem_of_getElem? hy')
   have hdr:l.drop i=It.mk k1 n1 b1 l1::l.drop (i+1):=by
    rw[List.drop_eq_getElem_cons hlt];congr 1
    exact(List.getElem?_eq_some_iff.1 hy).2
   have hdr':l'.drop i=It.mk k2 n2 b2 l2::l'.drop (i+1):=by
    rw[List.drop_eq_getElem_cons (by omega)];congr 1
    exact(List.getElem?_eq_some_iff.1 hy').2
   rw[hdr,hdr',It.beqs]at hfin
   have ei:IntKind.i64.wrap ((i:Int)+1)=((i+1:Nat):Int):=by rw[IntWalk.i64_in _ (by omega)];omega
   cases hb:It.beq (.mk k1 n1 b1 l1) (.mk k2 n2 b2 l2) with
   | false=>
    rw[hb]at hfin hc
    subst hfin
    repeat'(first|refine VI hc Z Qk Z Z Z ?_|refine Zj Za Z ?_|refine Zg Za Z ?_|refine Zv Za Z ?_|refine Zd Z Qt ?_|(apply Zs Za;(iterate 6 exact Z);(first|exact Qt|rotate_left);(first|with_reducible assumption|decide +kernel|exact Z);(first|exact Zf rfl|with_reducible assumption|decide +kernel|rotate_left)))
    all_goals exact Qe
   | true=>
    rw[hb]at hfin hc
    repeat'(first|rw[ei]|refine VI hc Z Qk Z Z Z ?_|refine Zj Za Z ?_|refine Zg Za Z ?_|refine Zv Za Z ?_|refine Zd Z Qt ?_|refine Ze Z Qt ?_|(apply Zs Za;(iterate 6 exact Z);(first|exact Qt|rotate_left);(first|with_reducible assumption|decide +kernel|exact Z);(first|exact Zf rfl|with_reducible assumption|decide +kernel|rotate_left)))
    refine Lands.mk' (m:=f-1) (by omega) ⟨i+1,by omega,hfin,rfl,rfl,rfl⟩ ?_ rfl rfl rfl rfl rfl rfl
    exact .cons rfl (.cons rfl (.cons rfl (.cons rfl (.cons rfl (.cons rfl (.cons rfl .nil))))))
  ·have hdl:decide ((i:Int)<((Zh l).length:Int))=false:=decide_eq_false (by omega)
   rw[List.drop_eq_nil_of_le hge,List.drop_eq_nil_of_le (by omega)]at hfin
   have hfin:true=fin:=hfin
   subst hfin
   repeat'(first|refine Zg Za Z ?_|refine Ze Z Qt ?_)
   all_goals exact Qe
 ·have t1:(((Zh l).length:Int) != ((Zh l').length:Int))=true:=by rw[e1,e2];simp;omega
  rw[Xb hne]
  refine AP.ofA (Zm Tryd.func34 Z Tryd.ntmps34 Z Z ?_)
  repeat'(first|refine Zj Za Z ?_|refine Zg Za Z ?_|refine Zv Za Z ?_|refine Zd Z Qt ?_|refine Zn Za Z Z Z Z ?_)
  all_goals exact Qe
theorem Hs (n m:Nat):((n:Int)==(m:Int))=(n==m):=by
 rw[Bool.eq_iff_iff,beq_iff_eq,beq_iff_eq];omega
theorem Ue [Known]:∀(x:It),wfI x->∀ y:It,wfI y->AP Tryd.prog 18 [itD x,itD y] (.bool (It.beq x y)) []:=by
 refine It.ind fun k n b l ih hw y hw'=>?_
 obtain⟨k',n',b',l'⟩:=y
 obtain⟨_,_,hl,hws⟩:=hw
 obtain⟨_,_,hl',hws'⟩:=hw'
 have hE:=K5 l l' hl hl' fun y hy y' hy'=>ih y hy (ZX hws y hy) y' (ZX hws' y' hy')
 have hB:=O3 b b'
 have en:=Hs n n'
 rw[It.beq]
 cases h1:k==k'<;>cases h2:n==n'<;>cases h3:b==b'
 all_goals
  rw[h2]at en
  rw[h3]at hB
  refine AP.ofA (Zm Tryd.func18 Z Tryd.ntmps18 Z Z ?_)
  repeat'(first|rw[en]|refine Zb hB Qk Z Z Z Z ?_|refine Zb hE Qk Z Z Z Z ?_|refine Zj Za Z ?_|refine Zg Za Z ?_|refine Zi Z Z Z Qt ?_|refine ZE Z Z Z Qt ?_|refine Zp Z Qt Z Z ?_|refine Zk Z Qt Z Z ?_)
  all_goals exact Qe
def w8N:List UInt8->Nat
 | c0::c1::c2::c3::c4::c5::c6::c7::_=>c0.toNat+256*c1.toNat+65536*c2.toNat+16777216*c3.toNat+4294967296*c4.toNat+1099511627776*c5.toNat+281474976710656*c6.toNat+72057594037927936*c7.toNat
 | _=>0
theorem GE {l:List UInt8}(h:8<=l.length):∃ c0 c1 c2 c3 c4 c5 c6 c7 r,l=c0::c1::c2::c3::c4::c5::c6::c7::r:=by
 match l,h with
 | c0::c1::c2::c3::c4::c5::c6::c7::r,_=>exact⟨c0,c1,c2,c3,c4,c5,c6,c7,r,rfl⟩
abbrev hi8:Nat:=9259542123273814144
theorem Wd (l:List UInt8):w8N l<18446744073709551616:=by
 unfold w8N
 split
 ·rename_i c0 c1 c2 c3 c4 c5 c6 c7 r
  have:=c0.toNat_lt;have:=c1.toNat_lt;have:=c2.toNat_lt;have:=c3.toNat_lt
  have:=c4.toNat_lt;have:=c5.toNat_lt;have:=c6.toNat_lt;have:=c7.toNat_lt
  omega
 ·omega
theorem WF {w k:Nat}(h:w &&& hi8=0)(hk:hi8.testBit k=true):w.testBit k=false:=by
 have:=congrArg (fun x=>x.testBit k) h
 simp only[Nat.testBit_and,hk,Bool.and_true,Nat.zero_testBit]at this
 exact this
theorem W2 {l:List UInt8}(hl:8<=l.length)(h:w8N l &&& hi8=0):∀ c ∈ l.take 8,c.toNat<128:=by
 obtain⟨c0,c1,c2,c3,c4,c5,c6,c7,r,rfl⟩:=GE hl
 have b0:=WF (k:=7) h (by decide)
 have b1:=WF (k:=15) h (by decide)
 have b2:=WF (k:=23) h (by decide)
 have b3:=WF (k:=31) h (by decide)
 have b4:=WF (k:=39) h (by decide)
 have b5:=WF (k:=47) h (by decide)
 have b6:=WF (k:=55) h (by decide)
 have b7:=WF (k:=63) h (by decide)
 have:=c0.toNat_lt;have:=c1.toNat_lt;have:=c2.toNat_lt;have:=c3.toNat_lt
 have:=c4.toNat_lt;have:=c5.toNat_lt;have:=c6.toNat_lt;have:=c7.toNat_lt
 simp only[Nat.testBit_eq_decide_div_mod_eq,decide_eq_false_iff_not,w8N]at b0 b1 b2 b3 b4 b5 b6 b7
 intro c hc
 simp only[List.take_succ_cons,List.take_zero,List.mem_cons,List.not_mem_nil,or_false]at hc
 rcases hc with rfl|rfl|rfl|rfl|rfl|rfl|rfl|rfl
 all_goals omega
theorem I9 (a x k:Nat)(ha:a<2 ^ k):a ||| x*2 ^ k=a+x*2 ^ k:=by
 rw[Nat.or_comm,Nat.mul_comm,<- Nat.two_pow_add_eq_or_of_lt ha x];omega
theorem Ht (c:UInt8)(k:Nat)(hk:k<=56):IntKind.u64.wrap (IntKind.u64.wrap (c.toNat:Int)*2 ^ min (Int.toNat (k:Int)) IntKind.u64.bits)=((c.toNat*2 ^ k:Nat):Int):=by
 have hc:=c.toNat_lt
 rw[Int.toNat_natCast,show min k IntKind.u64.bits=k from Nat.min_eq_left (by show k<=64;omega)]
 have e1:IntKind.u64.wrap (c.toNat:Int)=(c.toNat:Int):=by rw[IntKind.wrap_u64];omega
 have e2:((c.toNat:Int)*2 ^ k)=((c.toNat*2 ^ k:Nat):Int):=by simp
 rw[e1,e2,IntKind.wrap_u64]
 have:c.toNat*2 ^ k<18446744073709551616:=by
  have h1:c.toNat*2 ^ k<256*2 ^ k:=Nat.mul_lt_mul_of_pos_right hc (Nat.two_pow_pos k)
  have h2:256*2 ^ k<=256*2 ^ 56:=Nat.mul_le_mul_left _ (Nat.pow_le_pow_right (by decide) hk)
  omega
 omega
theorem Qm {a:Nat}(c:UInt8)(k:Nat)(ha:a<2 ^ k)(hk:k<=56):bits .or .u64 (a:Int) (IntKind.u64.wrap (IntKind.u64.wrap (c.toNat:Int)*2 ^ min (Int.toNat (k:Int)) IntKind.u64.bits))=((a+c.toNat*2 ^ k:Nat):Int):=by
 have hc:=c.toNat_lt
 have h56:2 ^ k<=2 ^ 56:=Nat.pow_le_pow_right (by decide) hk
 have h1:c.toNat*2 ^ k<256*2 ^ k:=Nat.mul_lt_mul_of_pos_right hc (Nat.two_pow_pos k)
 rw[Ht c k hk,u64_or_nat _ _ (by omega) (by omega),I9 _ _ _ ha]
theorem W3 [Known](l:List UInt8)(hl:8<=l.length):AP Tryd.prog 52 [byE l] (.int .u64 (w8N l:Int)) []:=by
 have hU:=Yo l
 obtain⟨c0,c1,c2,c3,c4,c5,c6,c7,r,rfl⟩:=GE hl
 refine AP.ofA (Zm Tryd.func52 Z Tryd.ntmps52 Z Z ?_)
 repeat'(first|refine Zj Za Z ?_|refine Zg Za Z ?_|(apply ZQ 45 ZG;decide +kernel;kernel_rfl;kernel_rfl;exact Z;exact Z)|(apply ZW;(iterate 3 exact Z))|refine AD.nil _|exact Yn rfl|(apply Zs Za;(iterate 6 exact Z);(first|exact Qb|rotate_left);(first|with_reducible assumption|exact Z);(first|exact Zf rfl|with_reducible assumption|rotate_left))|(apply Ou;exact Z;exact Z;(first|exact Qb|rotate_left);exact Z))
 all_goals(apply Zu [];(apply Zc Za;exact Z);(iterate 4 exact Z))
 all_goals first|rfl|skip
 have:=c0.toNat_lt;have:=c1.toNat_lt;have:=c2.toNat_lt;have:=c3.toNat_lt
 have:=c4.toNat_lt;have:=c5.toNat_lt;have:=c6.toNat_lt;have:=c7.toNat_lt
 congr 1
 have e0:IntKind.u64.wrap (c0.toNat:Int)=((c0.toNat:Nat):Int):=by rw[IntKind.wrap_u64];omega
 have q1:=Qm (a:=c0.toNat) c1 8 (by omega) (by omega)
 have q2:=Qm (a:=c0.toNat+c1.toNat*2 ^ 8) c2 16 (by omega) (by omega)
 have q3:=Qm (a:=c0.toNat+c1.toNat*2 ^ 8+c2.toNat*2 ^ 16) c3 24 (by omega) (by omega)
 have q4:=Qm (a:=c0.toNat+c1.toNat*2 ^ 8+c2.toNat*2 ^ 16+c3.toNat*2 ^ 24) c4 32 (by omega) (by omega)
 have q5:=Qm (a:=c0.toNat+c1.toNat*2 ^ 8+c2.toNat*2 ^ 16+c3.toNat*2 ^ 24+c4.toNat*2 ^ 32) c5 40 (by omega) (by omega)
 have q6:=Qm (a:=c0.toNat+c1.toNat*2 ^ 8+c2.toNat*2 ^ 16+c3.toNat*2 ^ 24+c4.toNat*2 ^ 32+c5.toNat*2 ^ 40) c6 48 (by omega) (by omega)
 have q7:=Qm (a:=c0.toNat+c1.toNat*2 ^ 8+c2.toNat*2 ^ 16+c3.toNat*2 ^ 24+c4.toNat*2 ^ 32+c5.toNat*2 ^ 40+c6.toNat*2 ^ 48) c7 56 (by omega) (by omega)
 rw[e0]at *
 have fin:(w8N (c0::c1::c2::c3::c4::c5::c6::c7::r):Int)=((c0.toNat+c1.toNat*2 ^ 8+c2.toNat*2 ^ 16+c3.toNat*2 ^ 24+c4.toNat*2 ^ 32+c5.toNat*2 ^ 40+c6.toNat*2 ^ 48+c7.toNat*2 ^ 56:Nat):Int):=by
  simp only[w8N];omega
 rw[fin,<- q7,<- q6,<- q5,<- q4,<- q3,<- q2,<- q1]
 rfl
theorem W4 {a b:Nat}(h:(a ||| b) &&& hi8=0):a &&& hi8=0/\b &&& hi8=0:=by
 rw[Nat.and_or_distrib_right]at h
 exact Nat.or_eq_zero_iff.1 h
theorem YO:∀(k:Nat) (l:List UInt8),k<=l.length->(∀ c ∈ l.take k,c.toNat<128)->ZA l=ZA (l.drop k)
 | 0,l,_,_=>rfl
 | k+1,[],h,_=>by simp at h
 | k+1,c::r,h,ha=>by
  have hc:c.toNat<128:=ha c (by simp)
  rw[Yt]
  have:pt (c::r)=1:=by simp[pt,ptN,hc]
  rw[this]
  simp only[List.drop_zero,List.drop_succ_cons]
  exact YO k r (by simpa using h) fun c' h'=>ha c' (by simp[h'])
def fT (c:Nat):Nat:=if c<128 then 240 else if c<194 then 241 else if c<224 then 2 else if c<225 then 19 else if c<237 then 3 else if c<238 then 35 else if c<240 then 3 else if c<241 then 52 else if c<244 then 4 else if c<245 then 68 else 241
theorem VJ:(0,(List.range 256).map fun c=>Value.int .u8 (fT c:Int)) ∈ JJ:=by
 have e:(List.range 256).map (fun c=>Value.int .u8 (fT c:Int))=dcs Rows.laid_unicode_utf8_first:=by kernel_rfl
 rw[e]
 unfold JJ
 simp
def aT (i:Nat):List Value:=if i=0 then [.int .u8 128,.int .u8 191] else if i=1 then [.int .u8 160,.int .u8 191] else if i=2 then [.int .u8 128,.int .u8 159] else if i=3 then [.int .u8 144,.int .u8 191] else if i=4 then [.int .u8 128,.int .u8 143] else [.int .u8 0,.int .u8 0]
theorem W5:(1,(List.range 16).flatMap aT) ∈ JJ:=by
 have e:(List.range 16).flatMap aT=dcs Rows.laid_unicode_utf8_acceptRanges:=by kernel_rfl
 rw[e]
 unfold JJ
 simp
theorem Uf (c:UInt8):((List.range 256).map fun c=>Value.int .u8 (fT c:Int))[0+((c.toNat:Nat):Int).toNat*1]?=some (.int .u8 (fT c.toNat:Int)):=by
 have:=c.toNat_lt
 rw[Int.toNat_natCast,Nat.zero_add,Nat.mul_one,List.getElem?_map,List.getElem?_range (by omega)]
 rfl
end Go.Proofs.YtchlgagdbflkmaaDoor
end
