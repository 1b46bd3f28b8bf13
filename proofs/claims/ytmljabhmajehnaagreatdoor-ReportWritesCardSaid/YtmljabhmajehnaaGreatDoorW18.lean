/- Package primary: items sealed. -/
import Derived.Test.YtmljabhmajehnaaGreatDoorW17
import Derived.Test.YtmljabhmajehnaaGreatDoorW16
import Derived.Test.YtmljabhmajehnaaGreatDoorW01
import Derived.Test.YtmljabhmajehnaaGreatDoorW07
import Derived.Test.YtmljabhmajehnaaGreatDoorProg
set_option linter.unusedVariables false
set_option linter.unusedSimpArgs false
section
open Go.RowKit Go.Pl Go.Av
namespace Go.Proofs.YtmljabhmajehnaaGreatDoor
set_option maxHeartbeats 4000000
theorem Ny [Known](l:List It)(hne:l ≠ [])(hl:l.length<=2199023255488)(hws:wfs l):AT Tryz.prog 64 [.sl .ext (Zu l)] [] [] (.agg [.int .i64 4,.int .u64 0,.sl .nil [],.sl (.own 0) (Zu l)]) [] [⟨(Zu l).length,4,115⟩]:=by
 have ih':∀ y ∈ l,AP Tryz.prog 115 [itD y] (itD y) []:=fun y hy=>KE y (Y5 hws y hy)
 have hlen:=Zx l
 refine Zl Tryz.func64 rfl Tryz.ntmps64 rfl rfl ?_
 repeat'(first|(apply Zi Za;exact Z)|(apply Zf Za;exact Z)|refine Zm Za Z Z Z Z ?_)
 refine ZQ (fun k' tm bx fr=>∃(i c:Nat) (L:List E),k'+i=l.length/\c=L.length/\L=Zu (l.take i)/\tm=[(3,.ptr 1 0),(2,.ptr 0 0),(7,.sl .ext (Zu l)),(8,.int .i64 ((Zu l).length:Int)),(9,.int .i64 (i:Int))] /\
  ((i=0/\bx=[[.int .i64 0,.int .u64 0,.sl .nil [],.sl .nil []],[.int .i64 4,.int .u64 0,.sl .nil [],.sl .nil []]]/\fr=[]) \/
  (bx=[[.int .i64 0,.int .u64 0,.sl .nil [],.sl .nil []],[.int .i64 4,.int .u64 0,.sl .nil [],.sl (.own 0) L]]/\fr=[⟨c,4,115⟩]))) (l.length+1) (Lands.mk' (m:=l.length) (Nat.lt_succ_self _) ⟨0,0,[],rfl,rfl,rfl,rfl,.inl ⟨rfl,rfl,rfl⟩⟩ ?_ rfl rfl rfl rfl rfl rfl) ?_
 ·exact .cons rfl (.cons rfl (.cons rfl (.cons rfl (.cons rfl .nil))))
 rintro k' tm bx fr ⟨i,c,L,hi,hc,hL,rfl,⟨rfl,rfl,rfl⟩ | ⟨rfl,rfl⟩⟩
 ·cases l with
  | nil=>exact absurd rfl hne
  | cons y l=>
   have hc:=ih' y (List.mem_cons_self ..)
   have hU:=Yz (y::l)
   have hd:decide (((0:Nat):Int)<((Zu (y::l)).length:Int))=true:=decide_eq_true (by rw[Zu];simp)
   obtain⟨k1,n1,b1,l1⟩:=y
   repeat'(first|(apply Zb (hc);kernel_rfl;(iterate 4 exact Z))|refine Yb Za Z Z Z Z Z Z (Zk rfl) (List.cons_ne_nil _ _) Z Qd Qd Z Z Z ?_|(apply Zi Za;exact Z)|(apply Zf Za;exact Z)|(apply Zp Za;exact Z)|refine Zd Z Qt ?_|refine ZR Za Z Z Z Z Z Z Z Z Z Z Z Z ?_|(apply Zo 5 ZD;decide +kernel;kernel_rfl;kernel_rfl;kernel_rfl;exact Z;exact Z)|(apply Zs;(iterate 4 exact Z))|exact AE.nil _ _ _ _|(apply Zw;exact Z)|(apply Zz;exact Z;exact Z;decide +kernel;exact Z)|(apply ZA;exact Z)|exact AO.nil _ _ _|(apply Zr;(decide +kernel))|exact AOs.nil|exact ZF rfl rfl|exact Wz rfl rfl rfl rfl rfl|(apply Zv Za;(iterate 6 exact Z);(first|exact Qt|rotate_left);(first|with_reducible assumption|decide +kernel|exact Z);(first|exact Zk rfl|with_reducible assumption|decide +kernel|rotate_left)))
   refine Lands.mk' (m:=k'-1) (by simp at hi;omega) ⟨1,1,Zu [It.mk k1 n1 b1 l1],by simp at hi ⊢;omega,rfl,rfl,rfl,.inr ⟨rfl,rfl⟩⟩ ?_ rfl rfl rfl rfl rfl rfl
   exact .cons rfl (.cons rfl (.cons rfl (.cons rfl (.cons rfl .nil))))
 ·have hU:=Yz l
  have hU2:Uni 4 L:=hL ▸ Yz (l.take i)
  have el:=Zx (l.take i)
  rw[<- hL]at el
  subst hc
  rcases Nat.lt_or_ge i l.length with hlt|hge
  ·have hd:decide ((i:Int)<((Zu l).length:Int))=true:=decide_eq_true (by omega)
   obtain⟨⟨k1,n1,b1,l1⟩,hy⟩:∃ y,l[i]?=some y:=⟨_,List.getElem?_eq_getElem hlt⟩
   have hv:(Zu l)[((i:Nat):Int).toNat]?=some (.agg [.int .i64 k1,.int .u64 (n1:Int),.sl (b1.map E.byte),.sl (Zu l1)]):=by
    rw[Int.toNat_natCast,Yk,List.getElem?_map,hy];rfl
   have hc:=ih' _ (List.mem_of_getElem? hy)
   have ei:IntKind.i64.wrap ((i:Int)+1)=((i+1:Nat):Int):=by rw[IntWalk.i64_in _ (by omega)];omega
   have hs:L++[E.agg [.int .i64 k1,.int .u64 (n1:Int),.sl (b1.map E.byte),.sl (Zu l1)]]=Zu (l.take (i+1)):=by
    rw[hL,List.take_add_one,hy];exact(WO _ [It.mk k1 n1 b1 l1]).symm
   rw[List.length_take]at el
   repeat'(first|(apply Zb (hc);kernel_rfl;(iterate 4 exact Z))|rw[ei]|(apply Zi Za;exact Z)|(apply Zf Za;exact Z)|(apply Zp Za;exact Z)|refine Zd Z Qt ?_|refine ZR Za Z Z Z Z Z Z Z Z Z Z Z Z ?_|(apply Zo 5 ZD;decide +kernel;kernel_rfl;kernel_rfl;kernel_rfl;exact Z;exact Z)|(apply Zs;(iterate 4 exact Z))|exact AE.nil _ _ _ _|(apply Zw;exact Z)|(apply Zz;exact Z;exact Z;decide +kernel;exact Z)|(apply ZA;exact Z)|exact AO.nil _ _ _|(apply Zr;(decide +kernel))|exact AOs.nil|exact ZF rfl rfl|exact Wz rfl rfl rfl rfl rfl|(apply ZU Za;(iterate 6 exact Z);(first|with_reducible assumption|decide +kernel|exact Z|rotate_left);exact Z;exact Z;(first|exact Zk rfl|with_reducible assumption|decide +kernel|rotate_left);(first|exact Zk rfl|with_reducible assumption|decide +kernel|rotate_left);(first|exact Qt|rotate_left);(first|exact Qt|rotate_left);(first|exact Qt|rotate_left);exact Z;exact Z)|(apply Zv Za;(iterate 6 exact Z);(first|exact Qt|rotate_left);(first|with_reducible assumption|decide +kernel|exact Z);(first|exact Zk rfl|with_reducible assumption|decide +kernel|rotate_left)))
   ·refine Lands.mk' (m:=k'-1) (by omega) ⟨i+1,L.length+1,_,by omega,by rw[List.length_append];rfl,hs,rfl,.inr ⟨rfl,rfl⟩⟩ ?_ rfl rfl rfl rfl rfl rfl
    exact .cons rfl (.cons rfl (.cons rfl (.cons rfl (.cons rfl .nil))))
   all_goals(first|rfl|(simp only[List.length_append,List.length_cons,List.length_nil,List.length_map,Zx];done)|(simp only[List.length_append,List.length_cons,List.length_nil,List.length_map,Zx]at *;(try unfold maxLen);(try simp only[Nat.add_mul]);omega))
  ·have hd:decide ((i:Int)<((Zu l).length:Int))=false:=decide_eq_false (by omega)
   rw[List.take_of_length_le hge]at hL
   subst hL
   repeat'(first|(apply Zf Za;exact Z)|refine Zg Z Qt ?_)
   all_goals(apply QG [] [0];(apply Zc Za;exact Z);(iterate 7 exact Z))
   all_goals rfl
def z0:It:=.mk 0 0 [] []
def Ow (s:Nat)(l:List It):It:=.mk 4 0 [] (l++[.mk 2 0 (Qv s (ZH (Yw s l))) []])
def VJ (l:List It)(a:Int):It × Int:=match decide (a<0)||decide (a ≥ (l.length:Int)) with
 | true=>(z0,1)
 | false=>match l.all ZN&&decide (WA l a ≥ 0) with
  | false=>(z0,3)
  | true=>match decide (WA l a>0) with
   | false=>(match ZN (.mk 4 0 [] l) with|true=>(.mk 4 0 [] l,0)|false=>(z0,3))
   | true=>(match ZN (Yw (WA l a).toNat l) with
    | false=>(z0,3)
    | true=>match ZN (Ow (WA l a).toNat l) with
     | false=>(z0,3)
     | true=>(Ow (WA l a).toNat l,0))
abbrev Jj (r:It × Int):D:=.tup [itD r.1,.int .i64 r.2]
theorem J4 (l:List It)(a:Int):WA l a = -1\/((WA l a=0\/WA l a=1\/WA l a=2)/\0<=a/\a<(l.length:Int)):=by
 unfold WA
 split
 ·exact .inl rfl
 rename_i h0
 cases h:l[a.toNat]? with
 | none=>exact .inl rfl
 | some x=>
  obtain⟨k,n,b,r⟩:=x
  have hlt:=(List.getElem?_eq_some_iff.1 h).1
  dsimp only
  cases t:decide ((n:Int)>2) with
  | true=>exact .inl rfl
  | false=>
   have:=of_decide_eq_false t
   cases It.beq (.mk k n b r) (.mk 0 n [] []) with
   | false=>exact .inl rfl
   | true=>dsimp only;omega
theorem LS {s:Nat}{l:List It}(hs:s=1\/s=2)(hws:wfs l)(hl:l.length<=1000000):wfI (Ow s l):=by
 refine⟨by decide,by simp,by simp;omega,Xl hws ⟨⟨by decide,?_,by simp,trivial⟩,trivial⟩⟩
 rw[XO _ _ hs]
 omega
theorem Ho [Known][KnownU8](l:List It)(a:Int)(hws:wfs l)(hl:l.length<=1000000)(hlim:∀ s,s=1\/s=2->(ZH (Yw s l)).length<=1000000000):AP Tryz.prog 138 [.sl .ext (Zu l),.int .i64 a] (Jj (VJ l a)) []:=by
 have hlen:=Zx l
 have hU:=Yz l
 have hC:=Nq l hws hl
 have hT:=Td l hws a
 unfold VJ
 rw[<- hlen]
 rcases Int.lt_or_le a 0 with h0|h0
 ·have t1:decide (a<0)=true:=decide_eq_true h0
  rw[t1,Bool.true_or]
  dsimp only[z0]
  refine AP.ofA (Zl Tryz.func138 Z Tryz.ntmps138 Z Z ?_)
  repeat'(first|(apply Zi Za;exact Z)|(apply Zf Za;exact Z)|(apply Zp Za;exact Z)|refine Zn Z Z Z Qt ?_|refine Zj Z Qt Z Z ?_|refine Zd Z Qt ?_)
  all_goals exact Qe
 have t1:decide (a<0)=false:=decide_eq_false (by omega)
 rw[t1,Bool.false_or]
 cases t2:decide (a ≥ ((Zu l).length:Int)) with
 | true=>
  dsimp only[z0]
  refine AP.ofA (Zl Tryz.func138 Z Tryz.ntmps138 Z Z ?_)
  repeat'(first|(apply Zi Za;exact Z)|(apply Zf Za;exact Z)|(apply Zp Za;exact Z)|refine Ze Z Z Z Qt ?_|refine Zh Z Qt Z Z ?_|refine Zd Z Qt ?_|refine Zm Za Z Z Z Z ?_)
  all_goals exact Qe
 | false=>
 have hne:l ≠ []:=by rintro rfl;have:=of_decide_eq_false t2;simp[Zu]at this;omega
 cases hA:l.all ZN with
 | false=>
  rw[hA]at hC
  replace hC:AP Tryz.prog 162 _ (.bool true) []:=hC
  rw[Bool.false_and]
  dsimp only[z0]
  generalize WA l a=tv at *
  refine AP.ofA (Zl Tryz.func138 Z Tryz.ntmps138 Z Z ?_)
  repeat'(first|(apply Zb (hC);kernel_rfl;(iterate 4 exact Z))|(apply Zb (hT);kernel_rfl;(iterate 4 exact Z))|(apply Zi Za;exact Z)|(apply Zf Za;exact Z)|(apply Zp Za;exact Z)|refine Ze Z Z Z Qt ?_|refine Zn Z Z Z Qt ?_|refine Zj Z Qt Z Z ?_|refine Zh Z Qt Z Z ?_|refine Zd Z Qt ?_|refine Zg Z Qt ?_|refine Zm Za Z Z Z Z ?_)
  all_goals exact Qe
 | true=>
  rw[hA]at hC
  replace hC:AP Tryz.prog 162 _ (.bool false) []:=hC
  rw[Bool.true_and]
  rcases J4 l a with e|⟨e|e,_,_⟩
  ·rw[e]at hT ⊢
   dsimp only[z0]
   refine AP.ofA (Zl Tryz.func138 Z Tryz.ntmps138 Z Z ?_)
   repeat'(first|(apply Zb (hC);kernel_rfl;(iterate 4 exact Z))|(apply Zb (hT);kernel_rfl;(iterate 4 exact Z))|(apply Zi Za;exact Z)|(apply Zf Za;exact Z)|(apply Zp Za;exact Z)|refine Ze Z Z Z Qt ?_|refine Zh Z Qt Z Z ?_|refine Zd Z Qt ?_|refine Zg Z Qt ?_|refine Zm Za Z Z Z Z ?_)
   all_goals exact Qe
  ·rw[e]at hT ⊢
   have hL:=W8 l (by omega) hws
   have hR:=Wt (.mk 4 0 [] l) ⟨by decide,by simp,by omega,hws⟩
   cases hr:ZN (.mk 4 0 [] l) with
   | false=>
    rw[hr]at hR
    dsimp only[z0]
    refine AP.ofA (Zl Tryz.func138 Z Tryz.ntmps138 Z Z ?_)
    repeat'(first|(apply Zb (hC);kernel_rfl;(iterate 4 exact Z))|(apply Zb (hT);kernel_rfl;(iterate 4 exact Z))|(apply Zb (hL);kernel_rfl;(iterate 4 exact Z))|(apply Zb (hR);kernel_rfl;(iterate 4 exact Z))|(apply Zi Za;exact Z)|(apply Zf Za;exact Z)|(apply Zp Za;exact Z)|refine Ze Z Z Z Qt ?_|refine Zh Z Qt Z Z ?_|refine Zd Z Qt ?_|refine Zg Z Qt ?_|refine Zm Za Z Z Z Z ?_)
    all_goals exact Qe
   | true=>
    rw[hr]at hR
    refine AP.ofA (Zl Tryz.func138 Z Tryz.ntmps138 Z Z ?_)
    repeat'(first|(apply Zb (hC);kernel_rfl;(iterate 4 exact Z))|(apply Zb (hT);kernel_rfl;(iterate 4 exact Z))|(apply Zb (hL);kernel_rfl;(iterate 4 exact Z))|(apply Zb (hR);kernel_rfl;(iterate 4 exact Z))|(apply Zi Za;exact Z)|(apply Zf Za;exact Z)|(apply Zp Za;exact Z)|refine Ze Z Z Z Qt ?_|refine Zh Z Qt Z Z ?_|refine Zg Z Qt ?_|refine Zm Za Z Z Z Z ?_)
    all_goals exact Qe
  ·obtain⟨s,hs,es⟩:∃ s:Nat,(s=1\/s=2)/\WA l a=(s:Int):=⟨(WA l a).toNat,by omega,by omega⟩
   rw[es]at hT ⊢
   rw[Int.toNat_natCast]
   have hS:=Nx l s hs hne hws hl (hlim s hs)
   have hL:=Ny l hne (by omega) hws
   have hsl:=XO s (ZH (Yw s l)) hs
   have hB:=XG (Qv s (ZH (Yw s l))) (by omega)
   have hR:=Wt (Ow s l) (LS hs hws hl)
   have hmx:(Zu l).length<=1000000:=by omega
   have d1:decide ((s:Int)<0)=false:=decide_eq_false (by omega)
   have d2:decide ((s:Int)>0)=true:=decide_eq_true (by omega)
   have d3:decide ((s:Int) ≥ 0)=true:=decide_eq_true (by omega)
   rw[d2,d3]
   cases hz:ZN (Yw s l) with
   | false=>
    rw[hz]at hS
    dsimp only[z0]
    dsimp only at hS
    refine AP.ofA (Zl Tryz.func138 Z Tryz.ntmps138 Z Z ?_)
    repeat'(first|(apply Zb (hC);kernel_rfl;(iterate 4 exact Z))|(apply Zb (hT);kernel_rfl;(iterate 4 exact Z))|(apply Ya [] [] (hL);kernel_rfl;(iterate 10 exact Z))|(apply Zb (hS);kernel_rfl;(iterate 4 exact Z))|(apply Zi Za;exact Z)|(apply Zf Za;exact Z)|(apply Zp Za;exact Z)|refine Ze Z Z Z Qt ?_|refine Zh Z Qt Z Z ?_|refine Zd Z Qt ?_|refine Zg Z Qt ?_|refine Zm Za Z Z Z Z ?_)
    all_goals exact Qe
   | true=>
    rw[hz]at hS
    dsimp only at hS ⊢
    have eO:itD (Ow s l)=.agg [.int .i64 4,.int .u64 0,.sl .ext [],.sl .ext (Zu l++[.agg [.int .i64 2,.int .u64 0,.sl ((Qv s (ZH (Yw s l))).map E.byte),.sl []]])]:=by
     show D.agg [.int .i64 4,.int .u64 0,.sl .ext [],.sl .ext (Zu (l++[.mk 2 0 (Qv s (ZH (Yw s l))) []]))]=_
     rw[WO]
     rfl
    cases hr:ZN (Ow s l) with
    | false=>
     rw[hr,eO]at hR
     dsimp only[z0]
     generalize Qv s (ZH (Yw s l))=SB at *
     refine AP.ofA (Zl Tryz.func138 Z Tryz.ntmps138 Z Z ?_)
     repeat'(first|(apply Zb (hC);kernel_rfl;(iterate 4 exact Z))|(apply Zb (hT);kernel_rfl;(iterate 4 exact Z))|(apply Ya [] [] (hL);kernel_rfl;(iterate 10 exact Z))|(apply Zb (hS);kernel_rfl;(iterate 4 exact Z))|(apply Zb (hB);kernel_rfl;(iterate 4 exact Z))|(apply Zb (hR);kernel_rfl;(iterate 4 exact Z))|(apply Zi Za;exact Z)|(apply Zf Za;exact Z)|(apply Zp Za;exact Z)|refine Ze Z Z Z Qt ?_|refine Zh Z Qt Z Z ?_|refine Zd Z Qt ?_|refine Zg Z Qt ?_|refine Zm Za Z Z Z Z ?_|refine ZR Za Z Z Z Z Z Z Z Z Z Z Z Z ?_|(apply Zo 5 ZD;decide +kernel;kernel_rfl;kernel_rfl;kernel_rfl;exact Z;exact Z)|(apply Zs;(iterate 4 exact Z))|exact AE.nil _ _ _ _|(apply Zw;exact Z)|(apply Zz;exact Z;exact Z;decide +kernel;exact Z)|(apply ZA;exact Z)|exact AO.nil _ _ _|(apply Zr;(decide +kernel))|exact AOs.nil|exact ZF rfl rfl|exact Wz rfl rfl rfl rfl rfl|(apply ZU Za;(iterate 6 exact Z);(first|with_reducible assumption|decide +kernel|exact Z|rotate_left);exact Z;exact Z;(first|exact Zk rfl|with_reducible assumption|decide +kernel|rotate_left);(first|exact Zk rfl|with_reducible assumption|decide +kernel|rotate_left);(first|exact Qt|rotate_left);(first|exact Qt|rotate_left);(first|exact Qt|rotate_left);exact Z;exact Z))
     all_goals first|((apply Zq [];(apply Zc Za;exact Z);(iterate 4 exact Z)))|skip
     all_goals first|rfl|(first|rfl|(simp only[List.length_append,List.length_cons,List.length_nil,List.length_map,Zx];done)|(simp only[List.length_append,List.length_cons,List.length_nil,List.length_map,Zx]at *;(try unfold maxLen);(try simp only[Nat.add_mul]);omega))|(simp;done)|(simp;omega)|(simp;unfold maxLen;omega)
    | true=>
     rw[hr,eO]at hR
     dsimp only[Jj]
     rw[eO]
     generalize Qv s (ZH (Yw s l))=SB at *
     refine AP.ofA (Zl Tryz.func138 Z Tryz.ntmps138 Z Z ?_)
     repeat'(first|(apply Zb (hC);kernel_rfl;(iterate 4 exact Z))|(apply Zb (hT);kernel_rfl;(iterate 4 exact Z))|(apply Ya [] [] (hL);kernel_rfl;(iterate 10 exact Z))|(apply Zb (hS);kernel_rfl;(iterate 4 exact Z))|(apply Zb (hB);kernel_rfl;(iterate 4 exact Z))|(apply Zb (hR);kernel_rfl;(iterate 4 exact Z))|(apply Zi Za;exact Z)|(apply Zf Za;exact Z)|(apply Zp Za;exact Z)|refine Ze Z Z Z Qt ?_|refine Zh Z Qt Z Z ?_|refine Zd Z Qt ?_|refine Zg Z Qt ?_|refine Zm Za Z Z Z Z ?_|refine ZR Za Z Z Z Z Z Z Z Z Z Z Z Z ?_|(apply Zo 5 ZD;decide +kernel;kernel_rfl;kernel_rfl;kernel_rfl;exact Z;exact Z)|(apply Zs;(iterate 4 exact Z))|exact AE.nil _ _ _ _|(apply Zw;exact Z)|(apply Zz;exact Z;exact Z;decide +kernel;exact Z)|(apply ZA;exact Z)|exact AO.nil _ _ _|(apply Zr;(decide +kernel))|exact AOs.nil|exact ZF rfl rfl|exact Wz rfl rfl rfl rfl rfl|(apply ZU Za;(iterate 6 exact Z);(first|with_reducible assumption|decide +kernel|exact Z|rotate_left);exact Z;exact Z;(first|exact Zk rfl|with_reducible assumption|decide +kernel|rotate_left);(first|exact Zk rfl|with_reducible assumption|decide +kernel|rotate_left);(first|exact Qt|rotate_left);(first|exact Qt|rotate_left);(first|exact Qt|rotate_left);exact Z;exact Z))
     all_goals first|((apply Zq [];(apply Zc Za;exact Z);(iterate 4 exact Z)))|skip
     all_goals first|rfl|(first|rfl|(simp only[List.length_append,List.length_cons,List.length_nil,List.length_map,Zx];done)|(simp only[List.length_append,List.length_cons,List.length_nil,List.length_map,Zx]at *;(try unfold maxLen);(try simp only[Nat.add_mul]);omega))|(simp;done)|(simp;omega)|(simp;unfold maxLen;omega)
abbrev iC (x:EidV)(t q:Nat):List D:=[.bool x.i,.int .u64 (x.n:Int),.int .u64 (x.s:Int),.str x.h,.str x.d,.int .u64 (t:Int),.int .u64 (q:Int)]
def Yo (x:EidV)(t q:Nat):Bool:=ZM x&&decide ((t:Int)<=1099511627776)&&decide ((q:Int)<=1099511627776)
theorem JI [Known](x:EidV)(t q:Nat):AP Tryz.prog 73 [.agg (iC x t q)] (.bool (Yo x t q)) []:=by
 refine AP.ofA (Zl Tryz.func73 Z Tryz.ntmps73 Z Z ?_)
 repeat'(first|(apply Zb (Vz x);kernel_rfl;(iterate 4 exact Z))|(apply Zi Za;exact Z)|(apply Zf Za;exact Z)|(apply Ze;(iterate 3 exact Z);(first|with_reducible assumption|(solve|simp only[bn])))|(apply Zt;(iterate 3 exact Z);(first|with_reducible assumption|(solve|simp only[bn])))|(apply Yp;exact Z;exact Z;all_goals intro hb)|(apply Zj;exact Z;(first|with_reducible assumption|(solve|simp only[bn]));exact Z;exact Z)|(apply Zh;exact Z;(first|with_reducible assumption|(solve|simp only[bn]));exact Z;exact Z))
 all_goals(apply Zq [];(apply Zc Za;exact Z);(iterate 4 exact Z))
 all_goals first|rfl|(unfold Yo;simp only[*];done)|(unfold Yo;simp only[*];simp only[Bool.and_true,Bool.true_and,Bool.and_false,Bool.false_and];done)
theorem Tg [Known](x:EidV)(t q:Nat):AP Tryz.prog 18 [.agg (iC x t q)] (.bool (decide (IntKind.i64.wrap ((x.h.length:Int)+(x.d.length:Int))>300))) []:=by
 refine AP.ofA (Zl Tryz.func18 Z Tryz.ntmps18 Z Z ?_)
 repeat'(first|(apply Zi Za;exact Z)|(apply Zf Za;exact Z)|refine Yf Za Z Z Z Z ?_)
 (apply Zq [];(apply Zc Za;exact Z);(iterate 4 exact Z))
 all_goals rfl
end Go.Proofs.YtmljabhmajehnaaGreatDoor
end
section
open Go.RowKit Go.Pl
namespace Go.Pl
variable {P:Program} {t:TypeId}
theorem Im {α β γ δ ε:Type}{R0:Rep α}{R1:Rep β}{R2:Rep γ}{R3:Rep δ}{R4:Rep ε}{fs:Array Field}{f0 f1 f2 f3 f4:Field}(hs:P.underlying t=some (.struct fs))(hfs:fs = #[f0,f1,f2,f3,f4])
  (h00:f0.offset=0) (h01:f1.offset=R0.n) (h02:f2.offset=R0.n+R1.n) (h03:f3.offset=R0.n+R1.n+R2.n) (h04:f4.offset=R0.n+R1.n+R2.n+R3.n)
  (hc0:P.cellsOf f0.type=R0.n) (hc1:P.cellsOf f1.type=R1.n) (hc2:P.cellsOf f2.type=R2.n) (hc3:P.cellsOf f3.type=R3.n) (hc4:P.cellsOf f4.type=R4.n) (hc:P.cellsOf t=R0.n+(R1.n+(R2.n+(R3.n+R4.n))))
  (h0:Wc P f0.type R0) (h1:Wc P f1.type R1) (h2:Wc P f2.type R2) (h3:Wc P f3.type R3) (h4:Wc P f4.type R4):Wc P t (R0.prod (R1.prod (R2.prod (R3.prod R4)))):=by
 intro H enc W spare held fuel cs y h
 obtain⟨xs,n,_,_,hl,hxl,hg⟩:=DataW.trod_struct hs h
 subst hfs
 have e0:=hg 0 f0 rfl
 have e1:=hg 1 f1 rfl
 have e2:=hg 2 f2 rfl
 have e3:=hg 3 f3 rfl
 have e4:=hg 4 f4 rfl
 rw[h00,hc0,List.drop_zero]at e0
 rw[h01,hc1]at e1
 rw[h02,hc2]at e2
 rw[h03,hc3]at e3
 rw[h04,hc4]at e4
 have hn:xs.length=5:=hxl
 have hx0:xs[0]?=some (xs[0]'(by omega)):=List.getElem?_eq_getElem (by omega)
 have hx1:xs[1]?=some (xs[1]'(by omega)):=List.getElem?_eq_getElem (by omega)
 have hx2:xs[2]?=some (xs[2]'(by omega)):=List.getElem?_eq_getElem (by omega)
 have hx3:xs[3]?=some (xs[3]'(by omega)):=List.getElem?_eq_getElem (by omega)
 have hx4:xs[4]?=some (xs[4]'(by omega)):=List.getElem?_eq_getElem (by omega)
 obtain⟨x0,k0⟩:=h0 H enc W spare held n _ _ (e0.trans hx0)
 obtain⟨x1,k1⟩:=h1 H enc W spare held n _ _ (e1.trans hx1)
 obtain⟨x2,k2⟩:=h2 H enc W spare held n _ _ (e2.trans hx2)
 obtain⟨x3,k3⟩:=h3 H enc W spare held n _ _ (e3.trans hx3)
 obtain⟨x4,k4⟩:=h4 H enc W spare held n _ _ (e4.trans hx4)
 refine⟨(x0,x1,x2,x3,x4),cs.take R0.n,cs.drop R0.n,(List.take_append_drop _ _).symm,k0,(cs.drop R0.n).take R1.n,(cs.drop R0.n).drop R1.n,(List.take_append_drop _ _).symm,k1,
  ((cs.drop R0.n).drop R1.n).take R2.n,((cs.drop R0.n).drop R1.n).drop R2.n,(List.take_append_drop _ _).symm,?_,(((cs.drop R0.n).drop R1.n).drop R2.n).take R3.n,(((cs.drop R0.n).drop R1.n).drop R2.n).drop R3.n,(List.take_append_drop _ _).symm,?_,?_⟩
 ·rw[List.drop_drop];exact k2
 ·rw[List.drop_drop,List.drop_drop,show R0.n+(R1.n+R2.n)=R0.n+R1.n+R2.n from by omega];exact k3
 ·rw[List.drop_drop,List.drop_drop,List.drop_drop,show R0.n+(R1.n+(R2.n+R3.n))=R0.n+R1.n+R2.n+R3.n from by omega]
  rw[List.take_of_length_le (i:=R4.n) (by rw[List.length_drop];omega)]at k4
  exact k4
abbrev RE:Rep (Bool × Nat × Nat × List UInt8 × List UInt8):=Rep.bool.prod (Rep.u64.prod (Rep.u64.prod (Rep.str.prod Rep.str)))
abbrev RI:Rep ((Bool × Nat × Nat × List UInt8 × List UInt8) × Nat × Nat):=RE.prod (Rep.u64.prod Rep.u64)
end Go.Pl
end
section
open Go.RowKit Go.Pl
namespace Go.Proofs.YtmljabhmajehnaaGreatDoor
theorem RK:Wc Tryz.prog 24 RE:=
 Im Tryz.underlying24 rfl rfl rfl rfl rfl rfl (by kernel_rfl) (by kernel_rfl) (by kernel_rfl) (by kernel_rfl) (by kernel_rfl) (by kernel_rfl) (Um Tryz.underlying4) (Vv Tryz.underlying22) (Vv Tryz.underlying22) (Km Tryz.underlying9) (Km Tryz.underlying9)
theorem RL:Wc Tryz.prog 26 RI:=
 ON Tryz.underlying26 rfl (by kernel_rfl) rfl rfl rfl (by kernel_rfl) (by kernel_rfl) (by kernel_rfl) RK (Vv Tryz.underlying22) (Vv Tryz.underlying22)
end Go.Proofs.YtmljabhmajehnaaGreatDoor
end
section
open Go.RowKit Go.Pl Go.Av
namespace Go.Proofs.YtmljabhmajehnaaGreatDoor
set_option maxHeartbeats 4000000
theorem MS:ToE RE (fun x=>.agg [.bool x.1,.int .u64 (x.2.1:Int),.int .u64 (x.2.2.1:Int),.str x.2.2.2.1,.str x.2.2.2.2]):=
 ToE.bool.prod (ToE.u64.prod (ToE.u64.prod (ToE.str.prod ToE.str)))
abbrev XE:=Bool × Nat × Nat × List UInt8 × List UInt8
def XE.v (x:XE):EidV:=⟨x.1,x.2.1,x.2.2.1,x.2.2.2.1,x.2.2.2.2⟩
structure PriV where
 fl:Nat
 sum:Int
 dest:EidV
 rep:EidV
 src:EidV
 t:Nat
 q:Nat
 life:Nat
abbrev prC (p:PriV):List D:=[.int .u64 (p.fl:Int),.int .i64 p.sum,.bool p.dest.i,.int .u64 (p.dest.n:Int),.int .u64 (p.dest.s:Int),.str p.dest.h,.str p.dest.d,.bool p.rep.i,.int .u64 (p.rep.n:Int),.int .u64 (p.rep.s:Int),.str p.rep.h,.str p.rep.d,.bool p.src.i,.int .u64 (p.src.n:Int),.int .u64 (p.src.s:Int),.str p.src.h,.str p.src.d,.int .u64 (p.t:Int),.int .u64 (p.q:Int),.int .u64 (p.life:Int)]
def Vm (p:PriV):Bool:=(bits .andNot .u64 (p.fl:Int) 409638==0)&&(decide (p.sum ≥ 0)&&(decide (p.sum<=2)&&(ZM p.dest&&(ZM p.rep&&(Yo p.src p.t p.q&&decide ((p.life:Int)<=1099511627776))))))
theorem KL [Known](p:PriV):AP Tryz.prog 137 [.agg (prC p)] (.bool (Vm p)) []:=by
 have hD:=Vz p.dest
 have hR:=Vz p.rep
 have hI:=JI p.src p.t p.q
 unfold Vm
 generalize ZM p.dest=e1 at *
 generalize ZM p.rep=e2 at *
 generalize Yo p.src p.t p.q=e3 at *
 obtain⟨fl,sum,⟨di,dn,ds,dh,dd⟩,⟨ri,rn,rs,rh,rd⟩,⟨xi,xn,xs,xh,xd⟩,t,q,life⟩:=p
 dsimp only at *
 cases t1:(bits .andNot .u64 (fl:Int) 409638==0) with
 | false=>
  refine AP.ofA (Zl Tryz.func137 Z Tryz.ntmps137 Z Z ?_)
  repeat'(first|(apply Zi Za;exact Z)|(apply Zf Za;exact Z)|refine Zt Z Z Z Qt ?_|refine Zh Z Qt Z Z ?_)
  all_goals exact Qe
 | true=>
 cases t2:decide (sum ≥ 0) with
 | false=>
  refine AP.ofA (Zl Tryz.func137 Z Tryz.ntmps137 Z Z ?_)
  repeat'(first|(apply Zi Za;exact Z)|(apply Zf Za;exact Z)|refine Ze Z Z Z Qt ?_|refine Zt Z Z Z Qt ?_|refine Zj Z Qt Z Z ?_|refine Zh Z Qt Z Z ?_)
  all_goals exact Qe
 | true=>
 cases t3:decide (sum<=2) with
 | false=>
  refine AP.ofA (Zl Tryz.func137 Z Tryz.ntmps137 Z Z ?_)
  repeat'(first|(apply Zi Za;exact Z)|(apply Zf Za;exact Z)|refine Ze Z Z Z Qt ?_|refine Zt Z Z Z Qt ?_|refine Zj Z Qt Z Z ?_|refine Zh Z Qt Z Z ?_)
  all_goals exact Qe
 | true=>
 cases e1
 ·refine AP.ofA ?_
  refine Zl Tryz.func137 rfl Tryz.ntmps137 rfl rfl ?_
  repeat'(first|(apply Zb (hD);kernel_rfl;(iterate 4 exact Z))|(apply Zi Za;exact Z)|(apply Zf Za;exact Z)|refine Ze Z Z Z Qt ?_|refine Zt Z Z Z Qt ?_|refine Zj Z Qt Z Z ?_|refine Zh Z Qt Z Z ?_)
  all_goals exact Qe
 cases e2
 ·refine AP.ofA ?_
  refine Zl Tryz.func137 rfl Tryz.ntmps137 rfl rfl ?_
  repeat'(first|(apply Zb (hD);kernel_rfl;(iterate 4 exact Z))|(apply Zb (hR);kernel_rfl;(iterate 4 exact Z))|(apply Zi Za;exact Z)|(apply Zf Za;exact Z)|refine Ze Z Z Z Qt ?_|refine Zt Z Z Z Qt ?_|refine Zj Z Qt Z Z ?_|refine Zh Z Qt Z Z ?_)
  all_goals exact Qe
 cases e3
 ·refine AP.ofA ?_
  refine Zl Tryz.func137 rfl Tryz.ntmps137 rfl rfl ?_
  repeat'(first|(apply Zb (hD);kernel_rfl;(iterate 4 exact Z))|(apply Zb (hR);kernel_rfl;(iterate 4 exact Z))|(apply Zb (hI);kernel_rfl;(iterate 4 exact Z))|(apply Zi Za;exact Z)|(apply Zf Za;exact Z)|refine Ze Z Z Z Qt ?_|refine Zt Z Z Z Qt ?_|refine Zj Z Qt Z Z ?_|refine Zh Z Qt Z Z ?_)
  all_goals exact Qe
 refine AP.ofA (Zl Tryz.func137 Z Tryz.ntmps137 Z Z ?_)
 repeat'(first|(apply Zb (hD);kernel_rfl;(iterate 4 exact Z))|(apply Zb (hR);kernel_rfl;(iterate 4 exact Z))|(apply Zb (hI);kernel_rfl;(iterate 4 exact Z))|(apply Zi Za;exact Z)|(apply Zf Za;exact Z)|refine Ze Z Z Z Qt ?_|refine Zj Z Qt Z Z ?_)
 all_goals exact Qe
theorem Io {x:EidV}(hi:x.i=true):ZM x=true ↔ x.h=[]/\x.d=[]/\1<=(x.n:Int)/\(x.n:Int)<=4294967295/\(x.s:Int)<=4294967295:=by
 have hz:isZ x=false:=by simp[isZ,hi]
 rw[XK hz hi]
 simp[hi,and_assoc]
theorem Nz {x:EidV}(hi:x.i=false):isZ x=true ↔ (x.n:Int)=0/\(x.s:Int)=0/\x.h=[]/\x.d=[]:=by
 simp[isZ,hi]
theorem Ip {x:EidV}(hi:x.i=false)(hz:isZ x=false):ZM x=true ↔ (x.n:Int)=0/\(x.s:Int)=0/\(x.h.length:Int) ≥ 1/\(x.h.length:Int)<=16/\(x.d.length:Int)<=24/\x.h.all (okB 45)=true/\x.d.all (okB 47)=true:=by
 rw[XL hz hi]
 simp only[Bool.and_eq_true,beq_iff_eq,decide_eq_true_eq,and_true,true_and,and_assoc,hi,beq_self_eq_true]
def Y4 (x:EidV):Int:=if x.i then(if ZM x then 1 else -1) else if isZ x then 0 else if ZM x then 2 else -1
theorem Xm (x:EidV):decide (Y4 x ≥ 0)=ZM x:=by
 unfold Y4
 cases hi:x.i with
 | true=>cases ZM x<;>rfl
 | false=>
  cases hz:isZ x with
  | true=>rw[XJ hz];rfl
  | false=>cases ZM x<;>rfl
theorem Ox (x:EidV):decide (Y4 x<1)=(!(ZM x)||isZ x):=by
 unfold Y4
 cases hi:x.i with
 | true=>
  have hz:isZ x=false:=by simp[isZ,hi]
  rw[hz];cases ZM x<;>rfl
 | false=>
  cases hz:isZ x with
  | true=>rw[XJ hz];rfl
  | false=>cases ZM x<;>rfl
theorem J5 [Known](s:List UInt8)(b:Bool)(m:Nat)(hm:m=if b then 47 else 45)(hs:s.length<=9223372036854775807):AP Tryz.prog 127 [.str s,.bool b] (.bool (s.all (okB m))) []:=by
 refine AP.ofA (Zl Tryz.func127 Z Tryz.ntmps127 Z Z ?_)
 repeat'(first|(apply Zf Za;exact Z))
 refine ZQ (fun k tm bx fr=>∃ i,k+i=s.length/\(∀ c ∈ s.take i,okB m c=true)/\tm=[(0,.str s),(1,.bool b),(5,.int .i64 (i:Int))]/\bx=[]/\fr=[]) (s.length+1) (Lands.mk' (m:=s.length) (Nat.lt_succ_self _) ⟨0,rfl,by simp,rfl,rfl,rfl⟩ ?_ rfl rfl rfl rfl rfl rfl) ?_
 ·exact .cons rfl (.cons rfl (.cons rfl .nil))
 rintro k tm bx fr ⟨i,hk,hall,rfl,rfl,rfl⟩
 rcases Nat.lt_or_ge i s.length with hlt|hge
 ·have hd:decide ((i:Int)<(s.length:Int))=true:=by simp;omega
  obtain⟨c,hc⟩:∃ c,s[i]?=some c:=⟨_,List.getElem?_eq_getElem hlt⟩
  have hv:s[((i:Nat):Int).toNat]?=some c:=by simpa using hc
  have ei:IntKind.i64.wrap ((i:Int)+1)=((i+1:Nat):Int):=by rw[IntWalk.i64_in _ (by omega)];omega
  have hstep:okB m c=true->∀ x ∈ s.take (i+1),okB m x=true:=fun h x hx=>by
   rw[List.take_add_one,hc]at hx
   rcases List.mem_append.1 hx with hx|hx
   ·exact hall x hx
   ·simp at hx;subst hx;exact h
  have hbad:¬ okB m c=true->s.all (okB m)=false:=fun h=>List.all_eq_false.2 ⟨c,List.mem_of_getElem? hc,h⟩
  cases b with
  | false=>
   have hm':m=45:=hm
   subst hm'
   repeat'(first|rw[ei]|refine Vq Za Z Z Z Z Z (Int.natCast_nonneg _) hv ?_|(apply Zi Za;exact Z)|(apply Zf Za;exact Z)|(apply Zp Za;exact Z)|(apply Ze;(iterate 3 exact Z);(first|with_reducible assumption|(solve|simp only[bn])))|(apply Zt;(iterate 3 exact Z);(first|with_reducible assumption|(solve|simp only[bn])))|(apply Zn;(iterate 3 exact Z);(first|with_reducible assumption|(solve|simp only[bn])))|refine U7 Z Z Z ?_|(apply Yp;exact Z;exact Z;all_goals intro hb)|(apply Zj;exact Z;(first|with_reducible assumption|(solve|simp only[bn]));exact Z;exact Z)|(apply Zh;exact Z;(first|with_reducible assumption|(solve|simp only[bn]));exact Z;exact Z)|(apply Zd;exact Z;(first|with_reducible assumption|(solve|simp only[bn])))|(apply Zg;exact Z;(first|with_reducible assumption|(solve|simp only[bn])))|refine Yy ?_|refine Yf Za Z Z Z Z ?_)
   all_goals first
    | (refine Lands.mk' (m:=k-1) (by omega) ⟨i+1,by omega,hstep ?_,rfl,rfl,rfl⟩ ?_ rfl rfl rfl rfl rfl rfl
       ·rw[VI]
        clear hstep hbad hall
        simp only[decide_eq_true_eq,decide_eq_false_iff_not,beq_iff_eq,beq_eq_false_iff_ne,ne_eq,Bool.not_eq_false',Bool.not_eq_true']at *
        omega
       ·exact .cons rfl (.cons rfl (.cons rfl .nil)))
    | ((apply Zq [];(apply Zc Za;exact Z);(iterate 4 exact Z))
       ·rw[hbad (fun h=>by
          rw[VI]at h
          clear hstep hbad hall
          simp only[decide_eq_true_eq,decide_eq_false_iff_not,beq_iff_eq,beq_eq_false_iff_ne,ne_eq,Bool.not_eq_false',Bool.not_eq_true']at *
          omega)]
       ·rfl)
  | true=>
   have hm':m=47:=hm
   subst hm'
   repeat'(first|rw[ei]|refine Vq Za Z Z Z Z Z (Int.natCast_nonneg _) hv ?_|(apply Zi Za;exact Z)|(apply Zf Za;exact Z)|(apply Zp Za;exact Z)|(apply Ze;(iterate 3 exact Z);(first|with_reducible assumption|(solve|simp only[bn])))|(apply Zt;(iterate 3 exact Z);(first|with_reducible assumption|(solve|simp only[bn])))|(apply Zn;(iterate 3 exact Z);(first|with_reducible assumption|(solve|simp only[bn])))|refine U7 Z Z Z ?_|(apply Yp;exact Z;exact Z;all_goals intro hb)|(apply Zj;exact Z;(first|with_reducible assumption|(solve|simp only[bn]));exact Z;exact Z)|(apply Zh;exact Z;(first|with_reducible assumption|(solve|simp only[bn]));exact Z;exact Z)|(apply Zd;exact Z;(first|with_reducible assumption|(solve|simp only[bn])))|(apply Zg;exact Z;(first|with_reducible assumption|(solve|simp only[bn])))|(apply YD;exact Z;all_goals intro hb)|refine Yy ?_|refine Yf Za Z Z Z Z ?_)
   all_goals first
    | (refine Lands.mk' (m:=k-1) (by omega) ⟨i+1,by omega,hstep ?_,rfl,rfl,rfl⟩ ?_ rfl rfl rfl rfl rfl rfl
       ·rw[VI]
        clear hstep hbad hall
        simp only[decide_eq_true_eq,decide_eq_false_iff_not,beq_iff_eq,beq_eq_false_iff_ne,ne_eq,Bool.not_eq_false',Bool.not_eq_true']at *
        omega
       ·exact .cons rfl (.cons rfl (.cons rfl .nil)))
    | ((apply Zq [];(apply Zc Za;exact Z);(iterate 4 exact Z))
       ·rw[hbad (fun h=>by
          rw[VI]at h
          clear hstep hbad hall
          simp only[decide_eq_true_eq,decide_eq_false_iff_not,beq_iff_eq,beq_eq_false_iff_ne,ne_eq,Bool.not_eq_false',Bool.not_eq_true']at *
          omega)]
       ·rfl)
 ·have hd:decide ((i:Int)<(s.length:Int))=false:=by simp;omega
  repeat'(first|(apply Zi Za;exact Z)|(apply Zf Za;exact Z)|(apply Zp Za;exact Z)|(apply Zg;exact Z;(first|with_reducible assumption|(solve|simp only[bn])))|refine Yf Za Z Z Z Z ?_)
  (apply Zq [];(apply Zc Za;exact Z);(iterate 4 exact Z))
  ·rw[List.take_of_length_le hge]at hall
   rw[List.all_eq_true.2 hall]
  ·rfl
def Fit (x:EidV):Prop:=x.h.length<=9223372036854775807/\x.d.length<=9223372036854775807
theorem W9 [Known](x:EidV)(hx:Fit x):AP Tryz.prog 87 [.agg (eC x)] (.int .i64 (Y4 x)) []:=by
 refine AP.ofA (Zl Tryz.func87 Z Tryz.ntmps87 Z Z ?_)
 cases hi:x.i with
 | true=>
  have hE:=Io hi
  repeat'(first|(apply Zi Za;exact Z)|(apply Zf Za;exact Z)|(apply Zp Za;exact Z)|(apply Ze;(iterate 3 exact Z);(first|with_reducible assumption|(solve|simp only[bn])))|(apply Zn;(iterate 3 exact Z);(first|with_reducible assumption|(solve|simp only[bn])))|(apply Yp;exact Z;exact Z;all_goals intro hb)|(apply Zj;exact Z;(first|with_reducible assumption|(solve|simp only[bn]));exact Z;exact Z)|(apply Zh;exact Z;(first|with_reducible assumption|(solve|simp only[bn]));exact Z;exact Z)|(apply Zd;exact Z;(first|with_reducible assumption|(solve|simp only[bn])))|(apply YD;exact Z;all_goals intro hb))
  all_goals(apply Zq [];(apply Zc Za;exact Z);(iterate 4 exact Z))
  all_goals first
   | rfl
   | (unfold Y4
      rw[hi]
      simp only[if_true]
      simp only[decide_eq_true_eq,decide_eq_false_iff_not,beq_iff_eq,beq_eq_false_iff_ne,ne_eq,bne_iff_ne,bne_eq_false_iff_eq,Bool.not_eq_false',Bool.not_eq_true']at *
      split
      ·first
         | rfl
         | (exfalso;rename_i h;obtain⟨h1,h2,h3,h4,h5⟩:=hE.1 h;first|contradiction|omega)
      ·first
         | rfl
         | (exfalso;rename_i h;exact h (hE.2 ⟨by assumption,by assumption,by omega,by omega,by omega⟩)))
 | false=>
  have hZ:=Nz hi
  have hE:=fun hz=>Ip (x:=x) hi hz
  repeat'(first|(apply Zb (J5 x.h false 45 rfl hx.1);kernel_rfl;(iterate 4 exact Z))|(apply Zb (J5 x.d true 47 rfl hx.2);kernel_rfl;(iterate 4 exact Z))|(apply Zi Za;exact Z)|(apply Zf Za;exact Z)|(apply Zp Za;exact Z)|(apply Ze;(iterate 3 exact Z);(first|with_reducible assumption|(solve|simp only[bn])))|(apply Zt;(iterate 3 exact Z);(first|with_reducible assumption|(solve|simp only[bn])))|(apply Zn;(iterate 3 exact Z);(first|with_reducible assumption|(solve|simp only[bn])))|(apply Yp;exact Z;exact Z;all_goals intro hb)|(apply Zj;exact Z;(first|with_reducible assumption|(solve|simp only[bn]));exact Z;exact Z)|(apply Zh;exact Z;(first|with_reducible assumption|(solve|simp only[bn]));exact Z;exact Z)|(apply Zd;exact Z;(first|with_reducible assumption|(solve|simp only[bn])))|(apply Zg;exact Z;(first|with_reducible assumption|(solve|simp only[bn])))|(apply YD;exact Z;all_goals intro hb)|refine Yf Za Z Z Z Z ?_)
  all_goals(apply Zq [];(apply Zc Za;exact Z);(iterate 4 exact Z))
  all_goals first
   | rfl
   | (unfold Y4
      rw[hi]
      simp only[Bool.false_eq_true,if_false]
      simp only[decide_eq_true_eq,decide_eq_false_iff_not,beq_iff_eq,beq_eq_false_iff_ne,ne_eq,bne_iff_ne,bne_eq_false_iff_eq,Bool.not_eq_false',Bool.not_eq_true']at *
      split
      ·first
         | rfl
         | (exfalso;rename_i h;obtain⟨h1,h2,h3,h4⟩:=hZ.1 h;first|contradiction|omega)
      ·rename_i hz
       have hz':isZ x=false:=by simpa using hz
       split
       ·first
          | rfl
          | (exfalso;rename_i h;obtain⟨h1,h2,h3,h4,h5,h6,h7⟩:=(hE hz').1 h;first|contradiction|omega|(simp_all;done))
       ·first
          | rfl
          | (exfalso;rename_i h;exact h ((hE hz').2 ⟨by omega,by omega,by omega,by omega,by omega,by assumption,by assumption⟩))
          | (exfalso;exact hz (hZ.2 ⟨by assumption,by assumption,by assumption,by assumption⟩)))
theorem LU [Known](x:EidV):AP Tryz.prog 28 [.agg (eC x)] (.agg (eC x)) []:=by
 refine AP.ofA (Zl Tryz.func28 Z Tryz.ntmps28 Z Z ?_)
 repeat'(first|(apply Zf Za;exact Z))
 (apply Zq [];(apply Zc Za;exact Z);(iterate 4 exact Z))
 all_goals rfl
end Go.Proofs.YtmljabhmajehnaaGreatDoor
end
