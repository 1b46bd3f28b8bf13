/- Package primary: items sealed. -/
import Derived.Test.YtmljabhmajehnaaGreatDoorR18
import Derived.Test.YtmljabhmajehnaaGreatDoorR17
import Derived.Test.YtmljabhmajehnaaGreatDoorR01
import Derived.Test.YtmljabhmajehnaaGreatDoorR07
import Derived.Test.YtmljabhmajehnaaGreatDoorProg
set_option linter.unusedVariables false
set_option linter.unusedSimpArgs false
section
open Go.RowKit Go.Pl Go.Av
namespace Go.Proofs.YtmljabhmajehnaaGreatDoor
set_option maxHeartbeats 4000000
theorem Lw [Known](l:List It)(hne:l ≠ [])(hl:l.length<=2199023255488)(hws:wfs l):AT Tryz.prog 64 [.sl .ext (Zv l)] [] [] (.agg [.int .i64 4,.int .u64 0,.sl .nil [],.sl (.own 0) (Zv l)]) [] [⟨(Zv l).length,4,115⟩]:=by
 have ih':∀ y ∈ l,AP Tryz.prog 115 [itD y] (itD y) []:=fun y hy=>OP y (Wh hws y hy)
 have hlen:=Zw l
 refine Zl Tryz.func64 rfl Tryz.ntmps64 rfl rfl ?_
 repeat'(first|(apply Zi Za;exact U)|(apply Zg Za;exact U)|refine Zn Za U U U U ?_)
 refine ZJ (fun k' tm bx fr=>∃(i c:Nat) (L:List E),k'+i=l.length/\c=L.length/\L=Zv (l.take i)/\tm=[(3,.ptr 1 0),(2,.ptr 0 0),(7,.sl .ext (Zv l)),(8,.int .i64 ((Zv l).length:Int)),(9,.int .i64 (i:Int))] /\
  ((i=0/\bx=[[.int .i64 0,.int .u64 0,.sl .nil [],.sl .nil []],[.int .i64 4,.int .u64 0,.sl .nil [],.sl .nil []]]/\fr=[]) \/
  (bx=[[.int .i64 0,.int .u64 0,.sl .nil [],.sl .nil []],[.int .i64 4,.int .u64 0,.sl .nil [],.sl (.own 0) L]]/\fr=[⟨c,4,115⟩]))) (l.length+1) (Lands.mk' (m:=l.length) (Nat.lt_succ_self _) ⟨0,0,[],rfl,rfl,rfl,rfl,.inl ⟨rfl,rfl,rfl⟩⟩ ?_ rfl rfl rfl rfl rfl rfl) ?_
 ·exact .cons rfl (.cons rfl (.cons rfl (.cons rfl (.cons rfl .nil))))
 rintro k' tm bx fr ⟨i,c,L,hi,hc,hL,rfl,⟨rfl,rfl,rfl⟩ | ⟨rfl,rfl⟩⟩
 ·cases l with
  | nil=>exact absurd rfl hne
  | cons y l=>
   have hc:=ih' y (List.mem_cons_self ..)
   have hU:=YE (y::l)
   have hd:decide (((0:Nat):Int)<((Zv (y::l)).length:Int))=true:=decide_eq_true (by rw[Zv];simp)
   obtain⟨k1,n1,b1,l1⟩:=y
   repeat'(first|(apply Zb (hc);kernel_rfl;(iterate 4 exact U))|refine Z7 Za U U U U U U (Zk rfl) (List.cons_ne_nil _ _) U Qd Qd U U U ?_|(apply Zi Za;exact U)|(apply Zg Za;exact U)|(apply Zp Za;exact U)|refine Zd U Qt ?_|refine ZM Za U U U U U U U U U U U U ?_|(apply Zo 5 ZB;decide +kernel;kernel_rfl;kernel_rfl;kernel_rfl;exact U;exact U)|(apply Zs;(iterate 4 exact U))|exact AE.nil _ _ _ _|(apply Zx;exact U)|(apply Zz;exact U;exact U;decide +kernel;exact U)|(apply ZA;exact U)|exact AO.nil _ _ _|(apply Zr;(decide +kernel))|exact AOs.nil|exact ZF rfl rfl|exact WH rfl rfl rfl rfl rfl|(apply Zu Za;(iterate 6 exact U);(first|exact Qt|rotate_left);(first|with_reducible assumption|decide +kernel|exact U);(first|exact Zk rfl|with_reducible assumption|decide +kernel|rotate_left)))
   refine Lands.mk' (m:=k'-1) (by simp at hi;omega) ⟨1,1,Zv [It.mk k1 n1 b1 l1],by simp at hi ⊢;omega,rfl,rfl,rfl,.inr ⟨rfl,rfl⟩⟩ ?_ rfl rfl rfl rfl rfl rfl
   exact .cons rfl (.cons rfl (.cons rfl (.cons rfl (.cons rfl .nil))))
 ·have hU:=YE l
  have hU2:Uni 4 L:=hL ▸ YE (l.take i)
  have el:=Zw (l.take i)
  rw[<- hL]at el
  subst hc
  rcases Nat.lt_or_ge i l.length with hlt|hge
  ·have hd:decide ((i:Int)<((Zv l).length:Int))=true:=decide_eq_true (by omega)
   obtain⟨⟨k1,n1,b1,l1⟩,hy⟩:∃ y,l[i]?=some y:=⟨_,List.getElem?_eq_getElem hlt⟩
   have hv:(Zv l)[((i:Nat):Int).toNat]?=some (.agg [.int .i64 k1,.int .u64 (n1:Int),.sl (b1.map E.byte),.sl (Zv l1)]):=by
    rw[Int.toNat_natCast,Yl,List.getElem?_map,hy];rfl
   have hc:=ih' _ (List.mem_of_getElem? hy)
   have ei:IntKind.i64.wrap ((i:Int)+1)=((i+1:Nat):Int):=by rw[IntWalk.i64_in _ (by omega)];omega
   have hs:L++[E.agg [.int .i64 k1,.int .u64 (n1:Int),.sl (b1.map E.byte),.sl (Zv l1)]]=Zv (l.take (i+1)):=by
    rw[hL,List.take_add_one,hy];exact(WP _ [It.mk k1 n1 b1 l1]).symm
   rw[List.length_take]at el
   repeat'(first|(apply Zb (hc);kernel_rfl;(iterate 4 exact U))|rw[ei]|(apply Zi Za;exact U)|(apply Zg Za;exact U)|(apply Zp Za;exact U)|refine Zd U Qt ?_|refine ZM Za U U U U U U U U U U U U ?_|(apply Zo 5 ZB;decide +kernel;kernel_rfl;kernel_rfl;kernel_rfl;exact U;exact U)|(apply Zs;(iterate 4 exact U))|exact AE.nil _ _ _ _|(apply Zx;exact U)|(apply Zz;exact U;exact U;decide +kernel;exact U)|(apply ZA;exact U)|exact AO.nil _ _ _|(apply Zr;(decide +kernel))|exact AOs.nil|exact ZF rfl rfl|exact WH rfl rfl rfl rfl rfl|(apply ZR Za;(iterate 6 exact U);(first|with_reducible assumption|decide +kernel|exact U|rotate_left);exact U;exact U;(first|exact Zk rfl|with_reducible assumption|decide +kernel|rotate_left);(first|exact Zk rfl|with_reducible assumption|decide +kernel|rotate_left);(first|exact Qt|rotate_left);(first|exact Qt|rotate_left);(first|exact Qt|rotate_left);exact U;exact U)|(apply Zu Za;(iterate 6 exact U);(first|exact Qt|rotate_left);(first|with_reducible assumption|decide +kernel|exact U);(first|exact Zk rfl|with_reducible assumption|decide +kernel|rotate_left)))
   ·refine Lands.mk' (m:=k'-1) (by omega) ⟨i+1,L.length+1,_,by omega,by rw[List.length_append];rfl,hs,rfl,.inr ⟨rfl,rfl⟩⟩ ?_ rfl rfl rfl rfl rfl rfl
    exact .cons rfl (.cons rfl (.cons rfl (.cons rfl (.cons rfl .nil))))
   all_goals(first|rfl|(simp only[List.length_append,List.length_cons,List.length_nil,List.length_map,Zw];done)|(simp only[List.length_append,List.length_cons,List.length_nil,List.length_map,Zw]at *;(try unfold maxLen);(try simp only[Nat.add_mul]);omega))
  ·have hd:decide ((i:Int)<((Zv l).length:Int))=false:=decide_eq_false (by omega)
   rw[List.take_of_length_le hge]at hL
   subst hL
   repeat'(first|(apply Zg Za;exact U)|refine Zf U Qt ?_)
   all_goals(apply Jz [] [0];(apply Zc Za;exact U);(iterate 7 exact U))
   all_goals rfl
def z0:It:=.mk 0 0 [] []
def UK (s:Nat)(l:List It):It:=.mk 4 0 [] (l++[.mk 2 0 (Uw s (ZI (ZV s l))) []])
def VO (l:List It)(a:Int):It × Int:=match decide (a<0)||decide (a ≥ (l.length:Int)) with
 | true=>(z0,1)
 | false=>match l.all ZC&&decide (Wv l a ≥ 0) with
  | false=>(z0,3)
  | true=>match decide (Wv l a>0) with
   | false=>(match ZC (.mk 4 0 [] l) with|true=>(.mk 4 0 [] l,0)|false=>(z0,3))
   | true=>(match ZC (ZV (Wv l a).toNat l) with
    | false=>(z0,3)
    | true=>match ZC (UK (Wv l a).toNat l) with
     | false=>(z0,3)
     | true=>(UK (Wv l a).toNat l,0))
abbrev J9 (r:It × Int):D:=.tup [itD r.1,.int .i64 r.2]
theorem QN (l:List It)(a:Int):Wv l a = -1\/((Wv l a=0\/Wv l a=1\/Wv l a=2)/\0<=a/\a<(l.length:Int)):=by
 unfold Wv
 split
 ·exact .inl rfl
 rename_i h0
 cases h:l[a.toNat]? with
 | none=>exact .inl rfl
 | some x=>
  obtain⟨k,n,b,r⟩:=x
  have hlt:=(List.getElem?_eq_some_iff.1 h).1
  dsimp only
  cases t:decide ((n:Int)>2) with
  | true=>exact .inl rfl
  | false=>
   have:=of_decide_eq_false t
   cases It.beq (.mk k n b r) (.mk 0 n [] []) with
   | false=>exact .inl rfl
   | true=>dsimp only;omega
theorem Bn {s:Nat}{l:List It}(hs:s=1\/s=2)(hws:wfs l)(hl:l.length<=1000000):wfI (UK s l):=by
 refine⟨by decide,by simp,by simp;omega,Km hws ⟨⟨by decide,?_,by simp,trivial⟩,trivial⟩⟩
 rw[KJ _ _ hs]
 omega
theorem Nc [Known][KnownU8](l:List It)(a:Int)(hws:wfs l)(hl:l.length<=1000000)(hlim:∀ s,s=1\/s=2->(ZI (ZV s l)).length<=1000000000):AP Tryz.prog 138 [.sl .ext (Zv l),.int .i64 a] (J9 (VO l a)) []:=by
 have hlen:=Zw l
 have hU:=YE l
 have hC:=Lp l hws hl
 have hT:=NY l hws a
 unfold VO
 rw[<- hlen]
 rcases Int.lt_or_le a 0 with h0|h0
 ·have t1:decide (a<0)=true:=decide_eq_true h0
  rw[t1,Bool.true_or]
  dsimp only[z0]
  refine AP.ofA (Zl Tryz.func138 U Tryz.ntmps138 U U ?_)
  repeat'(first|(apply Zi Za;exact U)|(apply Zg Za;exact U)|(apply Zp Za;exact U)|refine Zm U U U Qt ?_|refine Zj U Qt U U ?_|refine Zd U Qt ?_)
  all_goals exact Qe
 have t1:decide (a<0)=false:=decide_eq_false (by omega)
 rw[t1,Bool.false_or]
 cases t2:decide (a ≥ ((Zv l).length:Int)) with
 | true=>
  dsimp only[z0]
  refine AP.ofA (Zl Tryz.func138 U Tryz.ntmps138 U U ?_)
  repeat'(first|(apply Zi Za;exact U)|(apply Zg Za;exact U)|(apply Zp Za;exact U)|refine Ze U U U Qt ?_|refine Zh U Qt U U ?_|refine Zd U Qt ?_|refine Zn Za U U U U ?_)
  all_goals exact Qe
 | false=>
 have hne:l ≠ []:=by rintro rfl;have:=of_decide_eq_false t2;simp[Zv]at this;omega
 cases hA:l.all ZC with
 | false=>
  rw[hA]at hC
  replace hC:AP Tryz.prog 162 _ (.bool true) []:=hC
  rw[Bool.false_and]
  dsimp only[z0]
  generalize Wv l a=tv at *
  refine AP.ofA (Zl Tryz.func138 U Tryz.ntmps138 U U ?_)
  repeat'(first|(apply Zb (hC);kernel_rfl;(iterate 4 exact U))|(apply Zb (hT);kernel_rfl;(iterate 4 exact U))|(apply Zi Za;exact U)|(apply Zg Za;exact U)|(apply Zp Za;exact U)|refine Ze U U U Qt ?_|refine Zm U U U Qt ?_|refine Zj U Qt U U ?_|refine Zh U Qt U U ?_|refine Zd U Qt ?_|refine Zf U Qt ?_|refine Zn Za U U U U ?_)
  all_goals exact Qe
 | true=>
  rw[hA]at hC
  replace hC:AP Tryz.prog 162 _ (.bool false) []:=hC
  rw[Bool.true_and]
  rcases QN l a with e|⟨e|e,_,_⟩
  ·rw[e]at hT ⊢
   dsimp only[z0]
   refine AP.ofA (Zl Tryz.func138 U Tryz.ntmps138 U U ?_)
   repeat'(first|(apply Zb (hC);kernel_rfl;(iterate 4 exact U))|(apply Zb (hT);kernel_rfl;(iterate 4 exact U))|(apply Zi Za;exact U)|(apply Zg Za;exact U)|(apply Zp Za;exact U)|refine Ze U U U Qt ?_|refine Zh U Qt U U ?_|refine Zd U Qt ?_|refine Zf U Qt ?_|refine Zn Za U U U U ?_)
   all_goals exact Qe
  ·rw[e]at hT ⊢
   have hL:=VG l (by omega) hws
   have hR:=WU (.mk 4 0 [] l) ⟨by decide,by simp,by omega,hws⟩
   cases hr:ZC (.mk 4 0 [] l) with
   | false=>
    rw[hr]at hR
    dsimp only[z0]
    refine AP.ofA (Zl Tryz.func138 U Tryz.ntmps138 U U ?_)
    repeat'(first|(apply Zb (hC);kernel_rfl;(iterate 4 exact U))|(apply Zb (hT);kernel_rfl;(iterate 4 exact U))|(apply Zb (hL);kernel_rfl;(iterate 4 exact U))|(apply Zb (hR);kernel_rfl;(iterate 4 exact U))|(apply Zi Za;exact U)|(apply Zg Za;exact U)|(apply Zp Za;exact U)|refine Ze U U U Qt ?_|refine Zh U Qt U U ?_|refine Zd U Qt ?_|refine Zf U Qt ?_|refine Zn Za U U U U ?_)
    all_goals exact Qe
   | true=>
    rw[hr]at hR
    refine AP.ofA (Zl Tryz.func138 U Tryz.ntmps138 U U ?_)
    repeat'(first|(apply Zb (hC);kernel_rfl;(iterate 4 exact U))|(apply Zb (hT);kernel_rfl;(iterate 4 exact U))|(apply Zb (hL);kernel_rfl;(iterate 4 exact U))|(apply Zb (hR);kernel_rfl;(iterate 4 exact U))|(apply Zi Za;exact U)|(apply Zg Za;exact U)|(apply Zp Za;exact U)|refine Ze U U U Qt ?_|refine Zh U Qt U U ?_|refine Zf U Qt ?_|refine Zn Za U U U U ?_)
    all_goals exact Qe
  ·obtain⟨s,hs,es⟩:∃ s:Nat,(s=1\/s=2)/\Wv l a=(s:Int):=⟨(Wv l a).toNat,by omega,by omega⟩
   rw[es]at hT ⊢
   rw[Int.toNat_natCast]
   have hS:=Lv l s hs hne hws hl (hlim s hs)
   have hL:=Lw l hne (by omega) hws
   have hsl:=KJ s (ZI (ZV s l)) hs
   have hB:=KC (Uw s (ZI (ZV s l))) (by omega)
   have hR:=WU (UK s l) (Bn hs hws hl)
   have hmx:(Zv l).length<=1000000:=by omega
   have d1:decide ((s:Int)<0)=false:=decide_eq_false (by omega)
   have d2:decide ((s:Int)>0)=true:=decide_eq_true (by omega)
   have d3:decide ((s:Int) ≥ 0)=true:=decide_eq_true (by omega)
   rw[d2,d3]
   cases hz:ZC (ZV s l) with
   | false=>
    rw[hz]at hS
    dsimp only[z0]
    dsimp only at hS
    refine AP.ofA (Zl Tryz.func138 U Tryz.ntmps138 U U ?_)
    repeat'(first|(apply Zb (hC);kernel_rfl;(iterate 4 exact U))|(apply Zb (hT);kernel_rfl;(iterate 4 exact U))|(apply Yq [] [] (hL);kernel_rfl;(iterate 10 exact U))|(apply Zb (hS);kernel_rfl;(iterate 4 exact U))|(apply Zi Za;exact U)|(apply Zg Za;exact U)|(apply Zp Za;exact U)|refine Ze U U U Qt ?_|refine Zh U Qt U U ?_|refine Zd U Qt ?_|refine Zf U Qt ?_|refine Zn Za U U U U ?_)
    all_goals exact Qe
   | true=>
    rw[hz]at hS
    dsimp only at hS ⊢
    have eO:itD (UK s l)=.agg [.int .i64 4,.int .u64 0,.sl .ext [],.sl .ext (Zv l++[.agg [.int .i64 2,.int .u64 0,.sl ((Uw s (ZI (ZV s l))).map E.byte),.sl []]])]:=by
     show D.agg [.int .i64 4,.int .u64 0,.sl .ext [],.sl .ext (Zv (l++[.mk 2 0 (Uw s (ZI (ZV s l))) []]))]=_
     rw[WP]
     rfl
    cases hr:ZC (UK s l) with
    | false=>
     rw[hr,eO]at hR
     dsimp only[z0]
     generalize Uw s (ZI (ZV s l))=SB at *
     refine AP.ofA (Zl Tryz.func138 U Tryz.ntmps138 U U ?_)
     repeat'(first|(apply Zb (hC);kernel_rfl;(iterate 4 exact U))|(apply Zb (hT);kernel_rfl;(iterate 4 exact U))|(apply Yq [] [] (hL);kernel_rfl;(iterate 10 exact U))|(apply Zb (hS);kernel_rfl;(iterate 4 exact U))|(apply Zb (hB);kernel_rfl;(iterate 4 exact U))|(apply Zb (hR);kernel_rfl;(iterate 4 exact U))|(apply Zi Za;exact U)|(apply Zg Za;exact U)|(apply Zp Za;exact U)|refine Ze U U U Qt ?_|refine Zh U Qt U U ?_|refine Zd U Qt ?_|refine Zf U Qt ?_|refine Zn Za U U U U ?_|refine ZM Za U U U U U U U U U U U U ?_|(apply Zo 5 ZB;decide +kernel;kernel_rfl;kernel_rfl;kernel_rfl;exact U;exact U)|(apply Zs;(iterate 4 exact U))|exact AE.nil _ _ _ _|(apply Zx;exact U)|(apply Zz;exact U;exact U;decide +kernel;exact U)|(apply ZA;exact U)|exact AO.nil _ _ _|(apply Zr;(decide +kernel))|exact AOs.nil|exact ZF rfl rfl|exact WH rfl rfl rfl rfl rfl|(apply ZR Za;(iterate 6 exact U);(first|with_reducible assumption|decide +kernel|exact U|rotate_left);exact U;exact U;(first|exact Zk rfl|with_reducible assumption|decide +kernel|rotate_left);(first|exact Zk rfl|with_reducible assumption|decide +kernel|rotate_left);(first|exact Qt|rotate_left);(first|exact Qt|rotate_left);(first|exact Qt|rotate_left);exact U;exact U))
     all_goals first|((apply Zq [];(apply Zc Za;exact U);(iterate 4 exact U)))|skip
     all_goals first|rfl|(first|rfl|(simp only[List.length_append,List.length_cons,List.length_nil,List.length_map,Zw];done)|(simp only[List.length_append,List.length_cons,List.length_nil,List.length_map,Zw]at *;(try unfold maxLen);(try simp only[Nat.add_mul]);omega))|(simp;done)|(simp;omega)|(simp;unfold maxLen;omega)
    | true=>
     rw[hr,eO]at hR
     dsimp only[J9]
     rw[eO]
     generalize Uw s (ZI (ZV s l))=SB at *
     refine AP.ofA (Zl Tryz.func138 U Tryz.ntmps138 U U ?_)
     repeat'(first|(apply Zb (hC);kernel_rfl;(iterate 4 exact U))|(apply Zb (hT);kernel_rfl;(iterate 4 exact U))|(apply Yq [] [] (hL);kernel_rfl;(iterate 10 exact U))|(apply Zb (hS);kernel_rfl;(iterate 4 exact U))|(apply Zb (hB);kernel_rfl;(iterate 4 exact U))|(apply Zb (hR);kernel_rfl;(iterate 4 exact U))|(apply Zi Za;exact U)|(apply Zg Za;exact U)|(apply Zp Za;exact U)|refine Ze U U U Qt ?_|refine Zh U Qt U U ?_|refine Zd U Qt ?_|refine Zf U Qt ?_|refine Zn Za U U U U ?_|refine ZM Za U U U U U U U U U U U U ?_|(apply Zo 5 ZB;decide +kernel;kernel_rfl;kernel_rfl;kernel_rfl;exact U;exact U)|(apply Zs;(iterate 4 exact U))|exact AE.nil _ _ _ _|(apply Zx;exact U)|(apply Zz;exact U;exact U;decide +kernel;exact U)|(apply ZA;exact U)|exact AO.nil _ _ _|(apply Zr;(decide +kernel))|exact AOs.nil|exact ZF rfl rfl|exact WH rfl rfl rfl rfl rfl|(apply ZR Za;(iterate 6 exact U);(first|with_reducible assumption|decide +kernel|exact U|rotate_left);exact U;exact U;(first|exact Zk rfl|with_reducible assumption|decide +kernel|rotate_left);(first|exact Zk rfl|with_reducible assumption|decide +kernel|rotate_left);(first|exact Qt|rotate_left);(first|exact Qt|rotate_left);(first|exact Qt|rotate_left);exact U;exact U))
     all_goals first|((apply Zq [];(apply Zc Za;exact U);(iterate 4 exact U)))|skip
     all_goals first|rfl|(first|rfl|(simp only[List.length_append,List.length_cons,List.length_nil,List.length_map,Zw];done)|(simp only[List.length_append,List.length_cons,List.length_nil,List.length_map,Zw]at *;(try unfold maxLen);(try simp only[Nat.add_mul]);omega))|(simp;done)|(simp;omega)|(simp;unfold maxLen;omega)
abbrev iC (x:EidV)(t q:Nat):List D:=[.bool x.i,.int .u64 (x.n:Int),.int .u64 (x.s:Int),.str x.h,.str x.d,.int .u64 (t:Int),.int .u64 (q:Int)]
def Yv (x:EidV)(t q:Nat):Bool:=ZQ x&&decide ((t:Int)<=1099511627776)&&decide ((q:Int)<=1099511627776)
theorem Xv [Known](x:EidV)(t q:Nat):AP Tryz.prog 73 [.agg (iC x t q)] (.bool (Yv x t q)) []:=by
 refine AP.ofA (Zl Tryz.func73 U Tryz.ntmps73 U U ?_)
 repeat'(first|(apply Zb (V6 x);kernel_rfl;(iterate 4 exact U))|(apply Zi Za;exact U)|(apply Zg Za;exact U)|(apply Ze;(iterate 3 exact U);(first|with_reducible assumption|(solve|simp only[bn])))|(apply Zt;(iterate 3 exact U);(first|with_reducible assumption|(solve|simp only[bn])))|(apply YB;exact U;exact U;all_goals intro hb)|(apply Zj;exact U;(first|with_reducible assumption|(solve|simp only[bn]));exact U;exact U)|(apply Zh;exact U;(first|with_reducible assumption|(solve|simp only[bn]));exact U;exact U))
 all_goals(apply Zq [];(apply Zc Za;exact U);(iterate 4 exact U))
 all_goals first|rfl|(unfold Yv;simp only[*];done)|(unfold Yv;simp only[*];simp only[Bool.and_true,Bool.true_and,Bool.and_false,Bool.false_and];done)
theorem Xw [Known](x:EidV)(t q:Nat):AP Tryz.prog 18 [.agg (iC x t q)] (.bool (decide (IntKind.i64.wrap ((x.h.length:Int)+(x.d.length:Int))>300))) []:=by
 refine AP.ofA (Zl Tryz.func18 U Tryz.ntmps18 U U ?_)
 repeat'(first|(apply Zi Za;exact U)|(apply Zg Za;exact U)|refine Yb Za U U U U ?_)
 (apply Zq [];(apply Zc Za;exact U);(iterate 4 exact U))
 all_goals rfl
end Go.Proofs.YtmljabhmajehnaaGreatDoor
end
section
open Go.RowKit Go.Pl
namespace Go.Pl
variable {P:Program} {t:TypeId}
theorem GK {α β γ δ ε:Type}{R0:Rep α}{R1:Rep β}{R2:Rep γ}{R3:Rep δ}{R4:Rep ε}{fs:Array Field}{f0 f1 f2 f3 f4:Field}(hs:P.underlying t=some (.struct fs))(hfs:fs = #[f0,f1,f2,f3,f4])
  (h00:f0.offset=0) (h01:f1.offset=R0.n) (h02:f2.offset=R0.n+R1.n) (h03:f3.offset=R0.n+R1.n+R2.n) (h04:f4.offset=R0.n+R1.n+R2.n+R3.n)
  (hc0:P.cellsOf f0.type=R0.n) (hc1:P.cellsOf f1.type=R1.n) (hc2:P.cellsOf f2.type=R2.n) (hc3:P.cellsOf f3.type=R3.n) (hc4:P.cellsOf f4.type=R4.n) (hc:P.cellsOf t=R0.n+(R1.n+(R2.n+(R3.n+R4.n))))
  (h0:Y2 P f0.type R0) (h1:Y2 P f1.type R1) (h2:Y2 P f2.type R2) (h3:Y2 P f3.type R3) (h4:Y2 P f4.type R4):Y2 P t (R0.prod (R1.prod (R2.prod (R3.prod R4)))):=by
 intro H enc W spare held fuel cs y h
 obtain⟨xs,n,_,_,hl,hxl,hg⟩:=DataW.trod_struct hs h
 subst hfs
 have e0:=hg 0 f0 rfl
 have e1:=hg 1 f1 rfl
 have e2:=hg 2 f2 rfl
 have e3:=hg 3 f3 rfl
 have e4:=hg 4 f4 rfl
 rw[h00,hc0,List.drop_zero]at e0
 rw[h01,hc1]at e1
 rw[h02,hc2]at e2
 rw[h03,hc3]at e3
 rw[h04,hc4]at e4
 have hn:xs.length=5:=hxl
 have hx0:xs[0]?=some (xs[0]'(by omega)):=List.getElem?_eq_getElem (by omega)
 have hx1:xs[1]?=some (xs[1]'(by omega)):=List.getElem?_eq_getElem (by omega)
 have hx2:xs[2]?=some (xs[2]'(by omega)):=List.getElem?_eq_getElem (by omega)
 have hx3:xs[3]?=some (xs[3]'(by omega)):=List.getElem?_eq_getElem (by omega)
 have hx4:xs[4]?=some (xs[4]'(by omega)):=List.getElem?_eq_getElem (by omega)
 obtain⟨x0,k0⟩:=h0 H enc W spare held n _ _ (e0.trans hx0)
 obtain⟨x1,k1⟩:=h1 H enc W spare held n _ _ (e1.trans hx1)
 obtain⟨x2,k2⟩:=h2 H enc W spare held n _ _ (e2.trans hx2)
 obtain⟨x3,k3⟩:=h3 H enc W spare held n _ _ (e3.trans hx3)
 obtain⟨x4,k4⟩:=h4 H enc W spare held n _ _ (e4.trans hx4)
 refine⟨(x0,x1,x2,x3,x4),cs.take R0.n,cs.drop R0.n,(List.take_append_drop _ _).symm,k0,(cs.drop R0.n).take R1.n,(cs.drop R0.n).drop R1.n,(List.take_append_drop _ _).symm,k1,
  ((cs.drop R0.n).drop R1.n).take R2.n,((cs.drop R0.n).drop R1.n).drop R2.n,(List.take_append_drop _ _).symm,?_,(((cs.drop R0.n).drop R1.n).drop R2.n).take R3.n,(((cs.drop R0.n).drop R1.n).drop R2.n).drop R3.n,(List.take_append_drop _ _).symm,?_,?_⟩
 ·rw[List.drop_drop];exact k2
 ·rw[List.drop_drop,List.drop_drop,show R0.n+(R1.n+R2.n)=R0.n+R1.n+R2.n from by omega];exact k3
 ·rw[List.drop_drop,List.drop_drop,List.drop_drop,show R0.n+(R1.n+(R2.n+R3.n))=R0.n+R1.n+R2.n+R3.n from by omega]
  rw[List.take_of_length_le (i:=R4.n) (by rw[List.length_drop];omega)]at k4
  exact k4
abbrev RE:Rep (Bool × Nat × Nat × List UInt8 × List UInt8):=Rep.bool.prod (Rep.u64.prod (Rep.u64.prod (Rep.str.prod Rep.str)))
abbrev RI:Rep ((Bool × Nat × Nat × List UInt8 × List UInt8) × Nat × Nat):=RE.prod (Rep.u64.prod Rep.u64)
end Go.Pl
end
section
open Go.RowKit Go.Pl
namespace Go.Proofs.YtmljabhmajehnaaGreatDoor
theorem Nd:Y2 Tryz.prog 24 RE:=
 GK Tryz.underlying24 rfl rfl rfl rfl rfl rfl (by kernel_rfl) (by kernel_rfl) (by kernel_rfl) (by kernel_rfl) (by kernel_rfl) (by kernel_rfl) (U5 Tryz.underlying4) (Ww Tryz.underlying22) (Ww Tryz.underlying22) (Ox Tryz.underlying9) (Ox Tryz.underlying9)
theorem Lx:Y2 Tryz.prog 26 RI:=
 Ga Tryz.underlying26 rfl (by kernel_rfl) rfl rfl rfl (by kernel_rfl) (by kernel_rfl) (by kernel_rfl) Nd (Ww Tryz.underlying22) (Ww Tryz.underlying22)
end Go.Proofs.YtmljabhmajehnaaGreatDoor
end
section
open Go.RowKit Go.Pl Go.Av
namespace Go.Proofs.YtmljabhmajehnaaGreatDoor
set_option maxHeartbeats 4000000
theorem Ja:ToE RE (fun x=>.agg [.bool x.1,.int .u64 (x.2.1:Int),.int .u64 (x.2.2.1:Int),.str x.2.2.2.1,.str x.2.2.2.2]):=
 ToE.bool.prod (ToE.u64.prod (ToE.u64.prod (ToE.str.prod ToE.str)))
abbrev XE:=Bool × Nat × Nat × List UInt8 × List UInt8
def XE.v (x:XE):EidV:=⟨x.1,x.2.1,x.2.2.1,x.2.2.2.1,x.2.2.2.2⟩
theorem Dl [Known]{W:World}{cs:List Value}{x:XE}(h:RE.ok W (· < W.heap.size) cs x):V W (g0 W) [] (.agg (eC x.v)) (.agg cs.toArray):=
 Ja.agg (l:=[.bool x.1,.int .u64 (x.2.1:Int),.int .u64 (x.2.2.1:Int),.str x.2.2.2.1,.str x.2.2.2.2]) rfl h
structure PriV where
 fl:Nat
 sum:Int
 dest:EidV
 rep:EidV
 src:EidV
 t:Nat
 q:Nat
 life:Nat
abbrev prC (p:PriV):List D:=[.int .u64 (p.fl:Int),.int .i64 p.sum,.bool p.dest.i,.int .u64 (p.dest.n:Int),.int .u64 (p.dest.s:Int),.str p.dest.h,.str p.dest.d,.bool p.rep.i,.int .u64 (p.rep.n:Int),.int .u64 (p.rep.s:Int),.str p.rep.h,.str p.rep.d,.bool p.src.i,.int .u64 (p.src.n:Int),.int .u64 (p.src.s:Int),.str p.src.h,.str p.src.d,.int .u64 (p.t:Int),.int .u64 (p.q:Int),.int .u64 (p.life:Int)]
def YA (p:PriV):Bool:=(bits .andNot .u64 (p.fl:Int) 409638==0)&&(decide (p.sum ≥ 0)&&(decide (p.sum<=2)&&(ZQ p.dest&&(ZQ p.rep&&(Yv p.src p.t p.q&&decide ((p.life:Int)<=1099511627776))))))
theorem OW [Known](p:PriV):AP Tryz.prog 137 [.agg (prC p)] (.bool (YA p)) []:=by
 have hD:=V6 p.dest
 have hR:=V6 p.rep
 have hI:=Xv p.src p.t p.q
 unfold YA
 generalize ZQ p.dest=e1 at *
 generalize ZQ p.rep=e2 at *
 generalize Yv p.src p.t p.q=e3 at *
 obtain⟨fl,sum,⟨di,dn,ds,dh,dd⟩,⟨ri,rn,rs,rh,rd⟩,⟨xi,xn,xs,xh,xd⟩,t,q,life⟩:=p
 dsimp only at *
 cases t1:(bits .andNot .u64 (fl:Int) 409638==0) with
 | false=>
  refine AP.ofA (Zl Tryz.func137 U Tryz.ntmps137 U U ?_)
  repeat'(first|(apply Zi Za;exact U)|(apply Zg Za;exact U)|refine Zt U U U Qt ?_|refine Zh U Qt U U ?_)
  all_goals exact Qe
 | true=>
 cases t2:decide (sum ≥ 0) with
 | false=>
  refine AP.ofA (Zl Tryz.func137 U Tryz.ntmps137 U U ?_)
  repeat'(first|(apply Zi Za;exact U)|(apply Zg Za;exact U)|refine Ze U U U Qt ?_|refine Zt U U U Qt ?_|refine Zj U Qt U U ?_|refine Zh U Qt U U ?_)
  all_goals exact Qe
 | true=>
 cases t3:decide (sum<=2) with
 | false=>
  refine AP.ofA (Zl Tryz.func137 U Tryz.ntmps137 U U ?_)
  repeat'(first|(apply Zi Za;exact U)|(apply Zg Za;exact U)|refine Ze U U U Qt ?_|refine Zt U U U Qt ?_|refine Zj U Qt U U ?_|refine Zh U Qt U U ?_)
  all_goals exact Qe
 | true=>
 cases e1
 ·refine AP.ofA ?_
  refine Zl Tryz.func137 rfl Tryz.ntmps137 rfl rfl ?_
  repeat'(first|(apply Zb (hD);kernel_rfl;(iterate 4 exact U))|(apply Zi Za;exact U)|(apply Zg Za;exact U)|refine Ze U U U Qt ?_|refine Zt U U U Qt ?_|refine Zj U Qt U U ?_|refine Zh U Qt U U ?_)
  all_goals exact Qe
 cases e2
 ·refine AP.ofA ?_
  refine Zl Tryz.func137 rfl Tryz.ntmps137 rfl rfl ?_
  repeat'(first|(apply Zb (hD);kernel_rfl;(iterate 4 exact U))|(apply Zb (hR);kernel_rfl;(iterate 4 exact U))|(apply Zi Za;exact U)|(apply Zg Za;exact U)|refine Ze U U U Qt ?_|refine Zt U U U Qt ?_|refine Zj U Qt U U ?_|refine Zh U Qt U U ?_)
  all_goals exact Qe
 cases e3
 ·refine AP.ofA ?_
  refine Zl Tryz.func137 rfl Tryz.ntmps137 rfl rfl ?_
  repeat'(first|(apply Zb (hD);kernel_rfl;(iterate 4 exact U))|(apply Zb (hR);kernel_rfl;(iterate 4 exact U))|(apply Zb (hI);kernel_rfl;(iterate 4 exact U))|(apply Zi Za;exact U)|(apply Zg Za;exact U)|refine Ze U U U Qt ?_|refine Zt U U U Qt ?_|refine Zj U Qt U U ?_|refine Zh U Qt U U ?_)
  all_goals exact Qe
 refine AP.ofA (Zl Tryz.func137 U Tryz.ntmps137 U U ?_)
 repeat'(first|(apply Zb (hD);kernel_rfl;(iterate 4 exact U))|(apply Zb (hR);kernel_rfl;(iterate 4 exact U))|(apply Zb (hI);kernel_rfl;(iterate 4 exact U))|(apply Zi Za;exact U)|(apply Zg Za;exact U)|refine Ze U U U Qt ?_|refine Zj U Qt U U ?_)
 all_goals exact Qe
def Z6 (r b:Nat):Nat:=if r ≥ b then r-b else r
def X2 (fl:Nat):Nat:=Z6 (Z6 (Z6 (Z6 (Z6 (Z6 fl 262144) 131072) 16384) 32) 4) 2
theorem N0:∀ a,a<128->∀ c,c<128->((Z6 (Z6 (Z6 (a*128+c) 32) 4) 2==0)=(((a*128+c) &&& 18446744073709141977)==0)):=by decide +kernel
theorem Ly (x:Nat)(h:x<16384):((Z6 (Z6 (Z6 x 32) 4) 2==0)=((x &&& 18446744073709141977)==0)):=by
 have e:x=x/128*128+x % 128:=by omega
 have:=N0 (x/128) (by omega) (x % 128) (by omega)
 rw[<- e]at this
 exact this
theorem Lz:∀ x,x<32->((Z6 (Z6 (Z6 x 16) 8) 1==0)=((x &&& (18446744073709141977/16384))==0)):=by decide +kernel
theorem N1 (M h l b:Nat)(hl:l<M):Z6 (h*M+l) (b*M)=Z6 h b*M+l:=by
 unfold Z6
 by_cases hb:h ≥ b
 ·have h1:b*M<=h*M:=Nat.mul_le_mul_right M hb
  have h2:h*M+l ≥ b*M:=by omega
  rw[if_pos hb,if_pos h2,Nat.sub_mul]
  omega
 ·have h1:(h+1)*M<=b*M:=Nat.mul_le_mul_right M (by omega)
  rw[Nat.add_mul,Nat.one_mul]at h1
  have h2:¬ h*M+l ≥ b*M:=by omega
  rw[if_neg hb,if_neg h2]
theorem KK (h l b:Nat)(hl:l<16384):Z6 (h*16384+l) (b*16384)=Z6 h b*16384+l:=N1 16384 h l b hl
theorem UL (z b:Nat):z-b<=Z6 z b:=by
 unfold Z6
 split<;>omega
theorem Nf {y:Nat}(h:16384<=y):(Z6 (Z6 (Z6 y 32) 4) 2==0)=false:=by
 have h1:=UL y 32
 generalize Z6 y 32=a at *
 have h2:=UL a 4
 generalize Z6 a 4=c at *
 have h3:=UL c 2
 generalize Z6 c 2=d at *
 rw[beq_eq_false_iff_ne]
 omega
theorem LA {y:Nat}(h:32<=y):1<=Z6 (Z6 (Z6 y 16) 8) 1:=by
 have h1:=UL y 16
 generalize Z6 y 16=a at *
 have h2:=UL a 8
 generalize Z6 a 8=c at *
 have h3:=UL c 1
 generalize Z6 c 1=d at *
 omega
theorem H9 (fl:Nat)(h:fl<18446744073709551616):(bits .andNot .u64 (fl:Int) 409638==0)=(X2 fl==0):=by
 rw[show(409638:Int)=((409638:Nat):Int) from rfl,u64_andNot_nat fl 409638 h (by omega)]
 rw[show(18446744073709551615-409638:Nat)=18446744073709141977 from rfl]
 have hs:fl=fl/16384*16384+fl % 16384:=by omega
 have hlo:=Ly (fl % 16384) (Nat.mod_lt _ (by omega))
 have e:∀ x:Nat,((((fl &&& 18446744073709141977:Nat)):Int)==0)=((fl &&& 18446744073709141977)==0):=fun _=>by
  rw[Bool.eq_iff_iff,beq_iff_eq,beq_iff_eq];omega
 rw[e 0]
 have hd:(fl &&& 18446744073709141977)/16384=(fl/16384) &&& (18446744073709141977/16384):=by
  rw[show(16384:Nat)=2 ^ 14 from rfl,<- Nat.shiftRight_eq_div_pow,<- Nat.shiftRight_eq_div_pow,<- Nat.shiftRight_eq_div_pow,Nat.shiftRight_and_distrib]
 have hm:(fl &&& 18446744073709141977) % 16384=(fl % 16384 &&& 18446744073709141977) % 16384:=by
  rw[show(16384:Nat)=2 ^ 14 from rfl,<- Nat.and_two_pow_sub_one_eq_mod,<- Nat.and_two_pow_sub_one_eq_mod,<- Nat.and_two_pow_sub_one_eq_mod]
  apply Nat.eq_of_testBit_eq
  intro i
  simp only[Nat.testBit_and]
  cases fl.testBit i<;>cases(18446744073709141977:Nat).testBit i<;>cases((2 ^ 14-1:Nat)).testBit i<;>rfl
 have hl2:(fl % 16384 &&& 18446744073709141977)<16384:=Nat.lt_of_le_of_lt Nat.and_le_left (Nat.mod_lt _ (by omega))
 rw[Nat.mod_eq_of_lt hl2]at hm
 have hr:X2 fl=Z6 (Z6 (Z6 (Z6 (Z6 (Z6 (fl/16384) 16) 8) 1*16384+fl % 16384) 32) 4) 2:=by
  unfold X2
  have hlt:=Nat.mod_lt fl (show 16384>0 by omega)
  conv=>lhs;rw[hs]
  rw[show(262144:Nat)=16*16384 from rfl,KK _ _ _ hlt,show(131072:Nat)=8*16384 from rfl,KK _ _ _ hlt]
  have:=KK (Z6 (Z6 (fl/16384) 16) 8) (fl % 16384) 1 hlt
  rw[Nat.one_mul]at this
  rw[this]
 rw[hr]
 by_cases h32:fl/16384<32
 ·have hhi:=Lz _ h32
  cases hh:(Z6 (Z6 (Z6 (fl/16384) 16) 8) 1==0) with
  | true=>
   rw[hh]at hhi
   have h0:Z6 (Z6 (Z6 (fl/16384) 16) 8) 1=0:=by simpa using hh
   have h1:(fl/16384) &&& (18446744073709141977/16384)=0:=by simpa using hhi.symm
   rw[h0,Nat.zero_mul,Nat.zero_add,hlo]
   rw[h1]at hd
   rw[Bool.eq_iff_iff,beq_iff_eq,beq_iff_eq]
   omega
  | false=>
   rw[hh]at hhi
   have h0:Z6 (Z6 (Z6 (fl/16384) 16) 8) 1 ≠ 0:=by simpa using hh
   have h1:(fl/16384) &&& (18446744073709141977/16384) ≠ 0:=by simpa using hhi.symm
   have e1:((fl &&& 18446744073709141977)==0)=false:=by
    rw[beq_eq_false_iff_ne]
    intro h2
    rw[h2]at hd
    exact h1 (by omega)
   rw[e1]
   symm
   exact Nf (by omega)
 ·have h1:(fl/16384) &&& (18446744073709141977/16384) ≠ 0:=fun h2=>by
   have h3:((fl/16384) &&& (18446744073709141977/16384))/32=fl/16384/32:=by
    rw[show(32:Nat)=2 ^ 5 from rfl,<- Nat.shiftRight_eq_div_pow,<- Nat.shiftRight_eq_div_pow,Nat.shiftRight_and_distrib,Nat.shiftRight_eq_div_pow,Nat.shiftRight_eq_div_pow]
    rw[show(18446744073709141977/16384/2 ^ 5:Nat)=2 ^ 45-1 from by decide,Nat.and_two_pow_sub_one_eq_mod,Nat.mod_eq_of_lt (by omega)]
   rw[h2]at h3
   omega
  have e1:((fl &&& 18446744073709141977)==0)=false:=by
   rw[beq_eq_false_iff_ne]
   intro h2
   rw[h2]at hd
   exact h1 (by omega)
  rw[e1]
  symm
  have h4:=LA (y:=fl/16384) (by omega)
  exact Nf (by omega)
end Go.Proofs.YtmljabhmajehnaaGreatDoor
end
