/- Package primary: items sealed. -/
import Derived.Test.YtchlgagdbflkmaaGreatDoorK23
set_option linter.unusedVariables false
set_option linter.unusedSimpArgs false
section
open Go.RowKit Go.Pl Go.Av
namespace Go.Proofs.YtchlgagdbflkmaaGreatDoor
set_option maxHeartbeats 4000000
theorem Me [Known](l:List It)(hne:l ≠ [])(hl:l.length<=2199023255488)(hws:wfs l):AT Tryz.prog 174 [.sl .ext (Zu l)] [] [] (.agg [.int .i64 4,.int .u64 0,.sl .nil [],.sl (.own 0) (Zu l)]) [] [⟨(Zu l).length,4,230⟩]:=by
 have ih':∀ y ∈ l,AP Tryz.prog 214 [itD y] (itD y) []:=fun y hy=>Oe y (YD hws y hy)
 have hlen:=Zz l
 refine Zl Tryz.func174 rfl Tryz.ntmps174 rfl rfl ?_
 repeat'(first|(apply Zg Za;exact Z)|(apply Zh Za;exact Z)|refine Zn Za Z Z Z Z ?_)
 refine Yf (fun k' tm bx fr=>∃(i c:Nat) (L:List E),k'+i=l.length/\c=L.length/\L=Zu (l.take i)/\tm=[(3,.ptr 1 0),(2,.ptr 0 0),(7,.sl .ext (Zu l)),(8,.int .i64 ((Zu l).length:Int)),(9,.int .i64 (i:Int))] /\
  ((i=0/\bx=[[.int .i64 0,.int .u64 0,.sl .nil [],.sl .nil []],[.int .i64 4,.int .u64 0,.sl .nil [],.sl .nil []]]/\fr=[]) \/
  (bx=[[.int .i64 0,.int .u64 0,.sl .nil [],.sl .nil []],[.int .i64 4,.int .u64 0,.sl .nil [],.sl (.own 0) L]]/\fr=[⟨c,4,230⟩]))) (l.length+1) (Lands.mk' (m:=l.length) (Nat.lt_succ_self _) ⟨0,0,[],rfl,rfl,rfl,rfl,.inl ⟨rfl,rfl,rfl⟩⟩ ?_ rfl rfl rfl rfl rfl rfl) ?_
 ·exact .cons rfl (.cons rfl (.cons rfl (.cons rfl (.cons rfl .nil))))
 rintro k' tm bx fr ⟨i,c,L,hi,hc,hL,rfl,⟨rfl,rfl,rfl⟩ | ⟨rfl,rfl⟩⟩
 ·cases l with
  | nil=>exact absurd rfl hne
  | cons y l=>
   have hc:=ih' y (List.mem_cons_self ..)
   have hU:=Y4 (y::l)
   have hd:decide (((0:Nat):Int)<((Zu (y::l)).length:Int))=true:=decide_eq_true (by rw[Zu];simp)
   obtain⟨k1,n1,b1,l1⟩:=y
   repeat'(first|(apply Zb (hc);kernel_rfl;(iterate 4 exact Z))|refine Z9 Za Z Z Z Z Z Z (Zk rfl) (List.cons_ne_nil _ _) Z Qd Qd Z Z Z ?_|(apply Zg Za;exact Z)|(apply Zh Za;exact Z)|(apply Zs Za;exact Z)|refine Ze Z Qt ?_|refine ZO Za Z Z Z Z Z Z Z Z Z Z Z Z ?_|(apply Zm 5 ZG;decide +kernel;kernel_rfl;kernel_rfl;kernel_rfl;exact Z;exact Z)|(apply Zq;(iterate 4 exact Z))|exact AE.nil _ _ _ _|(apply Zv;exact Z)|(apply ZA;exact Z;exact Z;decide +kernel;exact Z)|(apply ZB;exact Z)|exact AO.nil _ _ _|(apply Zp;(decide +kernel))|exact AOs.nil|exact ZJ rfl rfl|exact Y6 rfl rfl rfl rfl rfl|(apply Zw Za;(iterate 6 exact Z);(first|exact Qt|rotate_left);(first|with_reducible assumption|decide +kernel|exact Z);(first|exact Zk rfl|with_reducible assumption|decide +kernel|rotate_left)))
   refine Lands.mk' (m:=k'-1) (by simp at hi;omega) ⟨1,1,Zu [It.mk k1 n1 b1 l1],by simp at hi ⊢;omega,rfl,rfl,rfl,.inr ⟨rfl,rfl⟩⟩ ?_ rfl rfl rfl rfl rfl rfl
   exact .cons rfl (.cons rfl (.cons rfl (.cons rfl (.cons rfl .nil))))
 ·have hU:=Y4 l
  have hU2:Uni 4 L:=hL ▸ Y4 (l.take i)
  have el:=Zz (l.take i)
  rw[<- hL]at el
  subst hc
  rcases Nat.lt_or_ge i l.length with hlt|hge
  ·have hd:decide ((i:Int)<((Zu l).length:Int))=true:=decide_eq_true (by omega)
   obtain⟨⟨k1,n1,b1,l1⟩,hy⟩:∃ y,l[i]?=some y:=⟨_,List.getElem?_eq_getElem hlt⟩
   have hv:(Zu l)[((i:Nat):Int).toNat]?=some (.agg [.int .i64 k1,.int .u64 (n1:Int),.sl (b1.map E.byte),.sl (Zu l1)]):=by
    rw[Int.toNat_natCast,Yi,List.getElem?_map,hy];rfl
   have hc:=ih' _ (List.mem_of_getElem? hy)
   have ei:IntKind.i64.wrap ((i:Int)+1)=((i+1:Nat):Int):=by rw[IntWalk.i64_in _ (by omega)];omega
   have hs:L++[E.agg [.int .i64 k1,.int .u64 (n1:Int),.sl (b1.map E.byte),.sl (Zu l1)]]=Zu (l.take (i+1)):=by
    rw[hL,List.take_add_one,hy];exact(VU _ [It.mk k1 n1 b1 l1]).symm
   rw[List.length_take]at el
   repeat'(first|(apply Zb (hc);kernel_rfl;(iterate 4 exact Z))|rw[ei]|(apply Zg Za;exact Z)|(apply Zh Za;exact Z)|(apply Zs Za;exact Z)|refine Ze Z Qt ?_|refine ZO Za Z Z Z Z Z Z Z Z Z Z Z Z ?_|(apply Zm 5 ZG;decide +kernel;kernel_rfl;kernel_rfl;kernel_rfl;exact Z;exact Z)|(apply Zq;(iterate 4 exact Z))|exact AE.nil _ _ _ _|(apply Zv;exact Z)|(apply ZA;exact Z;exact Z;decide +kernel;exact Z)|(apply ZB;exact Z)|exact AO.nil _ _ _|(apply Zp;(decide +kernel))|exact AOs.nil|exact ZJ rfl rfl|exact Y6 rfl rfl rfl rfl rfl|(apply Z3 Za;(iterate 6 exact Z);(first|with_reducible assumption|decide +kernel|exact Z|rotate_left);exact Z;exact Z;(first|exact Zk rfl|with_reducible assumption|decide +kernel|rotate_left);(first|exact Zk rfl|with_reducible assumption|decide +kernel|rotate_left);(first|exact Qt|rotate_left);(first|exact Qt|rotate_left);(first|exact Qt|rotate_left);exact Z;exact Z)|(apply Zw Za;(iterate 6 exact Z);(first|exact Qt|rotate_left);(first|with_reducible assumption|decide +kernel|exact Z);(first|exact Zk rfl|with_reducible assumption|decide +kernel|rotate_left)))
   ·refine Lands.mk' (m:=k'-1) (by omega) ⟨i+1,L.length+1,_,by omega,by rw[List.length_append];rfl,hs,rfl,.inr ⟨rfl,rfl⟩⟩ ?_ rfl rfl rfl rfl rfl rfl
    exact .cons rfl (.cons rfl (.cons rfl (.cons rfl (.cons rfl .nil))))
   all_goals(first|rfl|(simp only[List.length_append,List.length_cons,List.length_nil,List.length_map,Zz];done)|(simp only[List.length_append,List.length_cons,List.length_nil,List.length_map,Zz]at *;(try unfold maxLen);(try simp only[Nat.add_mul]);omega))
  ·have hd:decide ((i:Int)<((Zu l).length:Int))=false:=decide_eq_false (by omega)
   rw[List.take_of_length_le hge]at hL
   subst hL
   repeat'(first|(apply Zh Za;exact Z)|refine Zf Z Qt ?_)
   all_goals(apply Wg [] [0];(apply Zc Za;exact Z);(iterate 7 exact Z))
   all_goals rfl
def z0:It:=.mk 0 0 [] []
def Ia (s:Nat)(l:List It):It:=.mk 4 0 [] (l++[.mk 2 0 (U2 s (ZU (Yh s l))) []])
def VX (l:List It)(a:Int):It × Int:=match decide (a<0)||decide (a ≥ (l.length:Int)) with
 | true=>(z0,1)
 | false=>match l.all ZS&&decide (YV l a ≥ 0) with
  | false=>(z0,3)
  | true=>match decide (YV l a>0) with
   | false=>(match ZS (.mk 4 0 [] l) with|true=>(.mk 4 0 [] l,0)|false=>(z0,3))
   | true=>(match ZS (Yh (YV l a).toNat l) with
    | false=>(z0,3)
    | true=>match ZS (Ia (YV l a).toNat l) with
     | false=>(z0,3)
     | true=>(Ia (YV l a).toNat l,0))
abbrev JC (r:It × Int):D:=.tup [itD r.1,.int .i64 r.2]
theorem Ql (l:List It)(a:Int):YV l a = -1\/((YV l a=0\/YV l a=1\/YV l a=2)/\0<=a/\a<(l.length:Int)):=by
 unfold YV
 split
 ·exact .inl rfl
 rename_i h0
 cases h:l[a.toNat]? with
 | none=>exact .inl rfl
 | some x=>
  obtain⟨k,n,b,r⟩:=x
  have hlt:=(List.getElem?_eq_some_iff.1 h).1
  dsimp only
  cases t:decide ((n:Int)>2) with
  | true=>exact .inl rfl
  | false=>
   have:=of_decide_eq_false t
   cases It.beq (.mk k n b r) (.mk 0 n [] []) with
   | false=>exact .inl rfl
   | true=>dsimp only;omega
theorem Sf {s:Nat}{l:List It}(hs:s=1\/s=2)(hws:wfs l)(hl:l.length<=1000000):wfI (Ia s l):=by
 refine⟨by decide,by simp,by simp;omega,XA hws ⟨⟨by decide,?_,by simp,trivial⟩,trivial⟩⟩
 rw[Km _ _ hs]
 omega
theorem H9 [Known][KnownU8](l:List It)(a:Int)(hws:wfs l)(hl:l.length<=1000000)(hlim:∀ s,s=1\/s=2->(ZU (Yh s l)).length<=1000000000):AP Tryz.prog 217 [.sl .ext (Zu l),.int .i64 a] (JC (VX l a)) []:=by
 have hlen:=Zz l
 have hU:=Y4 l
 have hC:=N9 l hws hl
 have hT:=Oq l hws a
 unfold VX
 rw[<- hlen]
 rcases Int.lt_or_le a 0 with h0|h0
 ·have t1:decide (a<0)=true:=decide_eq_true h0
  rw[t1,Bool.true_or]
  dsimp only[z0]
  refine AP.ofA (Zl Tryz.func217 Z Tryz.ntmps217 Z Z ?_)
  repeat'(first|(apply Zg Za;exact Z)|(apply Zh Za;exact Z)|(apply Zs Za;exact Z)|refine Zo Z Z Z Qt ?_|refine Zj Z Qt Z Z ?_|refine Ze Z Qt ?_)
  all_goals exact Qe
 have t1:decide (a<0)=false:=decide_eq_false (by omega)
 rw[t1,Bool.false_or]
 cases t2:decide (a ≥ ((Zu l).length:Int)) with
 | true=>
  dsimp only[z0]
  refine AP.ofA (Zl Tryz.func217 Z Tryz.ntmps217 Z Z ?_)
  repeat'(first|(apply Zg Za;exact Z)|(apply Zh Za;exact Z)|(apply Zs Za;exact Z)|refine Zd Z Z Z Qt ?_|refine Zi Z Qt Z Z ?_|refine Ze Z Qt ?_|refine Zn Za Z Z Z Z ?_)
  all_goals exact Qe
 | false=>
 have hne:l ≠ []:=by rintro rfl;have:=of_decide_eq_false t2;simp[Zu]at this;omega
 cases hA:l.all ZS with
 | false=>
  rw[hA]at hC
  replace hC:AP Tryz.prog 251 _ (.bool true) []:=hC
  rw[Bool.false_and]
  dsimp only[z0]
  generalize YV l a=tv at *
  refine AP.ofA (Zl Tryz.func217 Z Tryz.ntmps217 Z Z ?_)
  repeat'(first|(apply Zb (hC);kernel_rfl;(iterate 4 exact Z))|(apply Zb (hT);kernel_rfl;(iterate 4 exact Z))|(apply Zg Za;exact Z)|(apply Zh Za;exact Z)|(apply Zs Za;exact Z)|refine Zd Z Z Z Qt ?_|refine Zo Z Z Z Qt ?_|refine Zj Z Qt Z Z ?_|refine Zi Z Qt Z Z ?_|refine Ze Z Qt ?_|refine Zf Z Qt ?_|refine Zn Za Z Z Z Z ?_)
  all_goals exact Qe
 | true=>
  rw[hA]at hC
  replace hC:AP Tryz.prog 251 _ (.bool false) []:=hC
  rw[Bool.true_and]
  rcases Ql l a with e|⟨e|e,_,_⟩
  ·rw[e]at hT ⊢
   dsimp only[z0]
   refine AP.ofA (Zl Tryz.func217 Z Tryz.ntmps217 Z Z ?_)
   repeat'(first|(apply Zb (hC);kernel_rfl;(iterate 4 exact Z))|(apply Zb (hT);kernel_rfl;(iterate 4 exact Z))|(apply Zg Za;exact Z)|(apply Zh Za;exact Z)|(apply Zs Za;exact Z)|refine Zd Z Z Z Qt ?_|refine Zi Z Qt Z Z ?_|refine Ze Z Qt ?_|refine Zf Z Qt ?_|refine Zn Za Z Z Z Z ?_)
   all_goals exact Qe
  ·rw[e]at hT ⊢
   have hL:=W4 l (by omega) hws
   have hR:=Wj (.mk 4 0 [] l) ⟨by decide,by simp,by omega,hws⟩
   cases hr:ZS (.mk 4 0 [] l) with
   | false=>
    rw[hr]at hR
    dsimp only[z0]
    refine AP.ofA (Zl Tryz.func217 Z Tryz.ntmps217 Z Z ?_)
    repeat'(first|(apply Zb (hC);kernel_rfl;(iterate 4 exact Z))|(apply Zb (hT);kernel_rfl;(iterate 4 exact Z))|(apply Zb (hL);kernel_rfl;(iterate 4 exact Z))|(apply Zb (hR);kernel_rfl;(iterate 4 exact Z))|(apply Zg Za;exact Z)|(apply Zh Za;exact Z)|(apply Zs Za;exact Z)|refine Zd Z Z Z Qt ?_|refine Zi Z Qt Z Z ?_|refine Ze Z Qt ?_|refine Zf Z Qt ?_|refine Zn Za Z Z Z Z ?_)
    all_goals exact Qe
   | true=>
    rw[hr]at hR
    refine AP.ofA (Zl Tryz.func217 Z Tryz.ntmps217 Z Z ?_)
    repeat'(first|(apply Zb (hC);kernel_rfl;(iterate 4 exact Z))|(apply Zb (hT);kernel_rfl;(iterate 4 exact Z))|(apply Zb (hL);kernel_rfl;(iterate 4 exact Z))|(apply Zb (hR);kernel_rfl;(iterate 4 exact Z))|(apply Zg Za;exact Z)|(apply Zh Za;exact Z)|(apply Zs Za;exact Z)|refine Zd Z Z Z Qt ?_|refine Zi Z Qt Z Z ?_|refine Zf Z Qt ?_|refine Zn Za Z Z Z Z ?_)
    all_goals exact Qe
  ·obtain⟨s,hs,es⟩:∃ s:Nat,(s=1\/s=2)/\YV l a=(s:Int):=⟨(YV l a).toNat,by omega,by omega⟩
   rw[es]at hT ⊢
   rw[Int.toNat_natCast]
   have hS:=Gd l s hs hne hws hl (hlim s hs)
   have hL:=Me l hne (by omega) hws
   have hsl:=Km s (ZU (Yh s l)) hs
   have hB:=Jy (U2 s (ZU (Yh s l))) (by omega)
   have hR:=Wj (Ia s l) (Sf hs hws hl)
   have hmx:(Zu l).length<=1000000:=by omega
   have d1:decide ((s:Int)<0)=false:=decide_eq_false (by omega)
   have d2:decide ((s:Int)>0)=true:=decide_eq_true (by omega)
   have d3:decide ((s:Int) ≥ 0)=true:=decide_eq_true (by omega)
   rw[d2,d3]
   cases hz:ZS (Yh s l) with
   | false=>
    rw[hz]at hS
    dsimp only[z0]
    dsimp only at hS
    refine AP.ofA (Zl Tryz.func217 Z Tryz.ntmps217 Z Z ?_)
    repeat'(first|(apply Zb (hC);kernel_rfl;(iterate 4 exact Z))|(apply Zb (hT);kernel_rfl;(iterate 4 exact Z))|(apply Zx [] [] (hL);kernel_rfl;(iterate 10 exact Z))|(apply Zb (hS);kernel_rfl;(iterate 4 exact Z))|(apply Zg Za;exact Z)|(apply Zh Za;exact Z)|(apply Zs Za;exact Z)|refine Zd Z Z Z Qt ?_|refine Zi Z Qt Z Z ?_|refine Ze Z Qt ?_|refine Zf Z Qt ?_|refine Zn Za Z Z Z Z ?_)
    all_goals exact Qe
   | true=>
    rw[hz]at hS
    dsimp only at hS ⊢
    have eO:itD (Ia s l)=.agg [.int .i64 4,.int .u64 0,.sl .ext [],.sl .ext (Zu l++[.agg [.int .i64 2,.int .u64 0,.sl ((U2 s (ZU (Yh s l))).map E.byte),.sl []]])]:=by
     show D.agg [.int .i64 4,.int .u64 0,.sl .ext [],.sl .ext (Zu (l++[.mk 2 0 (U2 s (ZU (Yh s l))) []]))]=_
     rw[VU]
     rfl
    cases hr:ZS (Ia s l) with
    | false=>
     rw[hr,eO]at hR
     dsimp only[z0]
     generalize U2 s (ZU (Yh s l))=SB at *
     refine AP.ofA (Zl Tryz.func217 Z Tryz.ntmps217 Z Z ?_)
     repeat'(first|(apply Zb (hC);kernel_rfl;(iterate 4 exact Z))|(apply Zb (hT);kernel_rfl;(iterate 4 exact Z))|(apply Zx [] [] (hL);kernel_rfl;(iterate 10 exact Z))|(apply Zb (hS);kernel_rfl;(iterate 4 exact Z))|(apply Zb (hB);kernel_rfl;(iterate 4 exact Z))|(apply Zb (hR);kernel_rfl;(iterate 4 exact Z))|(apply Zg Za;exact Z)|(apply Zh Za;exact Z)|(apply Zs Za;exact Z)|refine Zd Z Z Z Qt ?_|refine Zi Z Qt Z Z ?_|refine Ze Z Qt ?_|refine Zf Z Qt ?_|refine Zn Za Z Z Z Z ?_|refine ZO Za Z Z Z Z Z Z Z Z Z Z Z Z ?_|(apply Zm 5 ZG;decide +kernel;kernel_rfl;kernel_rfl;kernel_rfl;exact Z;exact Z)|(apply Zq;(iterate 4 exact Z))|exact AE.nil _ _ _ _|(apply Zv;exact Z)|(apply ZA;exact Z;exact Z;decide +kernel;exact Z)|(apply ZB;exact Z)|exact AO.nil _ _ _|(apply Zp;(decide +kernel))|exact AOs.nil|exact ZJ rfl rfl|exact Y6 rfl rfl rfl rfl rfl|(apply Z3 Za;(iterate 6 exact Z);(first|with_reducible assumption|decide +kernel|exact Z|rotate_left);exact Z;exact Z;(first|exact Zk rfl|with_reducible assumption|decide +kernel|rotate_left);(first|exact Zk rfl|with_reducible assumption|decide +kernel|rotate_left);(first|exact Qt|rotate_left);(first|exact Qt|rotate_left);(first|exact Qt|rotate_left);exact Z;exact Z))
     all_goals first|((apply Zt [];(apply Zc Za;exact Z);(iterate 4 exact Z)))|skip
     all_goals first|rfl|(first|rfl|(simp only[List.length_append,List.length_cons,List.length_nil,List.length_map,Zz];done)|(simp only[List.length_append,List.length_cons,List.length_nil,List.length_map,Zz]at *;(try unfold maxLen);(try simp only[Nat.add_mul]);omega))|(simp;done)|(simp;omega)|(simp;unfold maxLen;omega)
    | true=>
     rw[hr,eO]at hR
     dsimp only[JC]
     rw[eO]
     generalize U2 s (ZU (Yh s l))=SB at *
     refine AP.ofA (Zl Tryz.func217 Z Tryz.ntmps217 Z Z ?_)
     repeat'(first|(apply Zb (hC);kernel_rfl;(iterate 4 exact Z))|(apply Zb (hT);kernel_rfl;(iterate 4 exact Z))|(apply Zx [] [] (hL);kernel_rfl;(iterate 10 exact Z))|(apply Zb (hS);kernel_rfl;(iterate 4 exact Z))|(apply Zb (hB);kernel_rfl;(iterate 4 exact Z))|(apply Zb (hR);kernel_rfl;(iterate 4 exact Z))|(apply Zg Za;exact Z)|(apply Zh Za;exact Z)|(apply Zs Za;exact Z)|refine Zd Z Z Z Qt ?_|refine Zi Z Qt Z Z ?_|refine Ze Z Qt ?_|refine Zf Z Qt ?_|refine Zn Za Z Z Z Z ?_|refine ZO Za Z Z Z Z Z Z Z Z Z Z Z Z ?_|(apply Zm 5 ZG;decide +kernel;kernel_rfl;kernel_rfl;kernel_rfl;exact Z;exact Z)|(apply Zq;(iterate 4 exact Z))|exact AE.nil _ _ _ _|(apply Zv;exact Z)|(apply ZA;exact Z;exact Z;decide +kernel;exact Z)|(apply ZB;exact Z)|exact AO.nil _ _ _|(apply Zp;(decide +kernel))|exact AOs.nil|exact ZJ rfl rfl|exact Y6 rfl rfl rfl rfl rfl|(apply Z3 Za;(iterate 6 exact Z);(first|with_reducible assumption|decide +kernel|exact Z|rotate_left);exact Z;exact Z;(first|exact Zk rfl|with_reducible assumption|decide +kernel|rotate_left);(first|exact Zk rfl|with_reducible assumption|decide +kernel|rotate_left);(first|exact Qt|rotate_left);(first|exact Qt|rotate_left);(first|exact Qt|rotate_left);exact Z;exact Z))
     all_goals first|((apply Zt [];(apply Zc Za;exact Z);(iterate 4 exact Z)))|skip
     all_goals first|rfl|(first|rfl|(simp only[List.length_append,List.length_cons,List.length_nil,List.length_map,Zz];done)|(simp only[List.length_append,List.length_cons,List.length_nil,List.length_map,Zz]at *;(try unfold maxLen);(try simp only[Nat.add_mul]);omega))|(simp;done)|(simp;omega)|(simp;unfold maxLen;omega)
def Qm (x:It)(a:Int):List It × Int:=match x with
 | .mk k n b l=>match ZS (.mk k n b l)&&(k==4) with
  | false=>([],3)
  | true=>match decide (YV l a<0) with
   | true=>([],3)
   | false=>match YV l a==0 with
    | true=>(l,0)
    | false=>match l[l.length-1]? with
     | none=>([],3)
     | some (.mk k1 n1 b1 l1)=>match decide (((l.length-1:Nat):Int)<=a)||(!(It.beq (.mk k1 n1 b1 l1) (.mk 2 0 b1 []))||((b1.length:Int) != ((2*(YV l a).toNat:Nat):Int))) with
      | true=>([],3)
      | false=>match ZS (Yh (YV l a).toNat (l.take (l.length-1))) with
       | false=>([],3)
       | true=>match U2 (YV l a).toNat (ZU (Yh (YV l a).toNat (l.take (l.length-1))))==b1 with
        | false=>([],10)
        | true=>(l.take (l.length-1),0)
abbrev Bo (r:List It × Int):D:=.tup [.sl .ext (Zu r.1),.int .i64 r.2]
theorem Ko:∀ {l:List It} (m:Nat),wfs l->wfs (l.take m)
 | _,0,_=>trivial
 | [],m+1,h=>h
 | x::l,m+1,h=>⟨h.1,Ko m h.2⟩
theorem Ta [Known][KnownU8](x:It)(a:Int)(hw:wfI x)(hxl:x.l.length<=1000000)(hlim:∀ s m,s=1\/s=2->(ZU (Yh s (x.l.take m))).length<=1000000000):AP Tryz.prog 171 [itD x,.int .i64 a] (Bo (Qm x a)) []:=by
 have hR:=Wj x hw
 obtain⟨k,n,b,l⟩:=x
 have hws:wfs l:=hw.2.2.2
 have hlen:=Zz l
 have hU:=Y4 l
 dsimp only[It.l]at hxl hlim
 have hT:=Oq l hws a
 unfold Qm
 dsimp only
 cases hr:ZS (.mk k n b l) with
 | false=>
  rw[hr]at hR
  rw[Bool.false_and]
  refine AP.ofA (Zl Tryz.func171 Z Tryz.ntmps171 Z Z ?_)
  repeat'(first|(apply Zb (hR);kernel_rfl;(iterate 4 exact Z))|(apply Zg Za;exact Z)|(apply Zh Za;exact Z)|(apply Zs Za;exact Z)|refine Zo Z Z Z Qt ?_|refine Zj Z Qt Z Z ?_|refine Ze Z Qt ?_)
  all_goals exact Qe
 | true=>
 rw[hr]at hR
 rw[Bool.true_and]
 cases tk:(k==4) with
 | false=>
  have tk2:(k != 4)=true:=by rw[bne,tk];rfl
  refine AP.ofA (Zl Tryz.func171 Z Tryz.ntmps171 Z Z ?_)
  repeat'(first|(apply Zb (hR);kernel_rfl;(iterate 4 exact Z))|(apply Zg Za;exact Z)|(apply Zh Za;exact Z)|(apply Zs Za;exact Z)|refine Zd Z Z Z Qt ?_|refine Zi Z Qt Z Z ?_|refine Ze Z Qt ?_)
  all_goals exact Qe
 | true=>
 have tk2:(k != 4)=false:=by rw[bne,tk];rfl
 rcases Ql l a with e|⟨e|e,h0,h1⟩
 ·rw[e]at hT ⊢
  refine AP.ofA (Zl Tryz.func171 Z Tryz.ntmps171 Z Z ?_)
  repeat'(first|(apply Zb (hR);kernel_rfl;(iterate 4 exact Z))|(apply Zb (hT);kernel_rfl;(iterate 4 exact Z))|(apply Zg Za;exact Z)|(apply Zh Za;exact Z)|(apply Zs Za;exact Z)|refine Zd Z Z Z Qt ?_|refine Zi Z Qt Z Z ?_|refine Ze Z Qt ?_|refine Zf Z Qt ?_)
  all_goals exact Qe
 ·rw[e]at hT ⊢
  have hL:=W4 l (by omega) hws
  replace hL:AP Tryz.prog 174 [.sl .ext (Zu l)] (.agg [.int .i64 4,.int .u64 0,.sl .ext [],.sl .ext (Zu l)]) []:=hL
  refine AP.ofA (Zl Tryz.func171 Z Tryz.ntmps171 Z Z ?_)
  repeat'(first|(apply Zb (hR);kernel_rfl;(iterate 4 exact Z))|(apply Zb (hT);kernel_rfl;(iterate 4 exact Z))|(apply Zb (hL);kernel_rfl;(iterate 4 exact Z))|(apply Zg Za;exact Z)|(apply Zh Za;exact Z)|(apply Zs Za;exact Z)|refine Zd Z Z Z Qt ?_|refine Zi Z Qt Z Z ?_|refine Ze Z Qt ?_|refine Zf Z Qt ?_)
  all_goals exact Qe
 ·obtain⟨s,hs,es⟩:∃ s:Nat,(s=1\/s=2)/\YV l a=(s:Int):=⟨(YV l a).toNat,by omega,by omega⟩
  rw[es]at hT ⊢
  rw[Int.toNat_natCast]
  have d1:decide ((s:Int)<0)=false:=decide_eq_false (by omega)
  have d2:((s:Int)==0)=false:=by rw[beq_eq_false_iff_ne];omega
  rw[d1,d2]
  dsimp only
  obtain⟨m,hm⟩:∃ m,m=l.length-1:=⟨_,rfl⟩
  have em:IntKind.i64.wrap (((Zu l).length:Int)-1)=(m:Int):=by rw[IntWalk.i64_in _ (by omega)];omega
  rw[<- hm]
  obtain⟨⟨k1,n1,b1,l1⟩,hy⟩:∃ y,l[m]?=some y:=⟨_,List.getElem?_eq_getElem (by omega)⟩
  have hv:(Zu l)[((m:Nat):Int).toNat]?=some (.agg [.int .i64 k1,.int .u64 (n1:Int),.sl (b1.map E.byte),.sl (Zu l1)]):=by
   rw[Int.toNat_natCast,Yi,List.getElem?_map,hy];rfl
  rw[hy]
  dsimp only
  have hw1:=YD hws _ (List.mem_of_getElem? hy)
  have hbl:(b1.map E.byte).length=b1.length:=List.length_map ..
  have hB:=Jy b1 (by have:=hw1.2.1;omega)
  have hS:=Ub (.mk k1 n1 b1 l1) hw1 (.mk 2 0 b1 []) ⟨by decide,by have:=hw1.2.1;omega,by simp,trivial⟩
  have hZ:=Kn s hs
  rw[<- hbl]
  cases t1:decide ((m:Int)<=a) with
  | true=>
   rw[Bool.true_or]
   refine AP.ofA (Zl Tryz.func171 Z Tryz.ntmps171 Z Z ?_)
   repeat'(first|(apply Zb (hR);kernel_rfl;(iterate 4 exact Z))|(apply Zb (hT);kernel_rfl;(iterate 4 exact Z))|rw[em]|(apply Zg Za;exact Z)|(apply Zh Za;exact Z)|(apply Zs Za;exact Z)|refine Zd Z Z Z Qt ?_|refine Zo Z Z Z Qt ?_|refine Zj Z Qt Z Z ?_|refine Zi Z Qt Z Z ?_|refine Ze Z Qt ?_|refine Zf Z Qt ?_|refine Zn Za Z Z Z Z ?_|(apply Zm 17 ZG;decide +kernel;kernel_rfl;kernel_rfl;kernel_rfl;exact Z;exact Z)|(apply Zq;(iterate 4 exact Z))|exact AE.nil _ _ _ _|(apply Zv;exact Z)|(apply ZA;exact Z;exact Z;decide +kernel;exact Z)|(apply ZB;exact Z)|exact AO.nil _ _ _|(apply Zp;(decide +kernel))|exact AOs.nil|exact ZJ rfl rfl|(apply Zw Za;(iterate 6 exact Z);(first|exact Qt|rotate_left);(first|with_reducible assumption|decide +kernel|exact Z);(first|exact Zk rfl|with_reducible assumption|decide +kernel|rotate_left)))
   all_goals exact Qe
  | false=>
  rw[Bool.false_or]
  cases t2:It.beq (.mk k1 n1 b1 l1) (.mk 2 0 b1 []) with
  | false=>
   rw[t2]at hS
   rw[Bool.not_false,Bool.true_or]
   refine AP.ofA (Zl Tryz.func171 Z Tryz.ntmps171 Z Z ?_)
   repeat'(first|(apply Zb (hR);kernel_rfl;(iterate 4 exact Z))|(apply Zb (hT);kernel_rfl;(iterate 4 exact Z))|rw[em]|(apply Zb (hB);kernel_rfl;(iterate 4 exact Z))|(apply Zb (hS);kernel_rfl;(iterate 4 exact Z))|(apply Zg Za;exact Z)|(apply Zh Za;exact Z)|(apply Zs Za;exact Z)|refine Zd Z Z Z Qt ?_|refine Zo Z Z Z Qt ?_|refine Zj Z Qt Z Z ?_|refine Zi Z Qt Z Z ?_|refine Ze Z Qt ?_|refine Zf Z Qt ?_|refine Zn Za Z Z Z Z ?_|(apply Zm 17 ZG;decide +kernel;kernel_rfl;kernel_rfl;kernel_rfl;exact Z;exact Z)|(apply Zq;(iterate 4 exact Z))|exact AE.nil _ _ _ _|(apply Zv;exact Z)|(apply ZA;exact Z;exact Z;decide +kernel;exact Z)|(apply ZB;exact Z)|exact AO.nil _ _ _|(apply Zp;(decide +kernel))|exact AOs.nil|exact ZJ rfl rfl|(apply Zw Za;(iterate 6 exact Z);(first|exact Qt|rotate_left);(first|with_reducible assumption|decide +kernel|exact Z);(first|exact Zk rfl|with_reducible assumption|decide +kernel|rotate_left)))
   all_goals exact Qe
  | true=>
  rw[t2]at hS
  rw[Bool.not_true,Bool.false_or]
  cases t3:(((b1.map E.byte).length:Int) != ((2*s:Nat):Int)) with
  | true=>
   refine AP.ofA (Zl Tryz.func171 Z Tryz.ntmps171 Z Z ?_)
   repeat'(first|(apply Zb (hR);kernel_rfl;(iterate 4 exact Z))|(apply Zb (hT);kernel_rfl;(iterate 4 exact Z))|rw[em]|(apply Zb (hB);kernel_rfl;(iterate 4 exact Z))|(apply Zb (hS);kernel_rfl;(iterate 4 exact Z))|(apply Zb (hZ);kernel_rfl;(iterate 4 exact Z))|(apply Zg Za;exact Z)|(apply Zh Za;exact Z)|(apply Zs Za;exact Z)|refine Zd Z Z Z Qt ?_|refine Zi Z Qt Z Z ?_|refine Ze Z Qt ?_|refine Zf Z Qt ?_|refine Zn Za Z Z Z Z ?_|(apply Zm 17 ZG;decide +kernel;kernel_rfl;kernel_rfl;kernel_rfl;exact Z;exact Z)|(apply Zq;(iterate 4 exact Z))|exact AE.nil _ _ _ _|(apply Zv;exact Z)|(apply ZA;exact Z;exact Z;decide +kernel;exact Z)|(apply ZB;exact Z)|exact AO.nil _ _ _|(apply Zp;(decide +kernel))|exact AOs.nil|exact ZJ rfl rfl|(apply Zw Za;(iterate 6 exact Z);(first|exact Qt|rotate_left);(first|with_reducible assumption|decide +kernel|exact Z);(first|exact Zk rfl|with_reducible assumption|decide +kernel|rotate_left)))
   all_goals exact Qe
  | false=>
  dsimp only
  have hne:l.take m ≠ []:=by
   intro h
   have h9:=congrArg List.length h
   rw[List.length_take,List.length_nil]at h9
   have:=of_decide_eq_false t1
   omega
  have htl:(l.take m).length<=1000000:=by rw[List.length_take];omega
  have hSu:=Gd (l.take m) s hs hne (Ko m hws) htl (hlim s m hs)
  have eT:Zu (l.take m)=(Zu l).take m:=by rw[Yi,Yi,List.map_take]
  have hmle:((m:Nat):Int).toNat<=(Zu l).length:=by rw[Int.toNat_natCast];omega
  rw[eT]at hSu
  cases hz:ZS (Yh s (l.take m)) with
  | false=>
   rw[hz]at hSu
   dsimp only at hSu
   refine AP.ofA (Zl Tryz.func171 Z Tryz.ntmps171 Z Z ?_)
   repeat'(first|(apply Zb (hR);kernel_rfl;(iterate 4 exact Z))|(apply Zb (hT);kernel_rfl;(iterate 4 exact Z))|rw[em]|(apply Zb (hB);kernel_rfl;(iterate 4 exact Z))|(apply Zb (hS);kernel_rfl;(iterate 4 exact Z))|(apply Zb (hZ);kernel_rfl;(iterate 4 exact Z))|(apply Zb (hSu);kernel_rfl;(iterate 4 exact Z))|refine Jq Za Z Z Z Z Z Z hU (Int.natCast_nonneg _) hmle Z ?_|(apply Zg Za;exact Z)|(apply Zh Za;exact Z)|(apply Zs Za;exact Z)|refine Zd Z Z Z Qt ?_|refine Zi Z Qt Z Z ?_|refine Ze Z Qt ?_|refine Zf Z Qt ?_|refine Zn Za Z Z Z Z ?_|(apply Zm 17 ZG;decide +kernel;kernel_rfl;kernel_rfl;kernel_rfl;exact Z;exact Z)|(apply Zq;(iterate 4 exact Z))|exact AE.nil _ _ _ _|(apply Zv;exact Z)|(apply ZA;exact Z;exact Z;decide +kernel;exact Z)|(apply ZB;exact Z)|exact AO.nil _ _ _|(apply Zp;(decide +kernel))|exact AOs.nil|exact ZJ rfl rfl|(apply Zw Za;(iterate 6 exact Z);(first|exact Qt|rotate_left);(first|with_reducible assumption|decide +kernel|exact Z);(first|exact Zk rfl|with_reducible assumption|decide +kernel|rotate_left)))
   all_goals exact Qe
  | true=>
  rw[hz]at hSu
  dsimp only at hSu ⊢
  generalize U2 s (ZU (Yh s (l.take m)))=SB at *
  have hE:=Q4 SB b1
  cases t4:(SB==b1) with
  | false=>
   rw[t4]at hE
   refine AP.ofA (Zl Tryz.func171 Z Tryz.ntmps171 Z Z ?_)
   repeat'(first|(apply Zb (hR);kernel_rfl;(iterate 4 exact Z))|(apply Zb (hT);kernel_rfl;(iterate 4 exact Z))|rw[em]|(apply Zb (hB);kernel_rfl;(iterate 4 exact Z))|(apply Zb (hS);kernel_rfl;(iterate 4 exact Z))|(apply Zb (hZ);kernel_rfl;(iterate 4 exact Z))|(apply Zb (hSu);kernel_rfl;(iterate 4 exact Z))|(apply Zb (hE);kernel_rfl;(iterate 4 exact Z))|refine Jq Za Z Z Z Z Z Z hU (Int.natCast_nonneg _) hmle Z ?_|(apply Zg Za;exact Z)|(apply Zh Za;exact Z)|(apply Zs Za;exact Z)|refine Zd Z Z Z Qt ?_|refine Zi Z Qt Z Z ?_|refine Ze Z Qt ?_|refine Zf Z Qt ?_|refine Zn Za Z Z Z Z ?_|(apply Zm 17 ZG;decide +kernel;kernel_rfl;kernel_rfl;kernel_rfl;exact Z;exact Z)|(apply Zq;(iterate 4 exact Z))|exact AE.nil _ _ _ _|(apply Zv;exact Z)|(apply ZA;exact Z;exact Z;decide +kernel;exact Z)|(apply ZB;exact Z)|exact AO.nil _ _ _|(apply Zp;(decide +kernel))|exact AOs.nil|exact ZJ rfl rfl|(apply Zw Za;(iterate 6 exact Z);(first|exact Qt|rotate_left);(first|with_reducible assumption|decide +kernel|exact Z);(first|exact Zk rfl|with_reducible assumption|decide +kernel|rotate_left)))
   all_goals exact Qe
  | true=>
   rw[t4]at hE
   have hL:=W4 (l.take m) (by omega) (Ko m hws)
   rw[eT]at hL
   replace hL:AP Tryz.prog 174 [.sl .ext ((Zu l).take m)] (.agg [.int .i64 4,.int .u64 0,.sl .ext [],.sl .ext (Zu (l.take m))]) []:=hL
   refine AP.ofA (Zl Tryz.func171 Z Tryz.ntmps171 Z Z ?_)
   repeat'(first|(apply Zb (hR);kernel_rfl;(iterate 4 exact Z))|(apply Zb (hT);kernel_rfl;(iterate 4 exact Z))|rw[em]|(apply Zb (hB);kernel_rfl;(iterate 4 exact Z))|(apply Zb (hS);kernel_rfl;(iterate 4 exact Z))|(apply Zb (hZ);kernel_rfl;(iterate 4 exact Z))|(apply Zb (hSu);kernel_rfl;(iterate 4 exact Z))|(apply Zb (hE);kernel_rfl;(iterate 4 exact Z))|(apply Zb (hL);kernel_rfl;(iterate 4 exact Z))|refine Jq Za Z Z Z Z Z Z hU (Int.natCast_nonneg _) hmle Z ?_|(apply Zg Za;exact Z)|(apply Zh Za;exact Z)|(apply Zs Za;exact Z)|refine Zd Z Z Z Qt ?_|refine Zi Z Qt Z Z ?_|refine Zf Z Qt ?_|refine Zn Za Z Z Z Z ?_|(apply Zm 17 ZG;decide +kernel;kernel_rfl;kernel_rfl;kernel_rfl;exact Z;exact Z)|(apply Zq;(iterate 4 exact Z))|exact AE.nil _ _ _ _|(apply Zv;exact Z)|(apply ZA;exact Z;exact Z;decide +kernel;exact Z)|(apply ZB;exact Z)|exact AO.nil _ _ _|(apply Zp;(decide +kernel))|exact AOs.nil|exact ZJ rfl rfl|(apply Zw Za;(iterate 6 exact Z);(first|exact Qt|rotate_left);(first|with_reducible assumption|decide +kernel|exact Z);(first|exact Zk rfl|with_reducible assumption|decide +kernel|rotate_left)))
   all_goals exact Qe
end Go.Proofs.YtchlgagdbflkmaaGreatDoor
end
