/- Package eid: an item's numbers; an item's name. -/
import Derived.Test.YtmljabhmajehnaaGreatDoorR23
import Derived.Test.YtmljabhmajehnaaGreatDoorR13
import Derived.Test.YtmljabhmajehnaaGreatDoorR16
import Derived.Test.YtmljabhmajehnaaGreatDoorR21
import Derived.Test.YtmljabhmajehnaaGreatDoorR22
import Derived.Test.YtmljabhmajehnaaGreatDoorR20
import Derived.Test.YtmljabhmajehnaaGreatDoorR14
set_option linter.unusedVariables false
set_option linter.unusedSimpArgs false
section
open Go.RowKit Go.Pl Go.Av
namespace Go.Proofs.YtmljabhmajehnaaGreatDoor
set_option maxHeartbeats 4000000
def WY (m:Nat)(x:It):Bool:=It.beq x (.mk 0 m [] [])
def UP:It->Option (Nat × Nat)
 | .mk k _ _ [y0,y1]=>if k=4 then(match WY y0.n y0&&WY y1.n y1 with|true=>some (y0.n,y1.n)|false=>none) else none
 | _=>none
def Dt:Option (Nat × Nat)->D
 | some (a,b)=>.tup [.sl .ext [.int .u64 (a:Int),.int .u64 (b:Int)],.bool true]
 | none=>.tup [.sl .ext [],.bool false]
theorem Uh [Known](x:It)(hw:wfI x)(m:Nat)(hm:m<18446744073709551616):AP Tryz.prog 96 [itD x,.agg [.int .i64 0,.int .u64 (m:Int),.sl .ext [],.sl .ext []]] (.bool (WY m x)) []:=
 J7 x hw (.mk 0 m [] []) (by simp[wfI,wfs];omega)
theorem Qj [Known](n:Nat):AP Tryz.prog 65 [.int .u64 (n:Int)] (.agg [.int .i64 0,.int .u64 (n:Int),.sl .ext [],.sl .ext []]) []:=YT n
theorem Sj [Known](x:It)(hw:wfI x):AP Tryz.prog 148 [itD x,.int .i64 2] (Dt (UP x)) []:=by
 obtain⟨k,n,b,l⟩:=x
 obtain⟨_,_,_,hws⟩:=hw
 by_cases hk:k=4
 case neg=>
  have t1:(k != 4)=true:=by simpa using hk
  have e:UP (.mk k n b l)=none:=by unfold UP;split<;>simp_all
  rw[e]
  refine AP.ofA (Zl Tryz.func148 U Tryz.ntmps148 U U ?_)
  repeat'(first|(apply Zi Za;exact U)|(apply Zg Za;exact U)|(apply Zp Za;exact U)|refine Zm U U U Qt ?_|refine Zj U Qt U U ?_|refine Zd U Qt ?_)
  all_goals exact Qe
 subst hk
 have t1:((4:Int) != 4)=false:=rfl
 by_cases hl:l.length=2
 case neg=>
  have t2:(((Zv l).length:Int) != 2)=true:=by rw[Zw];simp;omega
  have e:UP (.mk 4 n b l)=none:=by unfold UP;split<;>simp_all
  rw[e]
  refine AP.ofA (Zl Tryz.func148 U Tryz.ntmps148 U U ?_)
  repeat'(first|(apply Zi Za;exact U)|(apply Zg Za;exact U)|(apply Zp Za;exact U)|refine Ze U U U Qt ?_|refine Zh U Qt U U ?_|refine Zd U Qt ?_|refine Zn Za U U U U ?_)
  all_goals exact Qe
 match l,hl with
 | [⟨k0,n0,b0,l0⟩,⟨k1,n1,b1,l1⟩],_=>
  have hU:=YE [It.mk k0 n0 b0 l0,It.mk k1 n1 b1 l1]
  obtain⟨hw0,hw1,_⟩:=hws
  have m0:n0<18446744073709551616:=hw0.1
  have m1:n1<18446744073709551616:=hw1.1
  have h0:=Uh _ hw0 n0 m0
  have h1:=Uh _ hw1 n1 m1
  have a0:=Qj n0
  have a1:=Qj n1
  unfold UP
  simp only[It.n,if_true]
  have t2:(((Zv [It.mk k0 n0 b0 l0,It.mk k1 n1 b1 l1]).length:Int) != 2)=false:=rfl
  have t3:decide ((0:Int)<((Zv [It.mk k0 n0 b0 l0,It.mk k1 n1 b1 l1]).length:Int))=true:=rfl
  have t4:decide ((IntKind.i64.wrap (0+1):Int)<((Zv [It.mk k0 n0 b0 l0,It.mk k1 n1 b1 l1]).length:Int))=true:=rfl
  have t5:decide ((IntKind.i64.wrap (IntKind.i64.wrap (0+1)+1):Int)<((Zv [It.mk k0 n0 b0 l0,It.mk k1 n1 b1 l1]).length:Int))=false:=rfl
  have hv0:(Zv [It.mk k0 n0 b0 l0,It.mk k1 n1 b1 l1])[Int.toNat 0]?=some (.agg [.int .i64 k0,.int .u64 (n0:Int),.sl (b0.map E.byte),.sl (Zv l0)]):=rfl
  cases c0:WY n0 (.mk k0 n0 b0 l0) with
  | false=>
   rw[c0]at h0
   refine AP.ofA (Zl Tryz.func148 U Tryz.ntmps148 U U ?_)
   repeat'(first|(apply Zb (h0);kernel_rfl;(iterate 4 exact U))|(apply Zb (a0);kernel_rfl;(iterate 4 exact U))|refine Yu 70 ?_|refine YI ?_|(apply Zi Za;exact U)|(apply Zg Za;exact U)|(apply Zp Za;exact U)|refine Ze U U U Qt ?_|refine Zh U Qt U U ?_|refine Zd U Qt ?_|refine Zf U Qt ?_|refine Yf ?_|refine Zn Za U U U U ?_|(apply Zo 4 ZB;decide +kernel;kernel_rfl;kernel_rfl;kernel_rfl;exact U;exact U)|(apply Zs;(iterate 4 exact U))|exact AE.nil _ _ _ _|(apply Zx;exact U)|(apply Zz;exact U;exact U;decide +kernel;exact U)|(apply ZA;exact U)|exact AO.nil _ _ _|(apply Zr;(decide +kernel))|exact AOs.nil|exact ZF rfl rfl|(apply Zu Za;(iterate 6 exact U);(first|exact Qt|rotate_left);(first|with_reducible assumption|decide +kernel|exact U);(first|exact Zk rfl|with_reducible assumption|decide +kernel|rotate_left)))
   all_goals exact Qe
  | true=>
   rw[c0]at h0
   cases c1:WY n1 (.mk k1 n1 b1 l1) with
   | false=>
    rw[c1]at h1
    refine AP.ofA (Zl Tryz.func148 U Tryz.ntmps148 U U ?_)
    repeat'(first|(apply Zb (h0);kernel_rfl;(iterate 4 exact U))|(apply Zb (a0);kernel_rfl;(iterate 4 exact U))|(apply Zb (h1);kernel_rfl;(iterate 4 exact U))|(apply Zb (a1);kernel_rfl;(iterate 4 exact U))|refine Yu 70 ?_|refine YI ?_|refine Z7 Za U U U U U U (Zk rfl) (List.cons_ne_nil _ _) U Qd Qd U U U ?_|(apply Zi Za;exact U)|(apply Zg Za;exact U)|(apply Zp Za;exact U)|refine Ze U U U Qt ?_|refine Zh U Qt U U ?_|refine Zd U Qt ?_|refine Zf U Qt ?_|refine Yf ?_|refine Zn Za U U U U ?_|refine ZM Za U U U U U U U U U U U U ?_|(apply Zo 4 ZB;decide +kernel;kernel_rfl;kernel_rfl;kernel_rfl;exact U;exact U)|(apply Zs;(iterate 4 exact U))|exact AE.nil _ _ _ _|(apply Zx;exact U)|(apply Zz;exact U;exact U;decide +kernel;exact U)|(apply ZA;exact U)|exact AO.nil _ _ _|(apply Zr;(decide +kernel))|exact AOs.nil|exact ZF rfl rfl|(apply Zu Za;(iterate 6 exact U);(first|exact Qt|rotate_left);(first|with_reducible assumption|decide +kernel|exact U);(first|exact Zk rfl|with_reducible assumption|decide +kernel|rotate_left)))
    all_goals exact Qe
   | true=>
    rw[c1]at h1
    refine AP.ofA (Zl Tryz.func148 U Tryz.ntmps148 U U ?_)
    repeat'(first|(apply Zb (h0);kernel_rfl;(iterate 4 exact U))|(apply Zb (a0);kernel_rfl;(iterate 4 exact U))|(apply Zb (h1);kernel_rfl;(iterate 4 exact U))|(apply Zb (a1);kernel_rfl;(iterate 4 exact U))|refine Yu 70 ?_|refine YI ?_|refine Wu Za U U U U U U U U U U U (Zk rfl) (Zk rfl) (List.cons_ne_nil _ _) Qd Qd U U ?_|refine Z7 Za U U U U U U (Zk rfl) (List.cons_ne_nil _ _) U Qd Qd U U U ?_|(apply Zi Za;exact U)|(apply Zg Za;exact U)|(apply Zp Za;exact U)|refine Ze U U U Qt ?_|refine Zh U Qt U U ?_|refine Zd U Qt ?_|refine Zf U Qt ?_|refine Zn Za U U U U ?_|refine ZM Za U U U U U U U U U U U U ?_|(apply Zo 4 ZB;decide +kernel;kernel_rfl;kernel_rfl;kernel_rfl;exact U;exact U)|(apply Zs;(iterate 4 exact U))|exact AE.nil _ _ _ _|(apply Zx;exact U)|(apply Zz;exact U;exact U;decide +kernel;exact U)|(apply ZA;exact U)|exact AO.nil _ _ _|(apply Zr;(decide +kernel))|exact AOs.nil|exact ZF rfl rfl|(apply Zu Za;(iterate 6 exact U);(first|exact Qt|rotate_left);(first|with_reducible assumption|decide +kernel|exact U);(first|exact Zk rfl|with_reducible assumption|decide +kernel|rotate_left)))
    all_goals exact Qe
def Ql (s r:It):EidV × Bool:=
 match WY 1 s with
 | true=>(match WY 0 r with
  | true=>(Yi,true)
  | false=>(match r.k==3 with
   | true=>ppV r.b
   | false=>(Yi,false)))
 | false=>(match WY 2 s with
  | true=>(match UP r with
   | some (a,c)=>(⟨true,a,c,[],[]⟩,ZQ ⟨true,a,c,[],[]⟩)
   | none=>(Yi,false))
  | false=>(Yi,false))
def ZS (x:It):EidV × Bool:=match ZC x,x with
 | true,.mk k _ _ [s,r]=>if k=4 then Ql s r else(Yi,false)
 | _,_=>(Yi,false)
abbrev Tf (x:EidV × Bool):D:=.tup [.agg (eC (match x.2 with|true=>x.1|false=>Yi)),.int .i64 (match x.2 with|true=>0|false=>3)]
theorem KP [Known][KnownU8](x:It)(hw:wfI x)(h:ZC x=false\/x.k ≠ 4\/x.l.length ≠ 2):AP Tryz.prog 112 [itD x] (Tf (Yi,false)) []:=by
 have hR:=WU x hw
 show AP Tryz.prog _ _ (.tup [.agg [.bool false,.int .u64 0,.int .u64 0,.str [],.str []],.int .i64 3]) []
 cases hr:ZC x with
 | false=>
  rw[hr]at hR
  obtain⟨k,n,b,l⟩:=x
  refine AP.ofA (Zl Tryz.func112 U Tryz.ntmps112 U U ?_)
  repeat'(first|(apply Zb (hR);kernel_rfl;(iterate 4 exact U))|(apply Zi Za;exact U)|(apply Zg Za;exact U)|(apply Zp Za;exact U)|refine Zm U U U Qt ?_|refine Zj U Qt U U ?_|refine Zd U Qt ?_)
  all_goals exact Qe
 | true=>
  rw[hr]at hR h
  obtain⟨k,n,b,l⟩:=x
  simp only[It.k,It.l]at h
  by_cases hk:k=4
  ·have t1:(k != 4)=false:=by simpa using hk
   have hl:l.length ≠ 2:=by
    rcases h with h|h|h
    ·cases h
    ·exact absurd hk h
    ·exact h
   have t2:(((Zv l).length:Int) != 2)=true:=by rw[Zw];simp;omega
   refine AP.ofA (Zl Tryz.func112 U Tryz.ntmps112 U U ?_)
   repeat'(first|(apply Zb (hR);kernel_rfl;(iterate 4 exact U))|(apply Zi Za;exact U)|(apply Zg Za;exact U)|(apply Zp Za;exact U)|refine Ze U U U Qt ?_|refine Zh U Qt U U ?_|refine Zd U Qt ?_|refine Zn Za U U U U ?_)
   all_goals exact Qe
  ·have t1:(k != 4)=true:=by simpa using hk
   refine AP.ofA (Zl Tryz.func112 U Tryz.ntmps112 U U ?_)
   repeat'(first|(apply Zb (hR);kernel_rfl;(iterate 4 exact U))|(apply Zi Za;exact U)|(apply Zg Za;exact U)|(apply Zp Za;exact U)|refine Ze U U U Qt ?_|refine Zm U U U Qt ?_|refine Zj U Qt U U ?_|refine Zh U Qt U U ?_|refine Zd U Qt ?_)
   all_goals exact Qe
theorem Bx [Known][KnownU8](n:Nat)(b:List UInt8)(s r:It)(hw:wfI (.mk 4 n b [s,r]))(hr:ZC (.mk 4 n b [s,r])=true)(h1:WY 1 s=true):AP Tryz.prog 112 [itD (.mk 4 n b [s,r])] (Tf (Ql s r)) []:=by
 have hR:=WU _ hw
 rw[hr]at hR
 obtain⟨_,_,_,hws,hwr,_⟩:=hw
 have e1:s=.mk 0 1 [] []:=It.beq_iff.1 h1
 have hS1:=Uh s hws 1 (by omega)
 have hS2:=Uh s hws 2 (by omega)
 have hR0:=Uh r hwr 0 (by omega)
 have n0:=Qj 0
 have n1:=Qj 1
 have n2:=Qj 2
 replace n0:AP Tryz.prog _ [.int .u64 0] (.agg [.int .i64 0,.int .u64 0,.sl .ext [],.sl .ext []]) []:=n0
 replace n1:AP Tryz.prog _ [.int .u64 1] (.agg [.int .i64 0,.int .u64 1,.sl .ext [],.sl .ext []]) []:=n1
 replace n2:AP Tryz.prog _ [.int .u64 2] (.agg [.int .i64 0,.int .u64 2,.sl .ext [],.sl .ext []]) []:=n2
 have h2:WY 2 s=false:=by rw[e1];rfl
 rw[h1]at hS1
 rw[h2]at hS2
 have hU:=YE [s,r]
 unfold Ql
 rw[h1]
 dsimp only
 have hbl:r.b.length<=140737488351232:=by obtain⟨kr,nr,br,lr⟩:=r;exact hwr.2.1
 have hP:=Ds r.b hbl
 obtain⟨ks,ns,bs,ls⟩:=s
 obtain⟨kr,nr,br,lr⟩:=r
 simp only[It.b,It.k]at hP ⊢
 have t2:(((Zv [It.mk ks ns bs ls,It.mk kr nr br lr]).length:Int) != 2)=false:=rfl
 cases h0:WY 0 (.mk kr nr br lr) with
 | true=>
  rw[h0]at hR0
  show AP Tryz.prog _ _ (.tup [.agg [.bool false,.int .u64 0,.int .u64 0,.str [],.str []],.int .i64 0]) []
  refine AP.ofA (Zl Tryz.func112 U Tryz.ntmps112 U U ?_)
  repeat'(first|(apply UO 11 Za ZB;decide +kernel;kernel_rfl;kernel_rfl;kernel_rfl;exact U;exact U)|exact AV.nil _ _|(apply O2;exact U;exact U)|(apply O3;(iterate 4 exact U))|(apply O1;(iterate 4 exact U))|refine Xy U U U U ?_|(apply Zb (hR);kernel_rfl;(iterate 4 exact U))|(apply Zb (hS1);kernel_rfl;(iterate 4 exact U))|(apply Zb (hR0);kernel_rfl;(iterate 4 exact U))|(apply Zb (n0);kernel_rfl;(iterate 4 exact U))|(apply Zb (n1);kernel_rfl;(iterate 4 exact U))|(apply Zi Za;exact U)|(apply Zg Za;exact U)|(apply Zp Za;exact U)|refine Ze U U U Qt ?_|refine Zj U Qt U U ?_|refine Zh U Qt U U ?_|refine Zd U Qt ?_|refine Zf U Qt ?_|refine Zn Za U U U U ?_|(apply Zo 6 ZB;decide +kernel;kernel_rfl;kernel_rfl;kernel_rfl;exact U;exact U)|(apply Zs;(iterate 4 exact U))|exact AE.nil _ _ _ _|(apply Zx;exact U)|(apply Zz;exact U;exact U;decide +kernel;exact U)|(apply ZA;exact U)|exact AO.nil _ _ _|(apply Zr;(decide +kernel))|exact AOs.nil|exact ZF rfl rfl|(apply Zu Za;(iterate 6 exact U);(first|exact Qt|rotate_left);(first|with_reducible assumption|decide +kernel|exact U);(first|exact Zk rfl|with_reducible assumption|decide +kernel|rotate_left)))
  all_goals exact Qe
 | false=>
  rw[h0]at hR0
  generalize ppV br=xp at *
  obtain⟨⟨qi,qn,qs,qh,qd⟩,qb⟩:=xp
  replace hP:AP Tryz.prog _ [.str br] (.tup [.agg [.bool qi,.int .u64 (qn:Int),.int .u64 (qs:Int),.str qh,.str qd],.bool qb]) []:=hP
  cases hk:kr==3 with
  | true=>
   cases qb
   all_goals
    refine AP.ofA (Zl Tryz.func112 U Tryz.ntmps112 U U ?_)
    repeat'(first|(apply UO 11 Za ZB;decide +kernel;kernel_rfl;kernel_rfl;kernel_rfl;exact U;exact U)|exact AV.nil _ _|(apply O2;exact U;exact U)|(apply O3;(iterate 4 exact U))|(apply O1;(iterate 4 exact U))|refine Xy U U U U ?_|(apply Zb (hR);kernel_rfl;(iterate 4 exact U))|(apply Zb (hS1);kernel_rfl;(iterate 4 exact U))|(apply Zb (hR0);kernel_rfl;(iterate 4 exact U))|(apply Zb (n0);kernel_rfl;(iterate 4 exact U))|(apply Zb (n1);kernel_rfl;(iterate 4 exact U))|(apply Zb (hP);kernel_rfl;(iterate 4 exact U))|(apply Zi Za;exact U)|(apply Zg Za;exact U)|(apply Zp Za;exact U)|refine Ze U U U Qt ?_|refine Zj U Qt U U ?_|refine Zh U Qt U U ?_|refine Zd U Qt ?_|refine Zf U Qt ?_|refine Zn Za U U U U ?_|(apply Zo 2 ZB;decide +kernel;kernel_rfl;kernel_rfl;kernel_rfl;exact U;exact U)|(apply Zo 6 ZB;decide +kernel;kernel_rfl;kernel_rfl;kernel_rfl;exact U;exact U)|(apply Zs;(iterate 4 exact U))|exact AE.nil _ _ _ _|(apply Zx;exact U)|(apply Zz;exact U;exact U;decide +kernel;exact U)|(apply ZA;exact U)|exact AO.nil _ _ _|(apply Zr;(decide +kernel))|exact AOs.nil|exact ZF rfl rfl|(apply Zu Za;(iterate 6 exact U);(first|exact Qt|rotate_left);(first|with_reducible assumption|decide +kernel|exact U);(first|exact Zk rfl|with_reducible assumption|decide +kernel|rotate_left))|refine Vf Za U U U U U U U U U ?_)
    all_goals exact Qe
  | false=>
   refine AP.ofA (Zl Tryz.func112 U Tryz.ntmps112 U U ?_)
   repeat'(first|(apply UO 11 Za ZB;decide +kernel;kernel_rfl;kernel_rfl;kernel_rfl;exact U;exact U)|exact AV.nil _ _|(apply O2;exact U;exact U)|(apply O3;(iterate 4 exact U))|(apply O1;(iterate 4 exact U))|refine Xy U U U U ?_|(apply Zb (hR);kernel_rfl;(iterate 4 exact U))|(apply Zb (hS1);kernel_rfl;(iterate 4 exact U))|(apply Zb (hS2);kernel_rfl;(iterate 4 exact U))|(apply Zb (hR0);kernel_rfl;(iterate 4 exact U))|(apply Zb (n0);kernel_rfl;(iterate 4 exact U))|(apply Zb (n1);kernel_rfl;(iterate 4 exact U))|(apply Zb (n2);kernel_rfl;(iterate 4 exact U))|(apply Zi Za;exact U)|(apply Zg Za;exact U)|(apply Zp Za;exact U)|refine Ze U U U Qt ?_|refine Zj U Qt U U ?_|refine Zh U Qt U U ?_|refine Zd U Qt ?_|refine Zf U Qt ?_|refine Zn Za U U U U ?_|(apply Zo 2 ZB;decide +kernel;kernel_rfl;kernel_rfl;kernel_rfl;exact U;exact U)|(apply Zo 6 ZB;decide +kernel;kernel_rfl;kernel_rfl;kernel_rfl;exact U;exact U)|(apply Zs;(iterate 4 exact U))|exact AE.nil _ _ _ _|(apply Zx;exact U)|(apply Zz;exact U;exact U;decide +kernel;exact U)|(apply ZA;exact U)|exact AO.nil _ _ _|(apply Zr;(decide +kernel))|exact AOs.nil|exact ZF rfl rfl|(apply Zu Za;(iterate 6 exact U);(first|exact Qt|rotate_left);(first|with_reducible assumption|decide +kernel|exact U);(first|exact Zk rfl|with_reducible assumption|decide +kernel|rotate_left)))
   all_goals exact Qe
theorem Bz [Known][KnownU8](n:Nat)(b:List UInt8)(s r:It)(hw:wfI (.mk 4 n b [s,r]))(hr:ZC (.mk 4 n b [s,r])=true)(h1:WY 1 s=false):AP Tryz.prog 112 [itD (.mk 4 n b [s,r])] (Tf (Ql s r)) []:=by
 have hR:=WU _ hw
 rw[hr]at hR
 obtain⟨_,_,_,hws,hwr,_⟩:=hw
 have hS1:=Uh s hws 1 (by omega)
 have hS2:=Uh s hws 2 (by omega)
 have hN:=Sj r hwr
 have n1:=Qj 1
 have n2:=Qj 2
 replace n1:AP Tryz.prog _ [.int .u64 1] (.agg [.int .i64 0,.int .u64 1,.sl .ext [],.sl .ext []]) []:=n1
 replace n2:AP Tryz.prog _ [.int .u64 2] (.agg [.int .i64 0,.int .u64 2,.sl .ext [],.sl .ext []]) []:=n2
 rw[h1]at hS1
 have hU:=YE [s,r]
 unfold Ql
 rw[h1]
 dsimp only
 obtain⟨ks,ns,bs,ls⟩:=s
 obtain⟨kr,nr,br,lr⟩:=r
 have t2:(((Zv [It.mk ks ns bs ls,It.mk kr nr br lr]).length:Int) != 2)=false:=rfl
 cases h2:WY 2 (.mk ks ns bs ls) with
 | false=>
  rw[h2]at hS2
  show AP Tryz.prog _ _ (.tup [.agg [.bool false,.int .u64 0,.int .u64 0,.str [],.str []],.int .i64 3]) []
  refine AP.ofA (Zl Tryz.func112 U Tryz.ntmps112 U U ?_)
  repeat'(first|(apply UO 11 Za ZB;decide +kernel;kernel_rfl;kernel_rfl;kernel_rfl;exact U;exact U)|exact AV.nil _ _|(apply O2;exact U;exact U)|(apply O3;(iterate 4 exact U))|(apply O1;(iterate 4 exact U))|refine Xy U U U U ?_|(apply Zb (hR);kernel_rfl;(iterate 4 exact U))|(apply Zb (hS1);kernel_rfl;(iterate 4 exact U))|(apply Zb (hS2);kernel_rfl;(iterate 4 exact U))|(apply Zb (n1);kernel_rfl;(iterate 4 exact U))|(apply Zb (n2);kernel_rfl;(iterate 4 exact U))|(apply Zi Za;exact U)|(apply Zg Za;exact U)|(apply Zp Za;exact U)|refine Ze U U U Qt ?_|refine Zt U U U Qt ?_|refine Zh U Qt U U ?_|refine Zd U Qt ?_|refine Zf U Qt ?_|refine Zn Za U U U U ?_|(apply Zo 2 ZB;decide +kernel;kernel_rfl;kernel_rfl;kernel_rfl;exact U;exact U)|(apply Zo 6 ZB;decide +kernel;kernel_rfl;kernel_rfl;kernel_rfl;exact U;exact U)|(apply Zs;(iterate 4 exact U))|exact AE.nil _ _ _ _|(apply Zx;exact U)|(apply Zz;exact U;exact U;decide +kernel;exact U)|(apply ZA;exact U)|exact AO.nil _ _ _|(apply Zr;(decide +kernel))|exact AOs.nil|exact ZF rfl rfl|(apply Zu Za;(iterate 6 exact U);(first|exact Qt|rotate_left);(first|with_reducible assumption|decide +kernel|exact U);(first|exact Zk rfl|with_reducible assumption|decide +kernel|rotate_left)))
  all_goals exact Qe
 | true=>
  rw[h2]at hS2
  dsimp only
  cases hq:UP (.mk kr nr br lr) with
  | none=>
   rw[hq]at hN
   replace hN:AP Tryz.prog _ _ (.tup [.sl .ext [],.bool false]) []:=hN
   show AP Tryz.prog _ _ (.tup [.agg [.bool false,.int .u64 0,.int .u64 0,.str [],.str []],.int .i64 3]) []
   refine AP.ofA (Zl Tryz.func112 U Tryz.ntmps112 U U ?_)
   repeat'(first|(apply UO 11 Za ZB;decide +kernel;kernel_rfl;kernel_rfl;kernel_rfl;exact U;exact U)|exact AV.nil _ _|(apply O2;exact U;exact U)|(apply O3;(iterate 4 exact U))|(apply O1;(iterate 4 exact U))|refine Xy U U U U ?_|(apply Zb (hR);kernel_rfl;(iterate 4 exact U))|(apply Zb (hS1);kernel_rfl;(iterate 4 exact U))|(apply Zb (hS2);kernel_rfl;(iterate 4 exact U))|(apply Zb (n1);kernel_rfl;(iterate 4 exact U))|(apply Zb (n2);kernel_rfl;(iterate 4 exact U))|(apply Zb (hN);kernel_rfl;(iterate 4 exact U))|(apply Zi Za;exact U)|(apply Zg Za;exact U)|(apply Zp Za;exact U)|refine Ze U U U Qt ?_|refine Zt U U U Qt ?_|refine Zh U Qt U U ?_|refine Zd U Qt ?_|refine Zf U Qt ?_|refine Zn Za U U U U ?_|(apply Zo 2 ZB;decide +kernel;kernel_rfl;kernel_rfl;kernel_rfl;exact U;exact U)|(apply Zo 6 ZB;decide +kernel;kernel_rfl;kernel_rfl;kernel_rfl;exact U;exact U)|(apply Zs;(iterate 4 exact U))|exact AE.nil _ _ _ _|(apply Zx;exact U)|(apply Zz;exact U;exact U;decide +kernel;exact U)|(apply ZA;exact U)|exact AO.nil _ _ _|(apply Zr;(decide +kernel))|exact AOs.nil|exact ZF rfl rfl|(apply Zu Za;(iterate 6 exact U);(first|exact Qt|rotate_left);(first|with_reducible assumption|decide +kernel|exact U);(first|exact Zk rfl|with_reducible assumption|decide +kernel|rotate_left)))
   all_goals exact Qe
  | some ac=>
   obtain⟨a,c⟩:=ac
   rw[hq]at hN
   replace hN:AP Tryz.prog _ _ (.tup [.sl .ext [.int .u64 (a:Int),.int .u64 (c:Int)],.bool true]) []:=hN
   have hE:=V6 ⟨true,a,c,[],[]⟩
   dsimp only
   generalize ZQ ⟨true,a,c,[],[]⟩=R at *
   replace hE:AP Tryz.prog _ [.agg [.bool true,.int .u64 (a:Int),.int .u64 (c:Int),.str [],.str []]] (.bool R) []:=hE
   cases R
   all_goals
    refine AP.ofA (Zl Tryz.func112 U Tryz.ntmps112 U U ?_)
    repeat'(first|(apply UO 11 Za ZB;decide +kernel;kernel_rfl;kernel_rfl;kernel_rfl;exact U;exact U)|exact AV.nil _ _|(apply O2;exact U;exact U)|(apply O3;(iterate 4 exact U))|(apply O1;(iterate 4 exact U))|refine Xy U U U U ?_|(apply Zb (hR);kernel_rfl;(iterate 4 exact U))|(apply Zb (hS1);kernel_rfl;(iterate 4 exact U))|(apply Zb (hS2);kernel_rfl;(iterate 4 exact U))|(apply Zb (n1);kernel_rfl;(iterate 4 exact U))|(apply Zb (n2);kernel_rfl;(iterate 4 exact U))|(apply Zb (hN);kernel_rfl;(iterate 4 exact U))|(apply Zb (hE);kernel_rfl;(iterate 4 exact U))|(apply Zi Za;exact U)|(apply Zg Za;exact U)|(apply Zp Za;exact U)|refine Ze U U U Qt ?_|refine Zt U U U Qt ?_|refine Zh U Qt U U ?_|refine Zd U Qt ?_|refine Zf U Qt ?_|refine Zn Za U U U U ?_|(apply Zo 2 ZB;decide +kernel;kernel_rfl;kernel_rfl;kernel_rfl;exact U;exact U)|(apply Zo 6 ZB;decide +kernel;kernel_rfl;kernel_rfl;kernel_rfl;exact U;exact U)|(apply Zs;(iterate 4 exact U))|exact AE.nil _ _ _ _|(apply Zx;exact U)|(apply Zz;exact U;exact U;decide +kernel;exact U)|(apply ZA;exact U)|exact AO.nil _ _ _|(apply Zr;(decide +kernel))|exact AOs.nil|exact ZF rfl rfl|(apply Zu Za;(iterate 6 exact U);(first|exact Qt|rotate_left);(first|with_reducible assumption|decide +kernel|exact U);(first|exact Zk rfl|with_reducible assumption|decide +kernel|rotate_left)))
    all_goals exact Qe
theorem GZ [Known][KnownU8](x:It)(hw:wfI x):AP Tryz.prog 112 [itD x] (Tf (ZS x)) []:=by
 cases hr:ZC x with
 | false=>
  have e:ZS x=(Yi,false):=by unfold ZS;rw[hr]
  rw[e]
  exact KP x hw (.inl hr)
 | true=>
  obtain⟨k,n,b,l⟩:=x
  by_cases hk:k=4
  ·subst hk
   match l,hw,hr with
   | [s,r],hw,hr=>
    have e:ZS (.mk 4 n b [s,r])=Ql s r:=by unfold ZS;rw[hr];dsimp only;rw[if_pos rfl]
    rw[e]
    cases h1:WY 1 s with
    | true=>exact Bx n b s r hw hr h1
    | false=>exact Bz n b s r hw hr h1
   | [],hw,hr=>
    have e:ZS (.mk 4 n b [])=(Yi,false):=by unfold ZS;rw[hr]
    rw[e];exact KP _ hw (.inr (.inr (by simp[It.l])))
   | [s],hw,hr=>
    have e:ZS (.mk 4 n b [s])=(Yi,false):=by unfold ZS;rw[hr]
    rw[e];exact KP _ hw (.inr (.inr (by simp[It.l])))
   | s::r::y::l,hw,hr=>
    have e:ZS (.mk 4 n b (s::r::y::l))=(Yi,false):=by unfold ZS;rw[hr]
    rw[e];exact KP _ hw (.inr (.inr (by simp[It.l])))
  ·have e:ZS (.mk k n b l)=(Yi,false):=by
    unfold ZS;rw[hr]
    match l with
    | [s,r]=>dsimp only;rw[if_neg hk]
    | []=>rfl
    | [s]=>rfl
    | s::r::y::l=>rfl
   rw[e]
   exact KP _ hw (.inr (.inl hk))
theorem LR {x:EidV}(h:ZQ x=true)(hz:isZ x=false)(hi:x.i=false):ppV (We x)=(x,true):=by
 obtain⟨b1,b2,b3,b4,b5,b6,b7⟩:=Wf h hz hi
 have e1:We x=[47,47]++(x.h++47::x.d):=by simp[We]
 rw[e1]
 unfold ppV
 rw[QO]
 dsimp only
 rw[Ug (JE b6 (by decide))]
 dsimp only
 have ex:(⟨false,0,0,x.h,x.d⟩:EidV)=x:=by
  obtain⟨i,n,s,hh,d⟩:=x
  simp only at hi b1 b2
  rw[hi,b1,b2]
 rw[ex,h]
 have:(x.h != [])=true:=by
  rw[bne_iff_ne]
  intro e
  rw[e]at b3
  simp at b3
 rw[this]
 rfl
theorem VP {x:EidV}(h:ZQ x=true):wfI (ZY x):=by
 unfold ZY
 cases hz:isZ x with
 | true=>rw[if_pos rfl];simp[wfI,wfs]
 | false=>
  rw[if_neg (by simp)]
  cases hi:x.i with
  | true=>
   obtain⟨b1,b2,b3,b4,b5⟩:=WE h hz hi
   rw[if_pos rfl]
   simp[wfI,wfs]
   omega
  | false=>
   obtain⟨b1,b2,b3,b4,b5,b6,b7⟩:=Wf h hz hi
   rw[if_neg (by simp)]
   simp[wfI,wfs,We]
   omega
theorem QP {x:EidV}(h:ZQ x=true)(hr:ZC (ZY x)=true):ZS (ZY x)=(x,true):=by
 unfold ZS
 rw[hr]
 unfold ZY
 cases hz:isZ x with
 | true=>
  rw[if_pos rfl,Vn.1 hz]
  rfl
 | false=>
  rw[if_neg (by simp)]
  cases hi:x.i with
  | true=>
   obtain⟨b1,b2,b3,b4,b5⟩:=WE h hz hi
   rw[if_pos rfl]
   dsimp only
   rw[if_pos rfl]
   have ex:(⟨true,x.n,x.s,[],[]⟩:EidV)=x:=by
    obtain⟨i,n,s,hh,d⟩:=x
    simp only at hi b3 b4
    rw[hi,b3,b4]
   have e1:WY 1 (.mk 0 2 [] [])=false:=rfl
   have e2:WY 2 (.mk 0 2 [] [])=true:=rfl
   have e3:∀ n,WY n (.mk 0 n [] [])=true:=fun n=>It.beq_iff.2 rfl
   have e4:UP (.mk 4 0 [] [.mk 0 x.n [] [],.mk 0 x.s [] []])=some (x.n,x.s):=by
    unfold UP
    dsimp only
    rw[if_pos rfl]
    simp only[It.n,e3,Bool.and_self]
   unfold Ql
   rw[e1,e2,e4]
   dsimp only
   rw[ex,h]
  | false=>
   rw[if_neg (by simp)]
   dsimp only
   rw[if_pos rfl]
   have e1:WY 1 (.mk 0 1 [] [])=true:=rfl
   have e2:WY 0 (.mk 3 0 (We x) [])=false:=rfl
   unfold Ql
   rw[e1,e2]
   exact LR h hz hi
theorem Nn {m:Nat}(hm:m<128){c:UInt8}(h:okB m c=true):c.toNat<128:=by
 simp only[okB,Bool.or_eq_true,Bool.and_eq_true,decide_eq_true_eq,beq_iff_eq]at h
 omega
theorem VQ {x:EidV}(h:ZQ x=true):ZC (ZY x)=true:=by
 unfold ZY
 cases hz:isZ x with
 | true=>rw[if_pos rfl];rfl
 | false=>
  rw[if_neg (by simp)]
  cases hi:x.i with
  | true=>rw[if_pos rfl];simp[ZC,Wq,YM,Wp]
  | false=>
   obtain⟨b1,b2,b3,b4,b5,b6,b7⟩:=Wf h hz hi
   rw[if_neg (by simp)]
   have hv:ZH (We x)=true:=by
    rw[WD (We x).length (We x) (Nat.le_refl _) fun c hc=>?_,List.drop_length]
    ·rfl
    ·rw[List.take_length]at hc
     simp only[We,List.mem_append,List.mem_cons,List.not_mem_nil,or_false]at hc
     rcases hc with((hc|hc)|hc)|hc
     ·rcases hc with hc|hc<;>rw[hc]<;>decide
     ·exact Nn (by decide) (List.all_eq_true.1 b6 c hc)
     ·rw[hc];decide
     ·exact Nn (by decide) (List.all_eq_true.1 b7 c hc)
   simp[ZC,Wq,YM,Wp,hv]
theorem N5 {k:Int}{n:Nat}{b:List UInt8}{l:List It}(h:ZC (.mk k n b l)=true):Wp k n b l=true/\∀ y ∈ l,∃ d m m',Wq y d m=some m':=by
 unfold ZC at h
 cases hw:Wq (.mk k n b l) 1 256 with
 | none=>rw[hw]at h;cases h
 | some m=>
  obtain⟨_,_,h1,h2⟩:=Vc hw
  refine⟨h1,?_⟩
  clear hw h h1
  generalize (256:Nat)-1=m0 at h2
  induction l generalizing m0 with
  | nil=>intro y hy;cases hy
  | cons x l ih=>
   intro y hy
   obtain⟨m1,w1,w2⟩:=W8 h2
   rcases List.mem_cons.1 hy with rfl|hy
   ·exact⟨_,_,_,w1⟩
   ·exact ih _ w2 y hy
theorem Tg {x:It}{a c:Nat}(h:UP x=some (a,c)):∃ n b,x=.mk 4 n b [.mk 0 a [] [],.mk 0 c [] []]:=by
 unfold UP at h
 split at h
 ·rename_i k n b y0 y1
  split at h
  ·rename_i hk
   split at h
   ·rename_i hy
    simp only[Option.some.injEq,Prod.mk.injEq]at h
    rw[Bool.and_eq_true]at hy
    have e0:=It.beq_iff.1 hy.1
    have e1:=It.beq_iff.1 hy.2
    rw[h.1]at e0
    rw[h.2]at e1
    rw[hk,e0,e1]
    exact⟨n,b,rfl⟩
   ·cases h
  ·cases h
 ·cases h
theorem Ui {x:It}(h:(ZS x).2=true):ZQ (ZS x).1=true/\ZY (ZS x).1=x:=by
 unfold ZS at h ⊢
 cases hr:ZC x with
 | false=>rw[hr]at h;cases h
 | true=>
  obtain⟨k,n,b,l⟩:=x
  rw[hr]at h
  match l,hr,h with
  | [],hr,h=>cases h
  | [s],hr,h=>cases h
  | s::r::y::l,hr,h=>cases h
  | [s,r],hr,h=>
   dsimp only at h ⊢
   by_cases hk:k=4
   case neg=>rw[if_neg hk]at h;cases h
   rw[if_pos hk]at h ⊢
   subst hk
   obtain⟨ho,hm⟩:=N5 hr
   have hn:n=0/\b=[]:=by simpa[Wp]using ho
   obtain⟨rfl,rfl⟩:=hn
   obtain⟨rk,rn,rb,rl⟩:=r
   obtain⟨d,m,m',hwr⟩:=hm (.mk rk rn rb rl) (by simp)
   obtain⟨_,_,ho2,_⟩:=Vc hwr
   unfold Ql at h ⊢
   cases h1:WY 1 s with
   | true=>
    have es:=It.beq_iff.1 h1
    rw[h1]at h
    cases h0:WY 0 (.mk rk rn rb rl) with
    | true=>
     have er:=It.beq_iff.1 h0
     dsimp only
     rw[es,er]
     exact⟨by decide,rfl⟩
    | false=>
     rw[h0]at h
     dsimp only at h ⊢
     cases h3:(It.mk rk rn rb rl).k==3 with
     | false=>rw[h3]at h;cases h
     | true=>
      rw[h3]at h
      have hk3:rk=3:=by simpa[It.k]using h3
      subst hk3
      have hn:rn=0/\rl=[]:=by
       have:Wp 3 rn rb rl=true:=ho2
       simp[Wp]at this
       exact⟨this.1,this.2.1⟩
      obtain⟨rfl,rfl⟩:=hn
      dsimp only[It.b]at h ⊢
      unfold ppV at h ⊢
      dsimp only at h ⊢
      simp only[Bool.and_eq_true,bne_iff_ne]at h
      obtain⟨k3,k4,k5,k6⟩:=h
      have e2:=Jd k3
      generalize (W9 [47,47] rb).1=q at *
      refine⟨k6,?_⟩
      unfold ZY
      rw[if_neg (by rw[Vn];intro e;exact k5 (congrArg EidV.h e)),if_neg (by simp),es,e2]
      have:=Jc k4
      conv=>rhs;rw[this]
      simp[We]
   | false=>
    rw[h1]at h
    cases h2:WY 2 s with
    | false=>rw[h2]at h;cases h
    | true=>
     have es:=It.beq_iff.1 h2
     rw[h2]at h
     dsimp only at h ⊢
     cases hq:UP (.mk rk rn rb rl) with
     | none=>rw[hq]at h;cases h
     | some ac=>
      obtain⟨a,c⟩:=ac
      rw[hq]at h
      dsimp only at h ⊢
      refine⟨h,?_⟩
      obtain⟨n2,b2,e2⟩:=Tg hq
      cases e2
      have hn:rn=0/\rb=[]:=by simpa[Wp]using ho2
      obtain⟨rfl,rfl⟩:=hn
      unfold ZY
      rw[if_neg (by simp[isZ]),if_pos rfl,es]
abbrev KQ (x:It):D:=.tup [.agg (eC (match(ZS x).2 with|true=>(ZS x).1|false=>Yi)),.bool (ZS x).2]
theorem QQ {x:It}(h:(ZS x).2=false):KQ x=.tup [.agg (eC Yi),.bool false]:=by unfold KQ;rw[h]
theorem N6 {x:It}{e:EidV}(h:ZS x=(e,true)):KQ x=.tup [.agg (eC e),.bool true]:=by unfold KQ;rw[h]
theorem XA {e:EidV}(h:ZQ e=true):∃ s z,ZY e=.mk 4 0 [] [s,z]/\((isZ e=true/\z=.mk 0 0 [] [])\/(isZ e=false/\e.i=true/\z=.mk 4 0 [] [.mk 0 e.n [] [],.mk 0 e.s [] []]/\e.h=[]/\e.d=[])\/(isZ e=false/\e.i=false/\z=.mk 3 0 (We e) []/\WR e=Ux++We e)):=by
 unfold ZY
 cases hz:isZ e with
 | true=>rw[if_pos rfl];exact⟨_,_,rfl,.inl ⟨rfl,rfl⟩⟩
 | false=>
  rw[if_neg (by simp)]
  cases hi:e.i with
  | true=>
   obtain⟨_,_,h1,h2,_⟩:=WE h hz hi
   rw[if_pos rfl];exact⟨_,_,rfl,.inr (.inl ⟨rfl,rfl,rfl,h1,h2⟩)⟩
  | false=>
   rw[if_neg (by simp)]
   refine⟨_,_,rfl,.inr (.inr ⟨rfl,rfl,rfl,?_⟩)⟩
   unfold WR
   rw[hz,if_neg (by simp),hi,if_neg (by simp)]
   rfl
theorem SX {k:Int}{n:Nat}{b:List UInt8}{l:List It}(h:k ≠ 4\/l.length ≠ 2):(ZS (.mk k n b l)).2=false:=by
 cases hp:(ZS (.mk k n b l)).2 with
 | false=>rfl
 | true=>
  obtain⟨h1,h2⟩:=Ui hp
  obtain⟨s,z,e,_⟩:=XA h1
  rw[e]at h2
  cases h2
  rcases h with h|h
  ·exact absurd rfl h
  ·exact absurd rfl h
theorem Th {n:Nat}{b:List UInt8}{s z:It}{c:EidV}
  (hZ:z=.mk 0 0 [] []->c=Yi) (hI:∀ p q,z=.mk 4 0 [] [.mk 0 p [] [],.mk 0 q [] []]->c=⟨true,p,q,[],[]⟩) (hT:∀ t,z=.mk 3 0 t []->(Yc (Ux++t)).2=true->c=(Yc (Ux++t)).1)
  (hp:(ZS (.mk 4 n b [s,z])).2=true):c=(ZS (.mk 4 n b [s,z])).1:=by
 obtain⟨h1,h2⟩:=Ui hp
 generalize (ZS (.mk 4 n b [s,z])).1=e at *
 obtain⟨s',z',ee,hh⟩:=XA h1
 rw[ee]at h2
 cases h2
 rcases hh with⟨hz,hh⟩ | ⟨hz,hi,hh,e1,e2⟩ | ⟨hz,hi,hh,ht⟩
 ·rw[hZ hh,Vn.1 hz]
 ·rw[hI _ _ hh]
  obtain⟨i,n,s,h,d⟩:=e
  simp only at hi e1 e2
  rw[hi,e1,e2]
 ·have hq:=JF h1
  rw[ht]at hq
  have:=hT _ hh (by rw[hq])
  rw[this,hq]
theorem N7 {n n3:Nat}{b t:List UInt8}{s:It}{l:List It}(h:(Yc (Ux++t)).2=false):(ZS (.mk 4 n b [s,.mk 3 n3 t l])).2=false:=by
 cases hp:(ZS (.mk 4 n b [s,.mk 3 n3 t l])).2 with
 | false=>rfl
 | true=>
  obtain⟨h1,h2⟩:=Ui hp
  generalize (ZS (.mk 4 n b [s,.mk 3 n3 t l])).1=e at *
  obtain⟨s',z',ee,hh⟩:=XA h1
  rw[ee]at h2
  cases h2
  rcases hh with⟨hz,hh⟩ | ⟨hz,hi,hh,e1,e2⟩ | ⟨hz,hi,hh,ht⟩
  ·cases hh
  ·cases hh
  ·cases hh
   have hq:=JF h1
   rw[ht]at hq
   rw[hq]at h;cases h
theorem Du {x:It}{c:EidV}(hc:(ZS x).2=true->c=(ZS x).1)(hk:ZQ c=false):(ZS x).2=false:=by
 cases hp:(ZS x).2 with
 | false=>rfl
 | true=>rw[hc hp,(Ui hp).1]at hk;cases hk
theorem Fe {x:It}{c:EidV}(hc:(ZS x).2=true->c=(ZS x).1)(hs:It.beq (ZY c) x=false):(ZS x).2=false:=by
 cases hp:(ZS x).2 with
 | false=>rfl
 | true=>rw[hc hp,(Ui hp).2,It.beq_iff.2 rfl]at hs;cases hs
theorem Ff {x:It}{c:EidV}(hk:ZQ c=true)(hs:It.beq (ZY c) x=true):ZS x=(c,true):=by
 rw[<- It.beq_iff.1 hs,QP hk (VQ hk)]
end Go.Proofs.YtmljabhmajehnaaGreatDoor
end
section
open Go.RowKit Go.Pl Go.Av
namespace Go.Proofs.YtmljabhmajehnaaGreatDoor
set_option maxHeartbeats 4000000
mutual
def Wk:It->Nat->Int->Int
 | .mk k n b l,d,m=>if 9<d then -1 else if 3000<b.length then -1 else WS l (d+1) (m-1)
def WS:List It->Nat->Int->Int
 | [],_,m=>m
 | x::l,d,m=>if m<0 then m else WS l d (Wk x d m)
end
mutual
theorem Jf:∀(x:It) (d:Nat) (m:Int),0<=m->Wk x d m<m /\ -1<=Wk x d m
 | .mk k n b l,d,m,h=>by
  rw[Wk]
  split
  ·omega
  ·split
   ·omega
   ·have:=Jg l (d+1) (m-1) (by omega);omega
theorem Jg:∀(l:List It) (d:Nat) (m:Int),-1<=m->WS l d m<=m /\ -1<=WS l d m
 | [],_,m,h=>by rw[WS];omega
 | x::l,d,m,h=>by
  rw[WS]
  split
  ·omega
  ·have h1:=Jf x d m (by omega)
   have h2:=Jg l d (Wk x d m) (by omega)
   omega
end
mutual
def nI:It->Prop
 | .mk _ n _ l=>n<18446744073709551616/\nIs l
def nIs:List It->Prop
 | []=>True
 | x::l=>nI x/\nIs l
end
mutual
def YU:It->Nat->Bool
 | .mk _ _ _ l,d=>match d with
  | 0=>false
  | d+1=>YN l d
def YN:List It->Nat->Bool
 | [],_=>true
 | x::l,d=>YU x d&&YN l d
end
mutual
theorem KR:∀(x:It) (d:Nat) (m:Int),m<=400->0<=Wk x d m->nI x->wfI x/\(ZI x).length<=3009*(m-Wk x d m)/\m-Wk x d m ≥ 1/\YU x (10-d)=true
 | .mk k n b l,d,m,hm,h,hn=>by
  rw[Wk]at h ⊢
  split at h
  ·omega
  split at h
  ·omega
  rename_i h1 h2
  rw[if_neg h1,if_neg h2]
  obtain⟨q1,q2,q3,q4⟩:=O6 l (d+1) (m-1) (by omega) h hn.2
  refine⟨⟨hn.1,by omega,by omega,q1⟩,?_,by omega,?_⟩
  ·rw[ZI]
   have hw:(if Z0 (k,(It.mk k n b l).hn,false) then ZP (k,(It.mk k n b l).hn,false) else []).length<=9:=by
    split
    ·rename_i hr;rw[Y7 _ hr];exact Lk _
    ·exact Nat.zero_le _
   rw[List.length_append,List.length_append]
   omega
  ·obtain⟨e,he⟩:∃ e,10-d=e+1:=⟨9-d,by omega⟩
   rw[he,YU]
   rw[show 10-(d+1)=e by omega]at q4
   exact q4
theorem O6:∀(l:List It) (d:Nat) (m:Int),m<=400->0<=WS l d m->nIs l->wfs l/\(ZO l).length<=3009*(m-WS l d m)/\m-WS l d m ≥ l.length/\YN l (10-d)=true
 | [],_,m,_,h,hn=>by simp[wfs,ZO,WS,YN]
 | x::l,d,m,hm,h,hn=>by
  rw[WS]at h ⊢
  split at h
  ·omega
  rename_i h1
  rw[if_neg h1]
  have h0:0<=Wk x d m:=by
   rcases Int.lt_or_le (Wk x d m) 0 with hlt|hge
   ·have:=Jg l d (Wk x d m) (by have:=Jf x d m (by omega);omega);omega
   ·exact hge
  obtain⟨q1,q2,q3,q4⟩:=KR x d m hm h0 hn.1
  obtain⟨r1,r2,r3,r4⟩:=O6 l d _ (by have:=Jf x d m (by omega);omega) h hn.2
  refine⟨⟨q1,r1⟩,?_,?_,?_⟩
  ·rw[ZO,List.length_append];omega
  ·rw[List.length_cons];omega
  ·rw[YN,q4,r4];rfl
end
end Go.Proofs.YtmljabhmajehnaaGreatDoor
end
