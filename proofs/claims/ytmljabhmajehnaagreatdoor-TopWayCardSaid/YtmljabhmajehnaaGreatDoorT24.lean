/- Package eid: an item's name. -/
import Derived.Test.YtmljabhmajehnaaGreatDoorT22
import Derived.Test.YtmljabhmajehnaaGreatDoorT23
import Derived.Test.YtmljabhmajehnaaGreatDoorT19
set_option linter.unusedVariables false
set_option linter.unusedSimpArgs false
section
open Go.RowKit Go.Pl Go.Av
namespace Go.Proofs.YtmljabhmajehnaaGreatDoor
set_option maxHeartbeats 4000000
def UJ (s r:It):EidV × Bool:=
 match WI 1 s with
 | true=>(match WI 0 r with
  | true=>(YU,true)
  | false=>(match r.k==3 with
   | true=>ppV r.b
   | false=>(YU,false)))
 | false=>(match WI 2 s with
  | true=>(match Qh r with
   | some (a,c)=>(⟨true,a,c,[],[]⟩,ZJ ⟨true,a,c,[],[]⟩)
   | none=>(YU,false))
  | false=>(YU,false))
def Ys (x:It):EidV × Bool:=match ZG x,x with
 | true,.mk k _ _ [s,r]=>if k=4 then UJ s r else(YU,false)
 | _,_=>(YU,false)
abbrev IX (x:EidV × Bool):D:=.tup [.agg (eC (match x.2 with|true=>x.1|false=>YU)),.int .i64 (match x.2 with|true=>0|false=>3)]
theorem Xl [Known][KnownU8](x:It)(hw:wfI x)(h:ZG x=false\/x.k ≠ 4\/x.l.length ≠ 2):AP Tryz.prog 112 [itD x] (IX (YU,false)) []:=by
 have hR:=YT x hw
 show AP Tryz.prog _ _ (.tup [.agg [.bool false,.int .u64 0,.int .u64 0,.str [],.str []],.int .i64 3]) []
 cases hr:ZG x with
 | false=>
  rw[hr]at hR
  obtain⟨k,n,b,l⟩:=x
  refine AP.ofA (Zk Tryz.func112 Z Tryz.ntmps112 Z Z ?_)
  repeat'(first|(apply Zb (hR);kernel_rfl;(iterate 4 exact Z))|(apply Zh Za;exact Z)|(apply Ze Za;exact Z)|(apply Zq Za;exact Z)|refine Zp Z Z Z Qt ?_|refine Zl Z Qt Z Z ?_|refine Zd Z Qt ?_)
  all_goals exact Qe
 | true=>
  rw[hr]at hR h
  obtain⟨k,n,b,l⟩:=x
  simp only[It.k,It.l]at h
  by_cases hk:k=4
  ·have t1:(k != 4)=false:=by simpa using hk
   have hl:l.length ≠ 2:=by
    rcases h with h|h|h
    ·cases h
    ·exact absurd hk h
    ·exact h
   have t2:(((Zt l).length:Int) != 2)=true:=by rw[Zw];simp;omega
   refine AP.ofA (Zk Tryz.func112 Z Tryz.ntmps112 Z Z ?_)
   repeat'(first|(apply Zb (hR);kernel_rfl;(iterate 4 exact Z))|(apply Zh Za;exact Z)|(apply Ze Za;exact Z)|(apply Zq Za;exact Z)|refine Zg Z Z Z Qt ?_|refine Zi Z Qt Z Z ?_|refine Zd Z Qt ?_|refine Zm Za Z Z Z Z ?_)
   all_goals exact Qe
  ·have t1:(k != 4)=true:=by simpa using hk
   refine AP.ofA (Zk Tryz.func112 Z Tryz.ntmps112 Z Z ?_)
   repeat'(first|(apply Zb (hR);kernel_rfl;(iterate 4 exact Z))|(apply Zh Za;exact Z)|(apply Ze Za;exact Z)|(apply Zq Za;exact Z)|refine Zg Z Z Z Qt ?_|refine Zp Z Z Z Qt ?_|refine Zl Z Qt Z Z ?_|refine Zi Z Qt Z Z ?_|refine Zd Z Qt ?_)
   all_goals exact Qe
theorem Lq [Known][KnownU8](n:Nat)(b:List UInt8)(s r:It)(hw:wfI (.mk 4 n b [s,r]))(hr:ZG (.mk 4 n b [s,r])=true)(h1:WI 1 s=true):AP Tryz.prog 112 [itD (.mk 4 n b [s,r])] (IX (UJ s r)) []:=by
 have hR:=YT _ hw
 rw[hr]at hR
 obtain⟨_,_,_,hws,hwr,_⟩:=hw
 have e1:s=.mk 0 1 [] []:=It.beq_iff.1 h1
 have hS1:=Vw s hws 1 (by omega)
 have hS2:=Vw s hws 2 (by omega)
 have hR0:=Vw r hwr 0 (by omega)
 have n0:=Uk 0
 have n1:=Uk 1
 have n2:=Uk 2
 replace n0:AP Tryz.prog _ [.int .u64 0] (.agg [.int .i64 0,.int .u64 0,.sl .ext [],.sl .ext []]) []:=n0
 replace n1:AP Tryz.prog _ [.int .u64 1] (.agg [.int .i64 0,.int .u64 1,.sl .ext [],.sl .ext []]) []:=n1
 replace n2:AP Tryz.prog _ [.int .u64 2] (.agg [.int .i64 0,.int .u64 2,.sl .ext [],.sl .ext []]) []:=n2
 have h2:WI 2 s=false:=by rw[e1];rfl
 rw[h1]at hS1
 rw[h2]at hS2
 have hU:=YW [s,r]
 unfold UJ
 rw[h1]
 dsimp only
 have hbl:r.b.length<=140737488351232:=by obtain⟨kr,nr,br,lr⟩:=r;exact hwr.2.1
 have hP:=L3 r.b hbl
 obtain⟨ks,ns,bs,ls⟩:=s
 obtain⟨kr,nr,br,lr⟩:=r
 simp only[It.b,It.k]at hP ⊢
 have t2:(((Zt [It.mk ks ns bs ls,It.mk kr nr br lr]).length:Int) != 2)=false:=rfl
 cases h0:WI 0 (.mk kr nr br lr) with
 | true=>
  rw[h0]at hR0
  show AP Tryz.prog _ _ (.tup [.agg [.bool false,.int .u64 0,.int .u64 0,.str [],.str []],.int .i64 0]) []
  refine AP.ofA (Zk Tryz.func112 Z Tryz.ntmps112 Z Z ?_)
  repeat'(first|(apply V3 11 Za ZF;decide +kernel;kernel_rfl;kernel_rfl;kernel_rfl;exact Z;exact Z)|exact AV.nil _ _|(apply Ks;exact Z;exact Z)|(apply Kt;(iterate 4 exact Z))|(apply Kr;(iterate 4 exact Z))|refine Jm Z Z Z Z ?_|(apply Zb (hR);kernel_rfl;(iterate 4 exact Z))|(apply Zb (hS1);kernel_rfl;(iterate 4 exact Z))|(apply Zb (hR0);kernel_rfl;(iterate 4 exact Z))|(apply Zb (n0);kernel_rfl;(iterate 4 exact Z))|(apply Zb (n1);kernel_rfl;(iterate 4 exact Z))|(apply Zh Za;exact Z)|(apply Ze Za;exact Z)|(apply Zq Za;exact Z)|refine Zg Z Z Z Qt ?_|refine Zl Z Qt Z Z ?_|refine Zi Z Qt Z Z ?_|refine Zd Z Qt ?_|refine Zf Z Qt ?_|refine Zm Za Z Z Z Z ?_|(apply Zn 6 ZF;decide +kernel;kernel_rfl;kernel_rfl;kernel_rfl;exact Z;exact Z)|(apply Zs;(iterate 4 exact Z))|exact AE.nil _ _ _ _|(apply Zx;exact Z)|(apply ZA;exact Z;exact Z;decide +kernel;exact Z)|(apply ZB;exact Z)|exact AO.nil _ _ _|(apply Zr;(decide +kernel))|exact AOs.nil|exact ZM rfl rfl|(apply Zu Za;(iterate 6 exact Z);(first|exact Qt|rotate_left);(first|with_reducible assumption|decide +kernel|exact Z);(first|exact Zj rfl|with_reducible assumption|decide +kernel|rotate_left)))
  all_goals exact Qe
 | false=>
  rw[h0]at hR0
  generalize ppV br=xp at *
  obtain⟨⟨qi,qn,qs,qh,qd⟩,qb⟩:=xp
  replace hP:AP Tryz.prog _ [.str br] (.tup [.agg [.bool qi,.int .u64 (qn:Int),.int .u64 (qs:Int),.str qh,.str qd],.bool qb]) []:=hP
  cases hk:kr==3 with
  | true=>
   cases qb
   all_goals
    refine AP.ofA (Zk Tryz.func112 Z Tryz.ntmps112 Z Z ?_)
    repeat'(first|(apply V3 11 Za ZF;decide +kernel;kernel_rfl;kernel_rfl;kernel_rfl;exact Z;exact Z)|exact AV.nil _ _|(apply Ks;exact Z;exact Z)|(apply Kt;(iterate 4 exact Z))|(apply Kr;(iterate 4 exact Z))|refine Jm Z Z Z Z ?_|(apply Zb (hR);kernel_rfl;(iterate 4 exact Z))|(apply Zb (hS1);kernel_rfl;(iterate 4 exact Z))|(apply Zb (hR0);kernel_rfl;(iterate 4 exact Z))|(apply Zb (n0);kernel_rfl;(iterate 4 exact Z))|(apply Zb (n1);kernel_rfl;(iterate 4 exact Z))|(apply Zb (hP);kernel_rfl;(iterate 4 exact Z))|(apply Zh Za;exact Z)|(apply Ze Za;exact Z)|(apply Zq Za;exact Z)|refine Zg Z Z Z Qt ?_|refine Zl Z Qt Z Z ?_|refine Zi Z Qt Z Z ?_|refine Zd Z Qt ?_|refine Zf Z Qt ?_|refine Zm Za Z Z Z Z ?_|(apply Zn 2 ZF;decide +kernel;kernel_rfl;kernel_rfl;kernel_rfl;exact Z;exact Z)|(apply Zn 6 ZF;decide +kernel;kernel_rfl;kernel_rfl;kernel_rfl;exact Z;exact Z)|(apply Zs;(iterate 4 exact Z))|exact AE.nil _ _ _ _|(apply Zx;exact Z)|(apply ZA;exact Z;exact Z;decide +kernel;exact Z)|(apply ZB;exact Z)|exact AO.nil _ _ _|(apply Zr;(decide +kernel))|exact AOs.nil|exact ZM rfl rfl|(apply Zu Za;(iterate 6 exact Z);(first|exact Qt|rotate_left);(first|with_reducible assumption|decide +kernel|exact Z);(first|exact Zj rfl|with_reducible assumption|decide +kernel|rotate_left))|refine JT Za Z Z Z Z Z Z Z Z Z ?_)
    all_goals exact Qe
  | false=>
   refine AP.ofA (Zk Tryz.func112 Z Tryz.ntmps112 Z Z ?_)
   repeat'(first|(apply V3 11 Za ZF;decide +kernel;kernel_rfl;kernel_rfl;kernel_rfl;exact Z;exact Z)|exact AV.nil _ _|(apply Ks;exact Z;exact Z)|(apply Kt;(iterate 4 exact Z))|(apply Kr;(iterate 4 exact Z))|refine Jm Z Z Z Z ?_|(apply Zb (hR);kernel_rfl;(iterate 4 exact Z))|(apply Zb (hS1);kernel_rfl;(iterate 4 exact Z))|(apply Zb (hS2);kernel_rfl;(iterate 4 exact Z))|(apply Zb (hR0);kernel_rfl;(iterate 4 exact Z))|(apply Zb (n0);kernel_rfl;(iterate 4 exact Z))|(apply Zb (n1);kernel_rfl;(iterate 4 exact Z))|(apply Zb (n2);kernel_rfl;(iterate 4 exact Z))|(apply Zh Za;exact Z)|(apply Ze Za;exact Z)|(apply Zq Za;exact Z)|refine Zg Z Z Z Qt ?_|refine Zl Z Qt Z Z ?_|refine Zi Z Qt Z Z ?_|refine Zd Z Qt ?_|refine Zf Z Qt ?_|refine Zm Za Z Z Z Z ?_|(apply Zn 2 ZF;decide +kernel;kernel_rfl;kernel_rfl;kernel_rfl;exact Z;exact Z)|(apply Zn 6 ZF;decide +kernel;kernel_rfl;kernel_rfl;kernel_rfl;exact Z;exact Z)|(apply Zs;(iterate 4 exact Z))|exact AE.nil _ _ _ _|(apply Zx;exact Z)|(apply ZA;exact Z;exact Z;decide +kernel;exact Z)|(apply ZB;exact Z)|exact AO.nil _ _ _|(apply Zr;(decide +kernel))|exact AOs.nil|exact ZM rfl rfl|(apply Zu Za;(iterate 6 exact Z);(first|exact Qt|rotate_left);(first|with_reducible assumption|decide +kernel|exact Z);(first|exact Zj rfl|with_reducible assumption|decide +kernel|rotate_left)))
   all_goals exact Qe
theorem Lr [Known][KnownU8](n:Nat)(b:List UInt8)(s r:It)(hw:wfI (.mk 4 n b [s,r]))(hr:ZG (.mk 4 n b [s,r])=true)(h1:WI 1 s=false):AP Tryz.prog 112 [itD (.mk 4 n b [s,r])] (IX (UJ s r)) []:=by
 have hR:=YT _ hw
 rw[hr]at hR
 obtain⟨_,_,_,hws,hwr,_⟩:=hw
 have hS1:=Vw s hws 1 (by omega)
 have hS2:=Vw s hws 2 (by omega)
 have hN:=Mq r hwr
 have n1:=Uk 1
 have n2:=Uk 2
 replace n1:AP Tryz.prog _ [.int .u64 1] (.agg [.int .i64 0,.int .u64 1,.sl .ext [],.sl .ext []]) []:=n1
 replace n2:AP Tryz.prog _ [.int .u64 2] (.agg [.int .i64 0,.int .u64 2,.sl .ext [],.sl .ext []]) []:=n2
 rw[h1]at hS1
 have hU:=YW [s,r]
 unfold UJ
 rw[h1]
 dsimp only
 obtain⟨ks,ns,bs,ls⟩:=s
 obtain⟨kr,nr,br,lr⟩:=r
 have t2:(((Zt [It.mk ks ns bs ls,It.mk kr nr br lr]).length:Int) != 2)=false:=rfl
 cases h2:WI 2 (.mk ks ns bs ls) with
 | false=>
  rw[h2]at hS2
  show AP Tryz.prog _ _ (.tup [.agg [.bool false,.int .u64 0,.int .u64 0,.str [],.str []],.int .i64 3]) []
  refine AP.ofA (Zk Tryz.func112 Z Tryz.ntmps112 Z Z ?_)
  repeat'(first|(apply V3 11 Za ZF;decide +kernel;kernel_rfl;kernel_rfl;kernel_rfl;exact Z;exact Z)|exact AV.nil _ _|(apply Ks;exact Z;exact Z)|(apply Kt;(iterate 4 exact Z))|(apply Kr;(iterate 4 exact Z))|refine Jm Z Z Z Z ?_|(apply Zb (hR);kernel_rfl;(iterate 4 exact Z))|(apply Zb (hS1);kernel_rfl;(iterate 4 exact Z))|(apply Zb (hS2);kernel_rfl;(iterate 4 exact Z))|(apply Zb (n1);kernel_rfl;(iterate 4 exact Z))|(apply Zb (n2);kernel_rfl;(iterate 4 exact Z))|(apply Zh Za;exact Z)|(apply Ze Za;exact Z)|(apply Zq Za;exact Z)|refine Zg Z Z Z Qt ?_|refine Zv Z Z Z Qt ?_|refine Zi Z Qt Z Z ?_|refine Zd Z Qt ?_|refine Zf Z Qt ?_|refine Zm Za Z Z Z Z ?_|(apply Zn 2 ZF;decide +kernel;kernel_rfl;kernel_rfl;kernel_rfl;exact Z;exact Z)|(apply Zn 6 ZF;decide +kernel;kernel_rfl;kernel_rfl;kernel_rfl;exact Z;exact Z)|(apply Zs;(iterate 4 exact Z))|exact AE.nil _ _ _ _|(apply Zx;exact Z)|(apply ZA;exact Z;exact Z;decide +kernel;exact Z)|(apply ZB;exact Z)|exact AO.nil _ _ _|(apply Zr;(decide +kernel))|exact AOs.nil|exact ZM rfl rfl|(apply Zu Za;(iterate 6 exact Z);(first|exact Qt|rotate_left);(first|with_reducible assumption|decide +kernel|exact Z);(first|exact Zj rfl|with_reducible assumption|decide +kernel|rotate_left)))
  all_goals exact Qe
 | true=>
  rw[h2]at hS2
  dsimp only
  cases hq:Qh (.mk kr nr br lr) with
  | none=>
   rw[hq]at hN
   replace hN:AP Tryz.prog _ _ (.tup [.sl .ext [],.bool false]) []:=hN
   show AP Tryz.prog _ _ (.tup [.agg [.bool false,.int .u64 0,.int .u64 0,.str [],.str []],.int .i64 3]) []
   refine AP.ofA (Zk Tryz.func112 Z Tryz.ntmps112 Z Z ?_)
   repeat'(first|(apply V3 11 Za ZF;decide +kernel;kernel_rfl;kernel_rfl;kernel_rfl;exact Z;exact Z)|exact AV.nil _ _|(apply Ks;exact Z;exact Z)|(apply Kt;(iterate 4 exact Z))|(apply Kr;(iterate 4 exact Z))|refine Jm Z Z Z Z ?_|(apply Zb (hR);kernel_rfl;(iterate 4 exact Z))|(apply Zb (hS1);kernel_rfl;(iterate 4 exact Z))|(apply Zb (hS2);kernel_rfl;(iterate 4 exact Z))|(apply Zb (n1);kernel_rfl;(iterate 4 exact Z))|(apply Zb (n2);kernel_rfl;(iterate 4 exact Z))|(apply Zb (hN);kernel_rfl;(iterate 4 exact Z))|(apply Zh Za;exact Z)|(apply Ze Za;exact Z)|(apply Zq Za;exact Z)|refine Zg Z Z Z Qt ?_|refine Zv Z Z Z Qt ?_|refine Zi Z Qt Z Z ?_|refine Zd Z Qt ?_|refine Zf Z Qt ?_|refine Zm Za Z Z Z Z ?_|(apply Zn 2 ZF;decide +kernel;kernel_rfl;kernel_rfl;kernel_rfl;exact Z;exact Z)|(apply Zn 6 ZF;decide +kernel;kernel_rfl;kernel_rfl;kernel_rfl;exact Z;exact Z)|(apply Zs;(iterate 4 exact Z))|exact AE.nil _ _ _ _|(apply Zx;exact Z)|(apply ZA;exact Z;exact Z;decide +kernel;exact Z)|(apply ZB;exact Z)|exact AO.nil _ _ _|(apply Zr;(decide +kernel))|exact AOs.nil|exact ZM rfl rfl|(apply Zu Za;(iterate 6 exact Z);(first|exact Qt|rotate_left);(first|with_reducible assumption|decide +kernel|exact Z);(first|exact Zj rfl|with_reducible assumption|decide +kernel|rotate_left)))
   all_goals exact Qe
  | some ac=>
   obtain⟨a,c⟩:=ac
   rw[hq]at hN
   replace hN:AP Tryz.prog _ _ (.tup [.sl .ext [.int .u64 (a:Int),.int .u64 (c:Int)],.bool true]) []:=hN
   have hE:=WY ⟨true,a,c,[],[]⟩
   dsimp only
   generalize ZJ ⟨true,a,c,[],[]⟩=R at *
   replace hE:AP Tryz.prog _ [.agg [.bool true,.int .u64 (a:Int),.int .u64 (c:Int),.str [],.str []]] (.bool R) []:=hE
   cases R
   all_goals
    refine AP.ofA (Zk Tryz.func112 Z Tryz.ntmps112 Z Z ?_)
    repeat'(first|(apply V3 11 Za ZF;decide +kernel;kernel_rfl;kernel_rfl;kernel_rfl;exact Z;exact Z)|exact AV.nil _ _|(apply Ks;exact Z;exact Z)|(apply Kt;(iterate 4 exact Z))|(apply Kr;(iterate 4 exact Z))|refine Jm Z Z Z Z ?_|(apply Zb (hR);kernel_rfl;(iterate 4 exact Z))|(apply Zb (hS1);kernel_rfl;(iterate 4 exact Z))|(apply Zb (hS2);kernel_rfl;(iterate 4 exact Z))|(apply Zb (n1);kernel_rfl;(iterate 4 exact Z))|(apply Zb (n2);kernel_rfl;(iterate 4 exact Z))|(apply Zb (hN);kernel_rfl;(iterate 4 exact Z))|(apply Zb (hE);kernel_rfl;(iterate 4 exact Z))|(apply Zh Za;exact Z)|(apply Ze Za;exact Z)|(apply Zq Za;exact Z)|refine Zg Z Z Z Qt ?_|refine Zv Z Z Z Qt ?_|refine Zi Z Qt Z Z ?_|refine Zd Z Qt ?_|refine Zf Z Qt ?_|refine Zm Za Z Z Z Z ?_|(apply Zn 2 ZF;decide +kernel;kernel_rfl;kernel_rfl;kernel_rfl;exact Z;exact Z)|(apply Zn 6 ZF;decide +kernel;kernel_rfl;kernel_rfl;kernel_rfl;exact Z;exact Z)|(apply Zs;(iterate 4 exact Z))|exact AE.nil _ _ _ _|(apply Zx;exact Z)|(apply ZA;exact Z;exact Z;decide +kernel;exact Z)|(apply ZB;exact Z)|exact AO.nil _ _ _|(apply Zr;(decide +kernel))|exact AOs.nil|exact ZM rfl rfl|(apply Zu Za;(iterate 6 exact Z);(first|exact Qt|rotate_left);(first|with_reducible assumption|decide +kernel|exact Z);(first|exact Zj rfl|with_reducible assumption|decide +kernel|rotate_left)))
    all_goals exact Qe
theorem QZ [Known][KnownU8](x:It)(hw:wfI x):AP Tryz.prog 112 [itD x] (IX (Ys x)) []:=by
 cases hr:ZG x with
 | false=>
  have e:Ys x=(YU,false):=by unfold Ys;rw[hr]
  rw[e]
  exact Xl x hw (.inl hr)
 | true=>
  obtain⟨k,n,b,l⟩:=x
  by_cases hk:k=4
  ·subst hk
   match l,hw,hr with
   | [s,r],hw,hr=>
    have e:Ys (.mk 4 n b [s,r])=UJ s r:=by unfold Ys;rw[hr];dsimp only;rw[if_pos rfl]
    rw[e]
    cases h1:WI 1 s with
    | true=>exact Lq n b s r hw hr h1
    | false=>exact Lr n b s r hw hr h1
   | [],hw,hr=>
    have e:Ys (.mk 4 n b [])=(YU,false):=by unfold Ys;rw[hr]
    rw[e];exact Xl _ hw (.inr (.inr (by simp[It.l])))
   | [s],hw,hr=>
    have e:Ys (.mk 4 n b [s])=(YU,false):=by unfold Ys;rw[hr]
    rw[e];exact Xl _ hw (.inr (.inr (by simp[It.l])))
   | s::r::y::l,hw,hr=>
    have e:Ys (.mk 4 n b (s::r::y::l))=(YU,false):=by unfold Ys;rw[hr]
    rw[e];exact Xl _ hw (.inr (.inr (by simp[It.l])))
  ·have e:Ys (.mk k n b l)=(YU,false):=by
    unfold Ys;rw[hr]
    match l with
    | [s,r]=>dsimp only;rw[if_neg hk]
    | []=>rfl
    | [s]=>rfl
    | s::r::y::l=>rfl
   rw[e]
   exact Xl _ hw (.inr (.inl hk))
structure BlkV where
 ty:Nat
 num:Nat
 fl:Nat
 sum:Int
 data:List UInt8
abbrev bkC (b:BlkV):List D:=[.int .u64 (b.ty:Int),.int .u64 (b.num:Int),.int .u64 (b.fl:Int),.int .i64 b.sum,byE b.data]
theorem GJ (d:List UInt8)(hd:d.length<=140737488351232):wfI (Yh d 0).1:=by
 rcases Xc d (by omega) with⟨e,_,h,_⟩ | ⟨y,n,h,hw,_⟩
 ·rw[h];exact⟨by decide,by simp,by simp,trivial⟩
 ·rw[h];exact hw
theorem K1 [Known][KnownU8](d:List UInt8)(hd:d.length<=140737488351232):AP Tryz.prog 95 [byE d] (.tup [itD (Yh d 0).1,.bool (WB d)]) []:=by
 have hR:=J7 d 0 (by omega)
 have hS:=KZ d (by omega)
 rcases Xc d (by omega) with⟨e,he,h,hs⟩ | ⟨⟨k,n,b,l⟩,m,h,hw,hr,_⟩
 ·rw[h]at hR ⊢
  rw[hs]at hS ⊢
  replace hR:AP Tryz.prog _ _ (.tup [.agg [.int .i64 0,.int .u64 0,.sl .ext [],.sl .ext []],.int .i64 0,.int .i64 (e:Int)]) []:=hR
  have t1:((e:Int)==0)=false:=by rw[beq_eq_false_iff_ne];omega
  refine AP.ofA (Zk Tryz.func95 Z Tryz.ntmps95 Z Z ?_)
  repeat'(first|(apply Zb (hR);kernel_rfl;(iterate 4 exact Z))|(apply Zh Za;exact Z)|(apply Ze Za;exact Z)|refine Zv Z Z Z Qt ?_|refine Zi Z Qt Z Z ?_|(apply Zn 8 ZF;decide +kernel;kernel_rfl;kernel_rfl;kernel_rfl;exact Z;exact Z)|(apply Zs;(iterate 4 exact Z))|exact AE.nil _ _ _ _|(apply Zx;exact Z)|(apply Vs;exact Z)|(apply ZA;exact Z;exact Z;decide +kernel;exact Z)|(apply ZB;exact Z)|(apply UB;exact Z)|exact AO.nil _ _ _|(apply Zr;(decide +kernel))|(apply Z4;(iterate 3 exact Z))|exact AOs.nil|exact ZM rfl rfl|exact VR rfl)
  all_goals exact Qe
 ·rw[h]at hR ⊢
  replace hR:AP Tryz.prog _ _ (.tup [.agg (itC k n b l),.int .i64 (m:Int),.int .i64 0]) []:=hR
  refine AP.ofA (Zk Tryz.func95 Z Tryz.ntmps95 Z Z ?_)
  repeat'(first|(apply Zb (hR);kernel_rfl;(iterate 4 exact Z))|(apply Zb (hS);kernel_rfl;(iterate 4 exact Z))|(apply Zh Za;exact Z)|(apply Ze Za;exact Z)|refine Zg Z Z Z Qt ?_|refine Zl Z Qt Z Z ?_|(apply Zn 8 ZF;decide +kernel;kernel_rfl;kernel_rfl;kernel_rfl;exact Z;exact Z)|(apply Zs;(iterate 4 exact Z))|exact AE.nil _ _ _ _|(apply Zx;exact Z)|(apply Vs;exact Z)|(apply ZA;exact Z;exact Z;decide +kernel;exact Z)|(apply ZB;exact Z)|(apply UB;exact Z)|exact AO.nil _ _ _|(apply Zr;(decide +kernel))|(apply Z4;(iterate 3 exact Z))|exact AOs.nil|exact ZM rfl rfl|exact VR rfl)
  all_goals exact Qe
def V4 (d:List UInt8):EidV × Bool:=((match(Ys (Yh d 0).1).2 with|true=>(Ys (Yh d 0).1).1|false=>YU),WB d&&(Ys (Yh d 0).1).2)
theorem JB [Known][KnownU8](d:List UInt8)(hd:d.length<=140737488351232):AP Tryz.prog 61 [byE d] (.tup [.agg (eC (V4 d).1),.bool (V4 d).2]) []:=by
 have hI:=K1 d hd
 have hR:=QZ (Yh d 0).1 (GJ d hd)
 unfold V4
 dsimp only
 generalize (Yh d 0).1=x at *
 generalize Ys x=r at *
 obtain⟨⟨zi,zn,zs,zh,zd⟩,ok⟩:=r
 obtain⟨k,n,b,l⟩:=x
 unfold IX at hR
 cases ok with
 | false=>
  replace hR:AP Tryz.prog _ _ (.tup [.agg [.bool false,.int .u64 0,.int .u64 0,.str [],.str []],.int .i64 3]) []:=hR
  cases hs:WB d<;>rw[hs]at hI
  all_goals
   refine AP.ofA (Zk Tryz.func61 Z Tryz.ntmps61 Z Z ?_)
   repeat'(first|(apply Zb (hI);kernel_rfl;(iterate 4 exact Z))|(apply Zb (hR);kernel_rfl;(iterate 4 exact Z))|(apply Zh Za;exact Z)|(apply Ze Za;exact Z)|refine Zg Z Z Z Qt ?_|refine Zv Z Z Z Qt ?_|refine Zl Z Qt Z Z ?_|refine Zi Z Qt Z Z ?_)
   all_goals exact Qe
 | true=>
  replace hR:AP Tryz.prog _ _ (.tup [.agg [.bool zi,.int .u64 (zn:Int),.int .u64 (zs:Int),.str zh,.str zd],.int .i64 0]) []:=hR
  cases hs:WB d<;>rw[hs]at hI
  all_goals
   refine AP.ofA (Zk Tryz.func61 Z Tryz.ntmps61 Z Z ?_)
   repeat'(first|(apply Zb (hI);kernel_rfl;(iterate 4 exact Z))|(apply Zb (hR);kernel_rfl;(iterate 4 exact Z))|(apply Zh Za;exact Z)|(apply Ze Za;exact Z)|refine Zg Z Z Z Qt ?_|refine Zv Z Z Z Qt ?_|refine Zl Z Qt Z Z ?_|refine Zi Z Qt Z Z ?_)
   all_goals exact Qe
def JI (d:List UInt8):Nat × Bool:=((Yh d 0).1.n,WB d&&(It.beq (Yh d 0).1 (.mk 0 (Yh d 0).1.n [] [])&&decide (((Yh d 0).1.n:Int)<=1099511627776)))
theorem TZ [Known][KnownU8](d:List UInt8)(hd:d.length<=140737488351232):AP Tryz.prog 136 [byE d] (.tup [.int .u64 ((JI d).1:Int),.bool (JI d).2]) []:=by
 have hI:=K1 d hd
 have hw:=GJ d hd
 unfold JI
 dsimp only
 generalize (Yh d 0).1=x at *
 obtain⟨k,n,b,l⟩:=x
 have hS:=VK (.mk k n b l) hw (.mk 0 n [] []) ⟨hw.1,by simp,by simp,trivial⟩
 have hN:=YI n
 dsimp only[It.n]
 cases hs:WB d with
 | false=>
  rw[hs]at hI
  refine AP.ofA (Zk Tryz.func136 Z Tryz.ntmps136 Z Z ?_)
  repeat'(first|(apply Zb (hI);kernel_rfl;(iterate 4 exact Z))|(apply Zh Za;exact Z)|(apply Ze Za;exact Z)|refine Zv Z Z Z Qt ?_|refine Zi Z Qt Z Z ?_|(apply Zn 16 ZF;decide +kernel;kernel_rfl;kernel_rfl;kernel_rfl;exact Z;exact Z)|(apply Zs;(iterate 4 exact Z))|exact AE.nil _ _ _ _|(apply Zx;exact Z)|(apply ZA;exact Z;exact Z;decide +kernel;exact Z)|(apply ZB;exact Z)|exact AO.nil _ _ _|(apply Zr;(decide +kernel))|exact AOs.nil|exact ZM rfl rfl)
  all_goals exact Qe
 | true=>
 rw[hs]at hI
 cases t1:It.beq (.mk k n b l) (.mk 0 n [] []) with
 | false=>
  rw[t1]at hS
  refine AP.ofA (Zk Tryz.func136 Z Tryz.ntmps136 Z Z ?_)
  repeat'(first|(apply Zb (hI);kernel_rfl;(iterate 4 exact Z))|(apply Zb (hS);kernel_rfl;(iterate 4 exact Z))|(apply Zb (hN);kernel_rfl;(iterate 4 exact Z))|(apply Zh Za;exact Z)|(apply Ze Za;exact Z)|refine Zg Z Z Z Qt ?_|refine Zv Z Z Z Qt ?_|refine Zl Z Qt Z Z ?_|refine Zi Z Qt Z Z ?_|(apply Zn 16 ZF;decide +kernel;kernel_rfl;kernel_rfl;kernel_rfl;exact Z;exact Z)|(apply Zs;(iterate 4 exact Z))|exact AE.nil _ _ _ _|(apply Zx;exact Z)|(apply ZA;exact Z;exact Z;decide +kernel;exact Z)|(apply ZB;exact Z)|exact AO.nil _ _ _|(apply Zr;(decide +kernel))|exact AOs.nil|exact ZM rfl rfl)
  all_goals exact Qe
 | true=>
 rw[t1]at hS
 cases t2:decide ((n:Int)<=1099511627776)
 all_goals
  refine AP.ofA (Zk Tryz.func136 Z Tryz.ntmps136 Z Z ?_)
  repeat'(first|(apply Zb (hI);kernel_rfl;(iterate 4 exact Z))|(apply Zb (hS);kernel_rfl;(iterate 4 exact Z))|(apply Zb (hN);kernel_rfl;(iterate 4 exact Z))|(apply Zh Za;exact Z)|(apply Ze Za;exact Z)|refine Zg Z Z Z Qt ?_|refine Zl Z Qt Z Z ?_|(apply Zn 16 ZF;decide +kernel;kernel_rfl;kernel_rfl;kernel_rfl;exact Z;exact Z)|(apply Zs;(iterate 4 exact Z))|exact AE.nil _ _ _ _|(apply Zx;exact Z)|(apply ZA;exact Z;exact Z;decide +kernel;exact Z)|(apply ZB;exact Z)|exact AO.nil _ _ _|(apply Zr;(decide +kernel))|exact AOs.nil|exact ZM rfl rfl)
  all_goals exact Qe
def T0 (ok:Bool)(x:It):Nat × Nat × Bool:=match ok with
 | false=>(0,0,false)
 | true=>match x with
  | .mk k n b l=>match k==4 with
   | false=>(0,0,false)
   | true=>match l with
    | [.mk k1 n1 b1 l1,.mk k2 n2 b2 l2]=>(n1,n2,It.beq (.mk k n b [.mk k1 n1 b1 l1,.mk k2 n2 b2 l2]) (.mk 4 0 [] [.mk 0 n1 [] [],.mk 0 n2 [] []])&&(decide ((n1:Int) ≥ 1)&&(decide ((n1:Int)<=255)&&decide ((n2:Int)<=(n1:Int)))))
    | _=>(0,0,false)
def Vg (d:List UInt8):Nat × Nat × Bool:=T0 (WB d) (Yh d 0).1
theorem Ru [Known][KnownU8](d:List UInt8)(k:Int)(n:Nat)(b:List UInt8)(l:List It)(hI:AP Tryz.prog 95 [byE d] (.tup [itD (.mk k n b l),.bool false]) []):AP Tryz.prog 49 [byE d] (.tup [.int .u64 0,.int .u64 0,.bool false]) []:=by
 refine AP.ofA (Zk Tryz.func49 Z Tryz.ntmps49 Z Z ?_)
 repeat'(first|(apply Zb (hI);kernel_rfl;(iterate 4 exact Z))|(apply Zh Za;exact Z)|(apply Ze Za;exact Z)|(apply Zq Za;exact Z)|refine Zp Z Z Z Qt ?_|refine Zl Z Qt Z Z ?_|refine Zd Z Qt ?_)
 all_goals exact Qe
theorem Rv [Known][KnownU8](d:List UInt8)(k:Int)(n:Nat)(b:List UInt8)(l:List It)(hI:AP Tryz.prog 95 [byE d] (.tup [itD (.mk k n b l),.bool true]) [])(tk:(k==4)=false):AP Tryz.prog 49 [byE d] (.tup [.int .u64 0,.int .u64 0,.bool false]) []:=by
 have tk2:(k != 4)=true:=by rw[bne,tk];rfl
 refine AP.ofA (Zk Tryz.func49 Z Tryz.ntmps49 Z Z ?_)
 repeat'(first|(apply Zb (hI);kernel_rfl;(iterate 4 exact Z))|(apply Zh Za;exact Z)|(apply Ze Za;exact Z)|(apply Zq Za;exact Z)|refine Zg Z Z Z Qt ?_|refine Zp Z Z Z Qt ?_|refine Zl Z Qt Z Z ?_|refine Zi Z Qt Z Z ?_|refine Zd Z Qt ?_)
 all_goals exact Qe
theorem Ls [Known][KnownU8](d:List UInt8)(k:Int)(n:Nat)(b:List UInt8)(l:List It)(hI:AP Tryz.prog 95 [byE d] (.tup [itD (.mk k n b l),.bool true]) [])(tk:(k==4)=true)(h2:l.length ≠ 2):AP Tryz.prog 49 [byE d] (.tup [.int .u64 0,.int .u64 0,.bool false]) []:=by
 have tk2:(k != 4)=false:=by rw[bne,tk];rfl
 have hlen:=Zw l
 have t2:(((Zt l).length:Int) != 2)=true:=by rw[hlen];simp;omega
 refine AP.ofA (Zk Tryz.func49 Z Tryz.ntmps49 Z Z ?_)
 repeat'(first|(apply Zb (hI);kernel_rfl;(iterate 4 exact Z))|(apply Zh Za;exact Z)|(apply Ze Za;exact Z)|(apply Zq Za;exact Z)|refine Zg Z Z Z Qt ?_|refine Zi Z Qt Z Z ?_|refine Zd Z Qt ?_|refine Zm Za Z Z Z Z ?_)
 all_goals exact Qe
theorem Rw [Known][KnownU8](d:List UInt8)(k:Int)(n:Nat)(b:List UInt8)(L:List E)(k1:Int)(n1:Nat)(b1:List UInt8)(l1:List It)(k2:Int)(n2:Nat)(b2:List UInt8)(l2:List It)(s:Bool)(N:D)
  (hI:AP Tryz.prog 95 [byE d] (.tup [.agg [.int .i64 k,.int .u64 (n:Int),byE b,.sl .ext L],.bool true]) []) (tk2:(k != 4)=false) (t2:((L.length:Int) != 2)=false) (hU:Uni 4 L)
  (hv0:L[(0:Int).toNat]?=some (.agg [.int .i64 k1,.int .u64 (n1:Int),.sl (b1.map E.byte),.sl (Zt l1)])) (hv1:L[(1:Int).toNat]?=some (.agg [.int .i64 k2,.int .u64 (n2:Int),.sl (b2.map E.byte),.sl (Zt l2)]))
  (hN:AP Tryz.prog 97 [.sl .ext [.int .u64 (n1:Int),.int .u64 (n2:Int)]] (.agg [.int .i64 4,.int .u64 0,.sl .ext [],.sl .ext [nmE n1,nmE n2]]) []) (hS:AP Tryz.prog 96 [.agg [.int .i64 k,.int .u64 (n:Int),byE b,.sl .ext L],.agg [.int .i64 4,.int .u64 0,.sl .ext [],.sl .ext [nmE n1,nmE n2]]] (.bool s) []) (ts:s=false) :
  AP Tryz.prog 49 [byE d] (.tup [.int .u64 (n1:Int),.int .u64 (n2:Int),.bool false]) []:=by
 subst ts
 refine AP.ofA (Zk Tryz.func49 Z Tryz.ntmps49 Z Z ?_)
 repeat'(first|(apply Zb (hI);kernel_rfl;(iterate 4 exact Z))|(apply Zb (hS);kernel_rfl;(iterate 4 exact Z))|(apply Zb (hN);kernel_rfl;(iterate 4 exact Z))|(apply Zh Za;exact Z)|(apply Ze Za;exact Z)|(apply Zq Za;exact Z)|refine Zg Z Z Z Qt ?_|refine Zv Z Z Z Qt ?_|refine Zi Z Qt Z Z ?_|refine Zf Z Qt ?_|refine Zm Za Z Z Z Z ?_|refine ZT Za Z Z Z Z Z Z Z Z Z Z Z Z ?_|(apply Zn 11 ZF;decide +kernel;kernel_rfl;kernel_rfl;kernel_rfl;exact Z;exact Z)|(apply Zn 23 ZF;decide +kernel;kernel_rfl;kernel_rfl;kernel_rfl;exact Z;exact Z)|(apply Zs;(iterate 4 exact Z))|exact AE.nil _ _ _ _|(apply Zx;exact Z)|(apply ZA;exact Z;exact Z;decide +kernel;exact Z)|(apply ZB;exact Z)|exact AO.nil _ _ _|(apply Zr;(decide +kernel))|exact AOs.nil|exact ZM rfl rfl|exact Wi rfl rfl rfl rfl rfl|(apply Zu Za;(iterate 6 exact Z);(first|exact Qt|rotate_left);(first|with_reducible assumption|decide +kernel|exact Z);(first|exact Zj rfl|with_reducible assumption|decide +kernel|rotate_left)))
 all_goals exact Qe
theorem Rx [Known][KnownU8](d:List UInt8)(k:Int)(n:Nat)(b:List UInt8)(L:List E)(k1:Int)(n1:Nat)(b1:List UInt8)(l1:List It)(k2:Int)(n2:Nat)(b2:List UInt8)(l2:List It)(s:Bool)(N:D)
  (hI:AP Tryz.prog 95 [byE d] (.tup [.agg [.int .i64 k,.int .u64 (n:Int),byE b,.sl .ext L],.bool true]) []) (tk2:(k != 4)=false) (t2:((L.length:Int) != 2)=false) (hU:Uni 4 L)
  (hv0:L[(0:Int).toNat]?=some (.agg [.int .i64 k1,.int .u64 (n1:Int),.sl (b1.map E.byte),.sl (Zt l1)])) (hv1:L[(1:Int).toNat]?=some (.agg [.int .i64 k2,.int .u64 (n2:Int),.sl (b2.map E.byte),.sl (Zt l2)]))
  (hN:AP Tryz.prog 97 [.sl .ext [.int .u64 (n1:Int),.int .u64 (n2:Int)]] (.agg [.int .i64 4,.int .u64 0,.sl .ext [],.sl .ext [nmE n1,nmE n2]]) []) (hS:AP Tryz.prog 96 [.agg [.int .i64 k,.int .u64 (n:Int),byE b,.sl .ext L],.agg [.int .i64 4,.int .u64 0,.sl .ext [],.sl .ext [nmE n1,nmE n2]]] (.bool s) []) (ts:s=true) (t4:decide ((n1:Int) ≥ 1)=false) :
  AP Tryz.prog 49 [byE d] (.tup [.int .u64 (n1:Int),.int .u64 (n2:Int),.bool false]) []:=by
 subst ts
 refine AP.ofA (Zk Tryz.func49 Z Tryz.ntmps49 Z Z ?_)
 repeat'(first|(apply Zb (hI);kernel_rfl;(iterate 4 exact Z))|(apply Zb (hS);kernel_rfl;(iterate 4 exact Z))|(apply Zb (hN);kernel_rfl;(iterate 4 exact Z))|(apply Zh Za;exact Z)|(apply Ze Za;exact Z)|(apply Zq Za;exact Z)|refine Zg Z Z Z Qt ?_|refine Zv Z Z Z Qt ?_|refine Zl Z Qt Z Z ?_|refine Zi Z Qt Z Z ?_|refine Zf Z Qt ?_|refine Zm Za Z Z Z Z ?_|refine ZT Za Z Z Z Z Z Z Z Z Z Z Z Z ?_|(apply Zn 11 ZF;decide +kernel;kernel_rfl;kernel_rfl;kernel_rfl;exact Z;exact Z)|(apply Zn 23 ZF;decide +kernel;kernel_rfl;kernel_rfl;kernel_rfl;exact Z;exact Z)|(apply Zs;(iterate 4 exact Z))|exact AE.nil _ _ _ _|(apply Zx;exact Z)|(apply ZA;exact Z;exact Z;decide +kernel;exact Z)|(apply ZB;exact Z)|exact AO.nil _ _ _|(apply Zr;(decide +kernel))|exact AOs.nil|exact ZM rfl rfl|exact Wi rfl rfl rfl rfl rfl|(apply Zu Za;(iterate 6 exact Z);(first|exact Qt|rotate_left);(first|with_reducible assumption|decide +kernel|exact Z);(first|exact Zj rfl|with_reducible assumption|decide +kernel|rotate_left)))
 all_goals exact Qe
end Go.Proofs.YtmljabhmajehnaaGreatDoor
end
