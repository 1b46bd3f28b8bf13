/- Package eid: an item's name. -/
import Derived.Test.YtkdpfkjlheajhaaGreatDoorE24
import Derived.Test.YtkdpfkjlheajhaaGreatDoorE25
import Derived.Test.YtkdpfkjlheajhaaGreatDoorE21
set_option linter.unusedVariables false
set_option linter.unusedSimpArgs false
section
open Go.RowKit Go.Pl Go.Av
namespace Go.Proofs.YtkdpfkjlheajhaaGreatDoor
set_option maxHeartbeats 4000000
def Xb (s r:It):EidV × Bool:=
 match Uj 1 s with
 | true=>(match Uj 0 r with
  | true=>(ZN,true)
  | false=>(match r.k==3 with
   | true=>ppV r.b
   | false=>(ZN,false)))
 | false=>(match Uj 2 s with
  | true=>(match XI r with
   | some (a,c)=>(⟨true,a,c,[],[]⟩,Yh ⟨true,a,c,[],[]⟩)
   | none=>(ZN,false))
  | false=>(ZN,false))
def Y6 (x:It):EidV × Bool:=match ZV x,x with
 | true,.mk k _ _ [s,r]=>if k=4 then Xb s r else(ZN,false)
 | _,_=>(ZN,false)
abbrev Ht (x:EidV × Bool):D:=.tup [.agg (eC (match x.2 with|true=>x.1|false=>ZN)),.int .i64 (match x.2 with|true=>0|false=>3)]
theorem KN [Known][KnownU8](x:It)(hw:wfI x)(h:ZV x=false\/x.k ≠ 4\/x.l.length ≠ 2):AP Tryz.prog 143 [itD x] (Ht (ZN,false)) []:=by
 have hR:=Wu x hw
 show AP Tryz.prog _ _ (.tup [.agg [.bool false,.int .u64 0,.int .u64 0,.str [],.str []],.int .i64 3]) []
 cases hr:ZV x with
 | false=>
  rw[hr]at hR
  obtain⟨k,n,b,l⟩:=x
  refine AP.ofA (Zl Tryz.func143 Z Tryz.ntmps143 Z Z ?_)
  repeat'(first|(apply Zb (hR);kernel_rfl;(iterate 4 exact Z))|(apply Zi Za;exact Z)|(apply Zg Za;exact Z)|(apply Zu Za;exact Z)|refine Zp Z Z Z Qt ?_|refine Zk Z Qt Z Z ?_|refine Zd Z Qt ?_)
  all_goals exact Qe
 | true=>
  rw[hr]at hR h
  obtain⟨k,n,b,l⟩:=x
  simp only[It.k,It.l]at h
  by_cases hk:k=4
  ·have t1:(k != 4)=false:=by simpa using hk
   have hl:l.length ≠ 2:=by
    rcases h with h|h|h
    ·cases h
    ·exact absurd hk h
    ·exact h
   have t2:(((Zx l).length:Int) != 2)=true:=by rw[ZD];simp;omega
   refine AP.ofA (Zl Tryz.func143 Z Tryz.ntmps143 Z Z ?_)
   repeat'(first|(apply Zb (hR);kernel_rfl;(iterate 4 exact Z))|(apply Zi Za;exact Z)|(apply Zg Za;exact Z)|(apply Zu Za;exact Z)|refine Ze Z Z Z Qt ?_|refine Zj Z Qt Z Z ?_|refine Zd Z Qt ?_|refine Zt Za Z Z Z Z ?_)
   all_goals exact Qe
  ·have t1:(k != 4)=true:=by simpa using hk
   refine AP.ofA (Zl Tryz.func143 Z Tryz.ntmps143 Z Z ?_)
   repeat'(first|(apply Zb (hR);kernel_rfl;(iterate 4 exact Z))|(apply Zi Za;exact Z)|(apply Zg Za;exact Z)|(apply Zu Za;exact Z)|refine Ze Z Z Z Qt ?_|refine Zp Z Z Z Qt ?_|refine Zk Z Qt Z Z ?_|refine Zj Z Qt Z Z ?_|refine Zd Z Qt ?_)
   all_goals exact Qe
theorem Sw [Known][KnownU8](n:Nat)(b:List UInt8)(s r:It)(hw:wfI (.mk 4 n b [s,r]))(hr:ZV (.mk 4 n b [s,r])=true)(h1:Uj 1 s=true):AP Tryz.prog 143 [itD (.mk 4 n b [s,r])] (Ht (Xb s r)) []:=by
 have hR:=Wu _ hw
 rw[hr]at hR
 obtain⟨_,_,_,hws,hwr,_⟩:=hw
 have e1:s=.mk 0 1 [] []:=It.beq_iff.1 h1
 have hS1:=V5 s hws 1 (by omega)
 have hS2:=V5 s hws 2 (by omega)
 have hR0:=V5 r hwr 0 (by omega)
 have n0:=UU 0
 have n1:=UU 1
 have n2:=UU 2
 replace n0:AP Tryz.prog _ [.int .u64 0] (.agg [.int .i64 0,.int .u64 0,.sl .ext [],.sl .ext []]) []:=n0
 replace n1:AP Tryz.prog _ [.int .u64 1] (.agg [.int .i64 0,.int .u64 1,.sl .ext [],.sl .ext []]) []:=n1
 replace n2:AP Tryz.prog _ [.int .u64 2] (.agg [.int .i64 0,.int .u64 2,.sl .ext [],.sl .ext []]) []:=n2
 have h2:Uj 2 s=false:=by rw[e1];rfl
 rw[h1]at hS1
 rw[h2]at hS2
 have hU:=Wl [s,r]
 unfold Xb
 rw[h1]
 dsimp only
 have hbl:r.b.length<=140737488351232:=by obtain⟨kr,nr,br,lr⟩:=r;exact hwr.2.1
 have hP:=RK r.b hbl
 obtain⟨ks,ns,bs,ls⟩:=s
 obtain⟨kr,nr,br,lr⟩:=r
 simp only[It.b,It.k]at hP ⊢
 have t2:(((Zx [It.mk ks ns bs ls,It.mk kr nr br lr]).length:Int) != 2)=false:=rfl
 cases h0:Uj 0 (.mk kr nr br lr) with
 | true=>
  rw[h0]at hR0
  show AP Tryz.prog _ _ (.tup [.agg [.bool false,.int .u64 0,.int .u64 0,.str [],.str []],.int .i64 0]) []
  refine AP.ofA (Zl Tryz.func143 Z Tryz.ntmps143 Z Z ?_)
  repeat'(first|(apply UG 11 Za ZF;decide +kernel;kernel_rfl;kernel_rfl;kernel_rfl;exact Z;exact Z)|exact AV.nil _ _|(apply OO;exact Z;exact Z)|(apply OP;(iterate 4 exact Z))|(apply ON;(iterate 4 exact Z))|refine Xa Z Z Z Z ?_|(apply Zb (hR);kernel_rfl;(iterate 4 exact Z))|(apply Zb (hS1);kernel_rfl;(iterate 4 exact Z))|(apply Zb (hR0);kernel_rfl;(iterate 4 exact Z))|(apply Zb (n0);kernel_rfl;(iterate 4 exact Z))|(apply Zb (n1);kernel_rfl;(iterate 4 exact Z))|(apply Zi Za;exact Z)|(apply Zg Za;exact Z)|(apply Zu Za;exact Z)|refine Ze Z Z Z Qt ?_|refine Zk Z Qt Z Z ?_|refine Zj Z Qt Z Z ?_|refine Zd Z Qt ?_|refine Zf Z Qt ?_|refine Zt Za Z Z Z Z ?_|(apply Zn 6 ZF;decide +kernel;kernel_rfl;kernel_rfl;kernel_rfl;exact Z;exact Z)|(apply Zr;(iterate 4 exact Z))|exact AE.nil _ _ _ _|(apply Zw;exact Z)|(apply ZA;exact Z;exact Z;decide +kernel;exact Z)|(apply ZB;exact Z)|exact AO.nil _ _ _|(apply Zq;(decide +kernel))|exact AOs.nil|exact ZG rfl rfl|(apply ZC Za;(iterate 6 exact Z);(first|exact Qt|rotate_left);(first|with_reducible assumption|decide +kernel|exact Z);(first|exact Zm rfl|with_reducible assumption|decide +kernel|rotate_left)))
  all_goals exact Qe
 | false=>
  rw[h0]at hR0
  generalize ppV br=xp at *
  obtain⟨⟨qi,qn,qs,qh,qd⟩,qb⟩:=xp
  replace hP:AP Tryz.prog _ [.str br] (.tup [.agg [.bool qi,.int .u64 (qn:Int),.int .u64 (qs:Int),.str qh,.str qd],.bool qb]) []:=hP
  cases hk:kr==3 with
  | true=>
   cases qb
   all_goals
    refine AP.ofA (Zl Tryz.func143 Z Tryz.ntmps143 Z Z ?_)
    repeat'(first|(apply UG 11 Za ZF;decide +kernel;kernel_rfl;kernel_rfl;kernel_rfl;exact Z;exact Z)|exact AV.nil _ _|(apply OO;exact Z;exact Z)|(apply OP;(iterate 4 exact Z))|(apply ON;(iterate 4 exact Z))|refine Xa Z Z Z Z ?_|(apply Zb (hR);kernel_rfl;(iterate 4 exact Z))|(apply Zb (hS1);kernel_rfl;(iterate 4 exact Z))|(apply Zb (hR0);kernel_rfl;(iterate 4 exact Z))|(apply Zb (n0);kernel_rfl;(iterate 4 exact Z))|(apply Zb (n1);kernel_rfl;(iterate 4 exact Z))|(apply Zb (hP);kernel_rfl;(iterate 4 exact Z))|(apply Zi Za;exact Z)|(apply Zg Za;exact Z)|(apply Zu Za;exact Z)|refine Ze Z Z Z Qt ?_|refine Zk Z Qt Z Z ?_|refine Zj Z Qt Z Z ?_|refine Zd Z Qt ?_|refine Zf Z Qt ?_|refine Zt Za Z Z Z Z ?_|(apply Zn 2 ZF;decide +kernel;kernel_rfl;kernel_rfl;kernel_rfl;exact Z;exact Z)|(apply Zn 6 ZF;decide +kernel;kernel_rfl;kernel_rfl;kernel_rfl;exact Z;exact Z)|(apply Zr;(iterate 4 exact Z))|exact AE.nil _ _ _ _|(apply Zw;exact Z)|(apply ZA;exact Z;exact Z;decide +kernel;exact Z)|(apply ZB;exact Z)|exact AO.nil _ _ _|(apply Zq;(decide +kernel))|exact AOs.nil|exact ZG rfl rfl|(apply ZC Za;(iterate 6 exact Z);(first|exact Qt|rotate_left);(first|with_reducible assumption|decide +kernel|exact Z);(first|exact Zm rfl|with_reducible assumption|decide +kernel|rotate_left))|refine Vl Za Z Z Z Z Z Z Z Z Z ?_)
    all_goals exact Qe
  | false=>
   refine AP.ofA (Zl Tryz.func143 Z Tryz.ntmps143 Z Z ?_)
   repeat'(first|(apply UG 11 Za ZF;decide +kernel;kernel_rfl;kernel_rfl;kernel_rfl;exact Z;exact Z)|exact AV.nil _ _|(apply OO;exact Z;exact Z)|(apply OP;(iterate 4 exact Z))|(apply ON;(iterate 4 exact Z))|refine Xa Z Z Z Z ?_|(apply Zb (hR);kernel_rfl;(iterate 4 exact Z))|(apply Zb (hS1);kernel_rfl;(iterate 4 exact Z))|(apply Zb (hS2);kernel_rfl;(iterate 4 exact Z))|(apply Zb (hR0);kernel_rfl;(iterate 4 exact Z))|(apply Zb (n0);kernel_rfl;(iterate 4 exact Z))|(apply Zb (n1);kernel_rfl;(iterate 4 exact Z))|(apply Zb (n2);kernel_rfl;(iterate 4 exact Z))|(apply Zi Za;exact Z)|(apply Zg Za;exact Z)|(apply Zu Za;exact Z)|refine Ze Z Z Z Qt ?_|refine Zk Z Qt Z Z ?_|refine Zj Z Qt Z Z ?_|refine Zd Z Qt ?_|refine Zf Z Qt ?_|refine Zt Za Z Z Z Z ?_|(apply Zn 2 ZF;decide +kernel;kernel_rfl;kernel_rfl;kernel_rfl;exact Z;exact Z)|(apply Zn 6 ZF;decide +kernel;kernel_rfl;kernel_rfl;kernel_rfl;exact Z;exact Z)|(apply Zr;(iterate 4 exact Z))|exact AE.nil _ _ _ _|(apply Zw;exact Z)|(apply ZA;exact Z;exact Z;decide +kernel;exact Z)|(apply ZB;exact Z)|exact AO.nil _ _ _|(apply Zq;(decide +kernel))|exact AOs.nil|exact ZG rfl rfl|(apply ZC Za;(iterate 6 exact Z);(first|exact Qt|rotate_left);(first|with_reducible assumption|decide +kernel|exact Z);(first|exact Zm rfl|with_reducible assumption|decide +kernel|rotate_left)))
   all_goals exact Qe
theorem Sx [Known][KnownU8](n:Nat)(b:List UInt8)(s r:It)(hw:wfI (.mk 4 n b [s,r]))(hr:ZV (.mk 4 n b [s,r])=true)(h1:Uj 1 s=false):AP Tryz.prog 143 [itD (.mk 4 n b [s,r])] (Ht (Xb s r)) []:=by
 have hR:=Wu _ hw
 rw[hr]at hR
 obtain⟨_,_,_,hws,hwr,_⟩:=hw
 have hS1:=V5 s hws 1 (by omega)
 have hS2:=V5 s hws 2 (by omega)
 have hN:=L7 r hwr
 have n1:=UU 1
 have n2:=UU 2
 replace n1:AP Tryz.prog _ [.int .u64 1] (.agg [.int .i64 0,.int .u64 1,.sl .ext [],.sl .ext []]) []:=n1
 replace n2:AP Tryz.prog _ [.int .u64 2] (.agg [.int .i64 0,.int .u64 2,.sl .ext [],.sl .ext []]) []:=n2
 rw[h1]at hS1
 have hU:=Wl [s,r]
 unfold Xb
 rw[h1]
 dsimp only
 obtain⟨ks,ns,bs,ls⟩:=s
 obtain⟨kr,nr,br,lr⟩:=r
 have t2:(((Zx [It.mk ks ns bs ls,It.mk kr nr br lr]).length:Int) != 2)=false:=rfl
 cases h2:Uj 2 (.mk ks ns bs ls) with
 | false=>
  rw[h2]at hS2
  show AP Tryz.prog _ _ (.tup [.agg [.bool false,.int .u64 0,.int .u64 0,.str [],.str []],.int .i64 3]) []
  refine AP.ofA (Zl Tryz.func143 Z Tryz.ntmps143 Z Z ?_)
  repeat'(first|(apply UG 11 Za ZF;decide +kernel;kernel_rfl;kernel_rfl;kernel_rfl;exact Z;exact Z)|exact AV.nil _ _|(apply OO;exact Z;exact Z)|(apply OP;(iterate 4 exact Z))|(apply ON;(iterate 4 exact Z))|refine Xa Z Z Z Z ?_|(apply Zb (hR);kernel_rfl;(iterate 4 exact Z))|(apply Zb (hS1);kernel_rfl;(iterate 4 exact Z))|(apply Zb (hS2);kernel_rfl;(iterate 4 exact Z))|(apply Zb (n1);kernel_rfl;(iterate 4 exact Z))|(apply Zb (n2);kernel_rfl;(iterate 4 exact Z))|(apply Zi Za;exact Z)|(apply Zg Za;exact Z)|(apply Zu Za;exact Z)|refine Ze Z Z Z Qt ?_|refine Zv Z Z Z Qt ?_|refine Zj Z Qt Z Z ?_|refine Zd Z Qt ?_|refine Zf Z Qt ?_|refine Zt Za Z Z Z Z ?_|(apply Zn 2 ZF;decide +kernel;kernel_rfl;kernel_rfl;kernel_rfl;exact Z;exact Z)|(apply Zn 6 ZF;decide +kernel;kernel_rfl;kernel_rfl;kernel_rfl;exact Z;exact Z)|(apply Zr;(iterate 4 exact Z))|exact AE.nil _ _ _ _|(apply Zw;exact Z)|(apply ZA;exact Z;exact Z;decide +kernel;exact Z)|(apply ZB;exact Z)|exact AO.nil _ _ _|(apply Zq;(decide +kernel))|exact AOs.nil|exact ZG rfl rfl|(apply ZC Za;(iterate 6 exact Z);(first|exact Qt|rotate_left);(first|with_reducible assumption|decide +kernel|exact Z);(first|exact Zm rfl|with_reducible assumption|decide +kernel|rotate_left)))
  all_goals exact Qe
 | true=>
  rw[h2]at hS2
  dsimp only
  cases hq:XI (.mk kr nr br lr) with
  | none=>
   rw[hq]at hN
   replace hN:AP Tryz.prog _ _ (.tup [.sl .ext [],.bool false]) []:=hN
   show AP Tryz.prog _ _ (.tup [.agg [.bool false,.int .u64 0,.int .u64 0,.str [],.str []],.int .i64 3]) []
   refine AP.ofA (Zl Tryz.func143 Z Tryz.ntmps143 Z Z ?_)
   repeat'(first|(apply UG 11 Za ZF;decide +kernel;kernel_rfl;kernel_rfl;kernel_rfl;exact Z;exact Z)|exact AV.nil _ _|(apply OO;exact Z;exact Z)|(apply OP;(iterate 4 exact Z))|(apply ON;(iterate 4 exact Z))|refine Xa Z Z Z Z ?_|(apply Zb (hR);kernel_rfl;(iterate 4 exact Z))|(apply Zb (hS1);kernel_rfl;(iterate 4 exact Z))|(apply Zb (hS2);kernel_rfl;(iterate 4 exact Z))|(apply Zb (n1);kernel_rfl;(iterate 4 exact Z))|(apply Zb (n2);kernel_rfl;(iterate 4 exact Z))|(apply Zb (hN);kernel_rfl;(iterate 4 exact Z))|(apply Zi Za;exact Z)|(apply Zg Za;exact Z)|(apply Zu Za;exact Z)|refine Ze Z Z Z Qt ?_|refine Zv Z Z Z Qt ?_|refine Zj Z Qt Z Z ?_|refine Zd Z Qt ?_|refine Zf Z Qt ?_|refine Zt Za Z Z Z Z ?_|(apply Zn 2 ZF;decide +kernel;kernel_rfl;kernel_rfl;kernel_rfl;exact Z;exact Z)|(apply Zn 6 ZF;decide +kernel;kernel_rfl;kernel_rfl;kernel_rfl;exact Z;exact Z)|(apply Zr;(iterate 4 exact Z))|exact AE.nil _ _ _ _|(apply Zw;exact Z)|(apply ZA;exact Z;exact Z;decide +kernel;exact Z)|(apply ZB;exact Z)|exact AO.nil _ _ _|(apply Zq;(decide +kernel))|exact AOs.nil|exact ZG rfl rfl|(apply ZC Za;(iterate 6 exact Z);(first|exact Qt|rotate_left);(first|with_reducible assumption|decide +kernel|exact Z);(first|exact Zm rfl|with_reducible assumption|decide +kernel|rotate_left)))
   all_goals exact Qe
  | some ac=>
   obtain⟨a,c⟩:=ac
   rw[hq]at hN
   replace hN:AP Tryz.prog _ _ (.tup [.sl .ext [.int .u64 (a:Int),.int .u64 (c:Int)],.bool true]) []:=hN
   have hE:=WH ⟨true,a,c,[],[]⟩
   dsimp only
   generalize Yh ⟨true,a,c,[],[]⟩=R at *
   replace hE:AP Tryz.prog _ [.agg [.bool true,.int .u64 (a:Int),.int .u64 (c:Int),.str [],.str []]] (.bool R) []:=hE
   cases R
   all_goals
    refine AP.ofA (Zl Tryz.func143 Z Tryz.ntmps143 Z Z ?_)
    repeat'(first|(apply UG 11 Za ZF;decide +kernel;kernel_rfl;kernel_rfl;kernel_rfl;exact Z;exact Z)|exact AV.nil _ _|(apply OO;exact Z;exact Z)|(apply OP;(iterate 4 exact Z))|(apply ON;(iterate 4 exact Z))|refine Xa Z Z Z Z ?_|(apply Zb (hR);kernel_rfl;(iterate 4 exact Z))|(apply Zb (hS1);kernel_rfl;(iterate 4 exact Z))|(apply Zb (hS2);kernel_rfl;(iterate 4 exact Z))|(apply Zb (n1);kernel_rfl;(iterate 4 exact Z))|(apply Zb (n2);kernel_rfl;(iterate 4 exact Z))|(apply Zb (hN);kernel_rfl;(iterate 4 exact Z))|(apply Zb (hE);kernel_rfl;(iterate 4 exact Z))|(apply Zi Za;exact Z)|(apply Zg Za;exact Z)|(apply Zu Za;exact Z)|refine Ze Z Z Z Qt ?_|refine Zv Z Z Z Qt ?_|refine Zj Z Qt Z Z ?_|refine Zd Z Qt ?_|refine Zf Z Qt ?_|refine Zt Za Z Z Z Z ?_|(apply Zn 2 ZF;decide +kernel;kernel_rfl;kernel_rfl;kernel_rfl;exact Z;exact Z)|(apply Zn 6 ZF;decide +kernel;kernel_rfl;kernel_rfl;kernel_rfl;exact Z;exact Z)|(apply Zr;(iterate 4 exact Z))|exact AE.nil _ _ _ _|(apply Zw;exact Z)|(apply ZA;exact Z;exact Z;decide +kernel;exact Z)|(apply ZB;exact Z)|exact AO.nil _ _ _|(apply Zq;(decide +kernel))|exact AOs.nil|exact ZG rfl rfl|(apply ZC Za;(iterate 6 exact Z);(first|exact Qt|rotate_left);(first|with_reducible assumption|decide +kernel|exact Z);(first|exact Zm rfl|with_reducible assumption|decide +kernel|rotate_left)))
    all_goals exact Qe
theorem JH [Known][KnownU8](x:It)(hw:wfI x):AP Tryz.prog 143 [itD x] (Ht (Y6 x)) []:=by
 cases hr:ZV x with
 | false=>
  have e:Y6 x=(ZN,false):=by unfold Y6;rw[hr]
  rw[e]
  exact KN x hw (.inl hr)
 | true=>
  obtain⟨k,n,b,l⟩:=x
  by_cases hk:k=4
  ·subst hk
   match l,hw,hr with
   | [s,r],hw,hr=>
    have e:Y6 (.mk 4 n b [s,r])=Xb s r:=by unfold Y6;rw[hr];dsimp only;rw[if_pos rfl]
    rw[e]
    cases h1:Uj 1 s with
    | true=>exact Sw n b s r hw hr h1
    | false=>exact Sx n b s r hw hr h1
   | [],hw,hr=>
    have e:Y6 (.mk 4 n b [])=(ZN,false):=by unfold Y6;rw[hr]
    rw[e];exact KN _ hw (.inr (.inr (by simp[It.l])))
   | [s],hw,hr=>
    have e:Y6 (.mk 4 n b [s])=(ZN,false):=by unfold Y6;rw[hr]
    rw[e];exact KN _ hw (.inr (.inr (by simp[It.l])))
   | s::r::y::l,hw,hr=>
    have e:Y6 (.mk 4 n b (s::r::y::l))=(ZN,false):=by unfold Y6;rw[hr]
    rw[e];exact KN _ hw (.inr (.inr (by simp[It.l])))
  ·have e:Y6 (.mk k n b l)=(ZN,false):=by
    unfold Y6;rw[hr]
    match l with
    | [s,r]=>dsimp only;rw[if_neg hk]
    | []=>rfl
    | [s]=>rfl
    | s::r::y::l=>rfl
   rw[e]
   exact KN _ hw (.inr (.inl hk))
structure BlkV where
 ty:Nat
 num:Nat
 fl:Nat
 sum:Int
 data:List UInt8
abbrev bkC (b:BlkV):List D:=[.int .u64 (b.ty:Int),.int .u64 (b.num:Int),.int .u64 (b.fl:Int),.int .i64 b.sum,byE b.data]
theorem My (d:List UInt8)(hd:d.length<=140737488351232):wfI (YU d 0).1:=by
 rcases KE d (by omega) with⟨e,_,h,_⟩ | ⟨y,n,h,hw,_⟩
 ·rw[h];exact⟨by decide,by simp,by simp,trivial⟩
 ·rw[h];exact hw
theorem Iu [Known][KnownU8](d:List UInt8)(hd:d.length<=140737488351232):AP Tryz.prog 225 [byE d] (.tup [itD (YU d 0).1,.bool (W4 d)]) []:=by
 have hR:=KA d 0 (by omega)
 have hS:=Iq d (by omega)
 rcases KE d (by omega) with⟨e,he,h,hs⟩ | ⟨⟨k,n,b,l⟩,m,h,hw,hr,_⟩
 ·rw[h]at hR ⊢
  rw[hs]at hS ⊢
  replace hR:AP Tryz.prog _ _ (.tup [.agg [.int .i64 0,.int .u64 0,.sl .ext [],.sl .ext []],.int .i64 0,.int .i64 (e:Int)]) []:=hR
  have t1:((e:Int)==0)=false:=by rw[beq_eq_false_iff_ne];omega
  refine AP.ofA (Zl Tryz.func225 Z Tryz.ntmps225 Z Z ?_)
  repeat'(first|(apply Zb (hR);kernel_rfl;(iterate 4 exact Z))|(apply Zi Za;exact Z)|(apply Zg Za;exact Z)|refine Zv Z Z Z Qt ?_|refine Zj Z Qt Z Z ?_|(apply Zn 8 ZF;decide +kernel;kernel_rfl;kernel_rfl;kernel_rfl;exact Z;exact Z)|(apply Zr;(iterate 4 exact Z))|exact AE.nil _ _ _ _|(apply Zw;exact Z)|(apply Wv;exact Z)|(apply ZA;exact Z;exact Z;decide +kernel;exact Z)|(apply ZB;exact Z)|(apply Vf;exact Z)|exact AO.nil _ _ _|(apply Zq;(decide +kernel))|(apply ZM;(iterate 3 exact Z))|exact AOs.nil|exact ZG rfl rfl|exact WC rfl)
  all_goals exact Qe
 ·rw[h]at hR ⊢
  replace hR:AP Tryz.prog _ _ (.tup [.agg (itC k n b l),.int .i64 (m:Int),.int .i64 0]) []:=hR
  refine AP.ofA (Zl Tryz.func225 Z Tryz.ntmps225 Z Z ?_)
  repeat'(first|(apply Zb (hR);kernel_rfl;(iterate 4 exact Z))|(apply Zb (hS);kernel_rfl;(iterate 4 exact Z))|(apply Zi Za;exact Z)|(apply Zg Za;exact Z)|refine Ze Z Z Z Qt ?_|refine Zk Z Qt Z Z ?_|(apply Zn 8 ZF;decide +kernel;kernel_rfl;kernel_rfl;kernel_rfl;exact Z;exact Z)|(apply Zr;(iterate 4 exact Z))|exact AE.nil _ _ _ _|(apply Zw;exact Z)|(apply Wv;exact Z)|(apply ZA;exact Z;exact Z;decide +kernel;exact Z)|(apply ZB;exact Z)|(apply Vf;exact Z)|exact AO.nil _ _ _|(apply Zq;(decide +kernel))|(apply ZM;(iterate 3 exact Z))|exact AOs.nil|exact ZG rfl rfl|exact WC rfl)
  all_goals exact Qe
def OQ (d:List UInt8):EidV × Bool:=((match(Y6 (YU d 0).1).2 with|true=>(Y6 (YU d 0).1).1|false=>ZN),W4 d&&(Y6 (YU d 0).1).2)
theorem GG [Known][KnownU8](d:List UInt8)(hd:d.length<=140737488351232):AP Tryz.prog 206 [byE d] (.tup [.agg (eC (OQ d).1),.bool (OQ d).2]) []:=by
 have hI:=Iu d hd
 have hR:=JH (YU d 0).1 (My d hd)
 unfold OQ
 dsimp only
 generalize (YU d 0).1=x at *
 generalize Y6 x=r at *
 obtain⟨⟨zi,zn,zs,zh,zd⟩,ok⟩:=r
 obtain⟨k,n,b,l⟩:=x
 unfold Ht at hR
 cases ok with
 | false=>
  replace hR:AP Tryz.prog _ _ (.tup [.agg [.bool false,.int .u64 0,.int .u64 0,.str [],.str []],.int .i64 3]) []:=hR
  cases hs:W4 d<;>rw[hs]at hI
  all_goals
   refine AP.ofA (Zl Tryz.func206 Z Tryz.ntmps206 Z Z ?_)
   repeat'(first|(apply Zb (hI);kernel_rfl;(iterate 4 exact Z))|(apply Zb (hR);kernel_rfl;(iterate 4 exact Z))|(apply Zi Za;exact Z)|(apply Zg Za;exact Z)|refine Ze Z Z Z Qt ?_|refine Zv Z Z Z Qt ?_|refine Zk Z Qt Z Z ?_|refine Zj Z Qt Z Z ?_)
   all_goals exact Qe
 | true=>
  replace hR:AP Tryz.prog _ _ (.tup [.agg [.bool zi,.int .u64 (zn:Int),.int .u64 (zs:Int),.str zh,.str zd],.int .i64 0]) []:=hR
  cases hs:W4 d<;>rw[hs]at hI
  all_goals
   refine AP.ofA (Zl Tryz.func206 Z Tryz.ntmps206 Z Z ?_)
   repeat'(first|(apply Zb (hI);kernel_rfl;(iterate 4 exact Z))|(apply Zb (hR);kernel_rfl;(iterate 4 exact Z))|(apply Zi Za;exact Z)|(apply Zg Za;exact Z)|refine Ze Z Z Z Qt ?_|refine Zv Z Z Z Qt ?_|refine Zk Z Qt Z Z ?_|refine Zj Z Qt Z Z ?_)
   all_goals exact Qe
def Ng (d:List UInt8):Nat × Bool:=((YU d 0).1.n,W4 d&&(It.beq (YU d 0).1 (.mk 0 (YU d 0).1.n [] [])&&decide (((YU d 0).1.n:Int)<=1099511627776)))
theorem Sy [Known][KnownU8](d:List UInt8)(hd:d.length<=140737488351232):AP Tryz.prog 207 [byE d] (.tup [.int .u64 ((Ng d).1:Int),.bool (Ng d).2]) []:=by
 have hI:=Iu d hd
 have hw:=My d hd
 unfold Ng
 dsimp only
 generalize (YU d 0).1=x at *
 obtain⟨k,n,b,l⟩:=x
 have hS:=Ug (.mk k n b l) hw (.mk 0 n [] []) ⟨hw.1,by simp,by simp,trivial⟩
 have hN:=Wd n
 dsimp only[It.n]
 cases hs:W4 d with
 | false=>
  rw[hs]at hI
  refine AP.ofA (Zl Tryz.func207 Z Tryz.ntmps207 Z Z ?_)
  repeat'(first|(apply Zb (hI);kernel_rfl;(iterate 4 exact Z))|(apply Zi Za;exact Z)|(apply Zg Za;exact Z)|refine Zv Z Z Z Qt ?_|refine Zj Z Qt Z Z ?_|(apply Zn 16 ZF;decide +kernel;kernel_rfl;kernel_rfl;kernel_rfl;exact Z;exact Z)|(apply Zr;(iterate 4 exact Z))|exact AE.nil _ _ _ _|(apply Zw;exact Z)|(apply ZA;exact Z;exact Z;decide +kernel;exact Z)|(apply ZB;exact Z)|exact AO.nil _ _ _|(apply Zq;(decide +kernel))|exact AOs.nil|exact ZG rfl rfl)
  all_goals exact Qe
 | true=>
 rw[hs]at hI
 cases t1:It.beq (.mk k n b l) (.mk 0 n [] []) with
 | false=>
  rw[t1]at hS
  refine AP.ofA (Zl Tryz.func207 Z Tryz.ntmps207 Z Z ?_)
  repeat'(first|(apply Zb (hI);kernel_rfl;(iterate 4 exact Z))|(apply Zb (hS);kernel_rfl;(iterate 4 exact Z))|(apply Zb (hN);kernel_rfl;(iterate 4 exact Z))|(apply Zi Za;exact Z)|(apply Zg Za;exact Z)|refine Ze Z Z Z Qt ?_|refine Zv Z Z Z Qt ?_|refine Zk Z Qt Z Z ?_|refine Zj Z Qt Z Z ?_|(apply Zn 16 ZF;decide +kernel;kernel_rfl;kernel_rfl;kernel_rfl;exact Z;exact Z)|(apply Zr;(iterate 4 exact Z))|exact AE.nil _ _ _ _|(apply Zw;exact Z)|(apply ZA;exact Z;exact Z;decide +kernel;exact Z)|(apply ZB;exact Z)|exact AO.nil _ _ _|(apply Zq;(decide +kernel))|exact AOs.nil|exact ZG rfl rfl)
  all_goals exact Qe
 | true=>
 rw[t1]at hS
 cases t2:decide ((n:Int)<=1099511627776)
 all_goals
  refine AP.ofA (Zl Tryz.func207 Z Tryz.ntmps207 Z Z ?_)
  repeat'(first|(apply Zb (hI);kernel_rfl;(iterate 4 exact Z))|(apply Zb (hS);kernel_rfl;(iterate 4 exact Z))|(apply Zb (hN);kernel_rfl;(iterate 4 exact Z))|(apply Zi Za;exact Z)|(apply Zg Za;exact Z)|refine Ze Z Z Z Qt ?_|refine Zk Z Qt Z Z ?_|(apply Zn 16 ZF;decide +kernel;kernel_rfl;kernel_rfl;kernel_rfl;exact Z;exact Z)|(apply Zr;(iterate 4 exact Z))|exact AE.nil _ _ _ _|(apply Zw;exact Z)|(apply ZA;exact Z;exact Z;decide +kernel;exact Z)|(apply ZB;exact Z)|exact AO.nil _ _ _|(apply Zq;(decide +kernel))|exact AOs.nil|exact ZG rfl rfl)
  all_goals exact Qe
def RL (ok:Bool)(x:It):Nat × Nat × Bool:=match ok with
 | false=>(0,0,false)
 | true=>match x with
  | .mk k n b l=>match k==4 with
   | false=>(0,0,false)
   | true=>match l with
    | [.mk k1 n1 b1 l1,.mk k2 n2 b2 l2]=>(n1,n2,It.beq (.mk k n b [.mk k1 n1 b1 l1,.mk k2 n2 b2 l2]) (.mk 4 0 [] [.mk 0 n1 [] [],.mk 0 n2 [] []])&&(decide ((n1:Int) ≥ 1)&&(decide ((n1:Int)<=255)&&decide ((n2:Int)<=(n1:Int)))))
    | _=>(0,0,false)
def XJ (d:List UInt8):Nat × Nat × Bool:=RL (W4 d) (YU d 0).1
theorem BV [Known][KnownU8](d:List UInt8)(k:Int)(n:Nat)(b:List UInt8)(l:List It)(hI:AP Tryz.prog 225 [byE d] (.tup [itD (.mk k n b l),.bool false]) []):AP Tryz.prog 208 [byE d] (.tup [.int .u64 0,.int .u64 0,.bool false]) []:=by
 refine AP.ofA (Zl Tryz.func208 Z Tryz.ntmps208 Z Z ?_)
 repeat'(first|(apply Zb (hI);kernel_rfl;(iterate 4 exact Z))|(apply Zi Za;exact Z)|(apply Zg Za;exact Z)|(apply Zu Za;exact Z)|refine Zp Z Z Z Qt ?_|refine Zk Z Qt Z Z ?_|refine Zd Z Qt ?_)
 all_goals exact Qe
theorem BW [Known][KnownU8](d:List UInt8)(k:Int)(n:Nat)(b:List UInt8)(l:List It)(hI:AP Tryz.prog 225 [byE d] (.tup [itD (.mk k n b l),.bool true]) [])(tk:(k==4)=false):AP Tryz.prog 208 [byE d] (.tup [.int .u64 0,.int .u64 0,.bool false]) []:=by
 have tk2:(k != 4)=true:=by rw[bne,tk];rfl
 refine AP.ofA (Zl Tryz.func208 Z Tryz.ntmps208 Z Z ?_)
 repeat'(first|(apply Zb (hI);kernel_rfl;(iterate 4 exact Z))|(apply Zi Za;exact Z)|(apply Zg Za;exact Z)|(apply Zu Za;exact Z)|refine Ze Z Z Z Qt ?_|refine Zp Z Z Z Qt ?_|refine Zk Z Qt Z Z ?_|refine Zj Z Qt Z Z ?_|refine Zd Z Qt ?_)
 all_goals exact Qe
theorem Sz [Known][KnownU8](d:List UInt8)(k:Int)(n:Nat)(b:List UInt8)(l:List It)(hI:AP Tryz.prog 225 [byE d] (.tup [itD (.mk k n b l),.bool true]) [])(tk:(k==4)=true)(h2:l.length ≠ 2):AP Tryz.prog 208 [byE d] (.tup [.int .u64 0,.int .u64 0,.bool false]) []:=by
 have tk2:(k != 4)=false:=by rw[bne,tk];rfl
 have hlen:=ZD l
 have t2:(((Zx l).length:Int) != 2)=true:=by rw[hlen];simp;omega
 refine AP.ofA (Zl Tryz.func208 Z Tryz.ntmps208 Z Z ?_)
 repeat'(first|(apply Zb (hI);kernel_rfl;(iterate 4 exact Z))|(apply Zi Za;exact Z)|(apply Zg Za;exact Z)|(apply Zu Za;exact Z)|refine Ze Z Z Z Qt ?_|refine Zj Z Qt Z Z ?_|refine Zd Z Qt ?_|refine Zt Za Z Z Z Z ?_)
 all_goals exact Qe
theorem BX [Known][KnownU8](d:List UInt8)(k:Int)(n:Nat)(b:List UInt8)(L:List E)(k1:Int)(n1:Nat)(b1:List UInt8)(l1:List It)(k2:Int)(n2:Nat)(b2:List UInt8)(l2:List It)(s:Bool)(N:D)
  (hI:AP Tryz.prog 225 [byE d] (.tup [.agg [.int .i64 k,.int .u64 (n:Int),byE b,.sl .ext L],.bool true]) []) (tk2:(k != 4)=false) (t2:((L.length:Int) != 2)=false) (hU:Uni 4 L)
  (hv0:L[(0:Int).toNat]?=some (.agg [.int .i64 k1,.int .u64 (n1:Int),.sl (b1.map E.byte),.sl (Zx l1)])) (hv1:L[(1:Int).toNat]?=some (.agg [.int .i64 k2,.int .u64 (n2:Int),.sl (b2.map E.byte),.sl (Zx l2)]))
  (hN:AP Tryz.prog 177 [.sl .ext [.int .u64 (n1:Int),.int .u64 (n2:Int)]] (.agg [.int .i64 4,.int .u64 0,.sl .ext [],.sl .ext [nmE n1,nmE n2]]) []) (hS:AP Tryz.prog 147 [.agg [.int .i64 k,.int .u64 (n:Int),byE b,.sl .ext L],.agg [.int .i64 4,.int .u64 0,.sl .ext [],.sl .ext [nmE n1,nmE n2]]] (.bool s) []) (ts:s=false) :
  AP Tryz.prog 208 [byE d] (.tup [.int .u64 (n1:Int),.int .u64 (n2:Int),.bool false]) []:=by
 subst ts
 refine AP.ofA (Zl Tryz.func208 Z Tryz.ntmps208 Z Z ?_)
 repeat'(first|(apply Zb (hI);kernel_rfl;(iterate 4 exact Z))|(apply Zb (hS);kernel_rfl;(iterate 4 exact Z))|(apply Zb (hN);kernel_rfl;(iterate 4 exact Z))|(apply Zi Za;exact Z)|(apply Zg Za;exact Z)|(apply Zu Za;exact Z)|refine Ze Z Z Z Qt ?_|refine Zv Z Z Z Qt ?_|refine Zj Z Qt Z Z ?_|refine Zf Z Qt ?_|refine Zt Za Z Z Z Z ?_|refine Z7 Za Z Z Z Z Z Z Z Z Z Z Z Z ?_|(apply Zn 11 ZF;decide +kernel;kernel_rfl;kernel_rfl;kernel_rfl;exact Z;exact Z)|(apply Zn 23 ZF;decide +kernel;kernel_rfl;kernel_rfl;kernel_rfl;exact Z;exact Z)|(apply Zr;(iterate 4 exact Z))|exact AE.nil _ _ _ _|(apply Zw;exact Z)|(apply ZA;exact Z;exact Z;decide +kernel;exact Z)|(apply ZB;exact Z)|exact AO.nil _ _ _|(apply Zq;(decide +kernel))|exact AOs.nil|exact ZG rfl rfl|exact WN rfl rfl rfl rfl rfl|(apply ZC Za;(iterate 6 exact Z);(first|exact Qt|rotate_left);(first|with_reducible assumption|decide +kernel|exact Z);(first|exact Zm rfl|with_reducible assumption|decide +kernel|rotate_left)))
 all_goals exact Qe
theorem BY [Known][KnownU8](d:List UInt8)(k:Int)(n:Nat)(b:List UInt8)(L:List E)(k1:Int)(n1:Nat)(b1:List UInt8)(l1:List It)(k2:Int)(n2:Nat)(b2:List UInt8)(l2:List It)(s:Bool)(N:D)
  (hI:AP Tryz.prog 225 [byE d] (.tup [.agg [.int .i64 k,.int .u64 (n:Int),byE b,.sl .ext L],.bool true]) []) (tk2:(k != 4)=false) (t2:((L.length:Int) != 2)=false) (hU:Uni 4 L)
  (hv0:L[(0:Int).toNat]?=some (.agg [.int .i64 k1,.int .u64 (n1:Int),.sl (b1.map E.byte),.sl (Zx l1)])) (hv1:L[(1:Int).toNat]?=some (.agg [.int .i64 k2,.int .u64 (n2:Int),.sl (b2.map E.byte),.sl (Zx l2)]))
  (hN:AP Tryz.prog 177 [.sl .ext [.int .u64 (n1:Int),.int .u64 (n2:Int)]] (.agg [.int .i64 4,.int .u64 0,.sl .ext [],.sl .ext [nmE n1,nmE n2]]) []) (hS:AP Tryz.prog 147 [.agg [.int .i64 k,.int .u64 (n:Int),byE b,.sl .ext L],.agg [.int .i64 4,.int .u64 0,.sl .ext [],.sl .ext [nmE n1,nmE n2]]] (.bool s) []) (ts:s=true) (t4:decide ((n1:Int) ≥ 1)=false) :
  AP Tryz.prog 208 [byE d] (.tup [.int .u64 (n1:Int),.int .u64 (n2:Int),.bool false]) []:=by
 subst ts
 refine AP.ofA (Zl Tryz.func208 Z Tryz.ntmps208 Z Z ?_)
 repeat'(first|(apply Zb (hI);kernel_rfl;(iterate 4 exact Z))|(apply Zb (hS);kernel_rfl;(iterate 4 exact Z))|(apply Zb (hN);kernel_rfl;(iterate 4 exact Z))|(apply Zi Za;exact Z)|(apply Zg Za;exact Z)|(apply Zu Za;exact Z)|refine Ze Z Z Z Qt ?_|refine Zv Z Z Z Qt ?_|refine Zk Z Qt Z Z ?_|refine Zj Z Qt Z Z ?_|refine Zf Z Qt ?_|refine Zt Za Z Z Z Z ?_|refine Z7 Za Z Z Z Z Z Z Z Z Z Z Z Z ?_|(apply Zn 11 ZF;decide +kernel;kernel_rfl;kernel_rfl;kernel_rfl;exact Z;exact Z)|(apply Zn 23 ZF;decide +kernel;kernel_rfl;kernel_rfl;kernel_rfl;exact Z;exact Z)|(apply Zr;(iterate 4 exact Z))|exact AE.nil _ _ _ _|(apply Zw;exact Z)|(apply ZA;exact Z;exact Z;decide +kernel;exact Z)|(apply ZB;exact Z)|exact AO.nil _ _ _|(apply Zq;(decide +kernel))|exact AOs.nil|exact ZG rfl rfl|exact WN rfl rfl rfl rfl rfl|(apply ZC Za;(iterate 6 exact Z);(first|exact Qt|rotate_left);(first|with_reducible assumption|decide +kernel|exact Z);(first|exact Zm rfl|with_reducible assumption|decide +kernel|rotate_left)))
 all_goals exact Qe
end Go.Proofs.YtkdpfkjlheajhaaGreatDoor
end
