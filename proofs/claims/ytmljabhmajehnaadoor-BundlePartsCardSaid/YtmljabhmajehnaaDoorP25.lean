/- Package eid: an item's name: numbers; all items. -/
import Derived.Test.YtmljabhmajehnaaDoorP24
import Derived.Test.YtmljabhmajehnaaDoorP22
import Derived.Test.YtmljabhmajehnaaDoorP19
set_option linter.unusedVariables false
set_option linter.unusedSimpArgs false
section
open Go.RowKit Go.Pl Go.Av
namespace Go.Proofs.YtmljabhmajehnaaDoor
set_option maxHeartbeats 4000000
theorem MU [Known][KnownU8](n:Nat)(b:List UInt8)(s r:It)(hw:wfI (.mk 4 n b [s,r]))(hr:ZI (.mk 4 n b [s,r])=true)(h1:WG 1 s=false):AP Tryd.prog 41 [itD (.mk 4 n b [s,r])] (IF (UD s r)) []:=by
 have hR:=Y4 _ hw
 rw[hr]at hR
 obtain⟨_,_,_,hws,hwr,_⟩:=hw
 have hS1:=Vn s hws 1 (by omega)
 have hS2:=Vn s hws 2 (by omega)
 have hN:=NT r hwr
 have n1:=Ug 1
 have n2:=Ug 2
 replace n1:AP Tryd.prog _ [.int .u64 1] (.agg [.int .i64 0,.int .u64 1,.sl .ext [],.sl .ext []]) []:=n1
 replace n2:AP Tryd.prog _ [.int .u64 2] (.agg [.int .i64 0,.int .u64 2,.sl .ext [],.sl .ext []]) []:=n2
 rw[h1]at hS1
 have hU:=YV [s,r]
 unfold UD
 rw[h1]
 dsimp only
 obtain⟨ks,ns,bs,ls⟩:=s
 obtain⟨kr,nr,br,lr⟩:=r
 have t2:(((Zp [It.mk ks ns bs ls,It.mk kr nr br lr]).length:Int) != 2)=false:=rfl
 cases h2:WG 2 (.mk ks ns bs ls) with
 | false=>
  rw[h2]at hS2
  show AP Tryd.prog _ _ (.tup [.agg [.bool false,.int .u64 0,.int .u64 0,.str [],.str []],.int .i64 3]) []
  refine AP.ofA (Zl Tryd.func41 Z Tryd.ntmps41 Z Z ?_)
  repeat'(first|(apply V0 11 Za ZF;decide +kernel;kernel_rfl;kernel_rfl;kernel_rfl;exact Z;exact Z)|exact AV.nil _ _|(apply Ka;exact Z;exact Z)|(apply Kb;(iterate 4 exact Z))|(apply X9;(iterate 4 exact Z))|refine Q8 Z Z Z Z ?_|(apply Zb (hR);kernel_rfl;(iterate 4 exact Z))|(apply Zb (hS1);kernel_rfl;(iterate 4 exact Z))|(apply Zb (hS2);kernel_rfl;(iterate 4 exact Z))|(apply Zb (n1);kernel_rfl;(iterate 4 exact Z))|(apply Zb (n2);kernel_rfl;(iterate 4 exact Z))|(apply Zh Za;exact Z)|(apply Zf Za;exact Z)|(apply Zt Za;exact Z)|refine Ze Z Z Z Qt ?_|refine Zw Z Z Z Qt ?_|refine Zi Z Qt Z Z ?_|refine Zd Z Qt ?_|refine Zg Z Qt ?_|refine Zm Za Z Z Z Z ?_|(apply Zn 2 ZF;decide +kernel;kernel_rfl;kernel_rfl;kernel_rfl;exact Z;exact Z)|(apply Zn 6 ZF;decide +kernel;kernel_rfl;kernel_rfl;kernel_rfl;exact Z;exact Z)|(apply Zr;(iterate 4 exact Z))|exact AE.nil _ _ _ _|(apply Zv;exact Z)|(apply ZA;exact Z;exact Z;decide +kernel;exact Z)|(apply ZB;exact Z)|exact AO.nil _ _ _|(apply Zq;(decide +kernel))|exact AOs.nil|exact ZG rfl rfl|(apply Zu Za;(iterate 6 exact Z);(first|exact Qt|rotate_left);(first|with_reducible assumption|decide +kernel|exact Z);(first|exact Zj rfl|with_reducible assumption|decide +kernel|rotate_left)))
  all_goals exact Qe
 | true=>
  rw[h2]at hS2
  dsimp only
  cases hq:U8 (.mk kr nr br lr) with
  | none=>
   rw[hq]at hN
   replace hN:AP Tryd.prog _ _ (.tup [.sl .ext [],.bool false]) []:=hN
   show AP Tryd.prog _ _ (.tup [.agg [.bool false,.int .u64 0,.int .u64 0,.str [],.str []],.int .i64 3]) []
   refine AP.ofA (Zl Tryd.func41 Z Tryd.ntmps41 Z Z ?_)
   repeat'(first|(apply V0 11 Za ZF;decide +kernel;kernel_rfl;kernel_rfl;kernel_rfl;exact Z;exact Z)|exact AV.nil _ _|(apply Ka;exact Z;exact Z)|(apply Kb;(iterate 4 exact Z))|(apply X9;(iterate 4 exact Z))|refine Q8 Z Z Z Z ?_|(apply Zb (hR);kernel_rfl;(iterate 4 exact Z))|(apply Zb (hS1);kernel_rfl;(iterate 4 exact Z))|(apply Zb (hS2);kernel_rfl;(iterate 4 exact Z))|(apply Zb (n1);kernel_rfl;(iterate 4 exact Z))|(apply Zb (n2);kernel_rfl;(iterate 4 exact Z))|(apply Zb (hN);kernel_rfl;(iterate 4 exact Z))|(apply Zh Za;exact Z)|(apply Zf Za;exact Z)|(apply Zt Za;exact Z)|refine Ze Z Z Z Qt ?_|refine Zw Z Z Z Qt ?_|refine Zi Z Qt Z Z ?_|refine Zd Z Qt ?_|refine Zg Z Qt ?_|refine Zm Za Z Z Z Z ?_|(apply Zn 2 ZF;decide +kernel;kernel_rfl;kernel_rfl;kernel_rfl;exact Z;exact Z)|(apply Zn 6 ZF;decide +kernel;kernel_rfl;kernel_rfl;kernel_rfl;exact Z;exact Z)|(apply Zr;(iterate 4 exact Z))|exact AE.nil _ _ _ _|(apply Zv;exact Z)|(apply ZA;exact Z;exact Z;decide +kernel;exact Z)|(apply ZB;exact Z)|exact AO.nil _ _ _|(apply Zq;(decide +kernel))|exact AOs.nil|exact ZG rfl rfl|(apply Zu Za;(iterate 6 exact Z);(first|exact Qt|rotate_left);(first|with_reducible assumption|decide +kernel|exact Z);(first|exact Zj rfl|with_reducible assumption|decide +kernel|rotate_left)))
   all_goals exact Qe
  | some ac=>
   obtain⟨a,c⟩:=ac
   rw[hq]at hN
   replace hN:AP Tryd.prog _ _ (.tup [.sl .ext [.int .u64 (a:Int),.int .u64 (c:Int)],.bool true]) []:=hN
   have hE:=Ve ⟨true,a,c,[],[]⟩
   dsimp only
   generalize Yg ⟨true,a,c,[],[]⟩=R at *
   replace hE:AP Tryd.prog _ [.agg [.bool true,.int .u64 (a:Int),.int .u64 (c:Int),.str [],.str []]] (.bool R) []:=hE
   cases R
   all_goals
    refine AP.ofA (Zl Tryd.func41 Z Tryd.ntmps41 Z Z ?_)
    repeat'(first|(apply V0 11 Za ZF;decide +kernel;kernel_rfl;kernel_rfl;kernel_rfl;exact Z;exact Z)|exact AV.nil _ _|(apply Ka;exact Z;exact Z)|(apply Kb;(iterate 4 exact Z))|(apply X9;(iterate 4 exact Z))|refine Q8 Z Z Z Z ?_|(apply Zb (hR);kernel_rfl;(iterate 4 exact Z))|(apply Zb (hS1);kernel_rfl;(iterate 4 exact Z))|(apply Zb (hS2);kernel_rfl;(iterate 4 exact Z))|(apply Zb (n1);kernel_rfl;(iterate 4 exact Z))|(apply Zb (n2);kernel_rfl;(iterate 4 exact Z))|(apply Zb (hN);kernel_rfl;(iterate 4 exact Z))|(apply Zb (hE);kernel_rfl;(iterate 4 exact Z))|(apply Zh Za;exact Z)|(apply Zf Za;exact Z)|(apply Zt Za;exact Z)|refine Ze Z Z Z Qt ?_|refine Zw Z Z Z Qt ?_|refine Zi Z Qt Z Z ?_|refine Zd Z Qt ?_|refine Zg Z Qt ?_|refine Zm Za Z Z Z Z ?_|(apply Zn 2 ZF;decide +kernel;kernel_rfl;kernel_rfl;kernel_rfl;exact Z;exact Z)|(apply Zn 6 ZF;decide +kernel;kernel_rfl;kernel_rfl;kernel_rfl;exact Z;exact Z)|(apply Zr;(iterate 4 exact Z))|exact AE.nil _ _ _ _|(apply Zv;exact Z)|(apply ZA;exact Z;exact Z;decide +kernel;exact Z)|(apply ZB;exact Z)|exact AO.nil _ _ _|(apply Zq;(decide +kernel))|exact AOs.nil|exact ZG rfl rfl|(apply Zu Za;(iterate 6 exact Z);(first|exact Qt|rotate_left);(first|with_reducible assumption|decide +kernel|exact Z);(first|exact Zj rfl|with_reducible assumption|decide +kernel|rotate_left)))
    all_goals exact Qe
theorem QP [Known][KnownU8](x:It)(hw:wfI x):AP Tryd.prog 41 [itD x] (IF (Yt x)) []:=by
 cases hr:ZI x with
 | false=>
  have e:Yt x=(Wd,false):=by unfold Yt;rw[hr]
  rw[e]
  exact Xb x hw (.inl hr)
 | true=>
  obtain⟨k,n,b,l⟩:=x
  by_cases hk:k=4
  ·subst hk
   match l,hw,hr with
   | [s,r],hw,hr=>
    have e:Yt (.mk 4 n b [s,r])=UD s r:=by unfold Yt;rw[hr];dsimp only;rw[if_pos rfl]
    rw[e]
    cases h1:WG 1 s with
    | true=>exact MT n b s r hw hr h1
    | false=>exact MU n b s r hw hr h1
   | [],hw,hr=>
    have e:Yt (.mk 4 n b [])=(Wd,false):=by unfold Yt;rw[hr]
    rw[e];exact Xb _ hw (.inr (.inr (by simp[It.l])))
   | [s],hw,hr=>
    have e:Yt (.mk 4 n b [s])=(Wd,false):=by unfold Yt;rw[hr]
    rw[e];exact Xb _ hw (.inr (.inr (by simp[It.l])))
   | s::r::y::l,hw,hr=>
    have e:Yt (.mk 4 n b (s::r::y::l))=(Wd,false):=by unfold Yt;rw[hr]
    rw[e];exact Xb _ hw (.inr (.inr (by simp[It.l])))
  ·have e:Yt (.mk k n b l)=(Wd,false):=by
    unfold Yt;rw[hr]
    match l with
    | [s,r]=>dsimp only;rw[if_neg hk]
    | []=>rfl
    | [s]=>rfl
    | s::r::y::l=>rfl
   rw[e]
   exact Xb _ hw (.inr (.inl hk))
structure BlkV where
 ty:Nat
 num:Nat
 fl:Nat
 sum:Int
 data:List UInt8
abbrev bkC (b:BlkV):List D:=[.int .u64 (b.ty:Int),.int .u64 (b.num:Int),.int .u64 (b.fl:Int),.int .i64 b.sum,byE b.data]
theorem TE (d:List UInt8)(hd:d.length<=140737488351232):wfI (Ym d 0).1:=by
 rcases J3 d (by omega) with⟨e,_,h,_⟩ | ⟨y,n,h,hw,_⟩
 ·rw[h];exact⟨by decide,by simp,by simp,trivial⟩
 ·rw[h];exact hw
theorem KP [Known][KnownU8](d:List UInt8)(hd:d.length<=140737488351232):AP Tryd.prog 90 [byE d] (.tup [itD (Ym d 0).1,.bool (Wx d)]) []:=by
 have hR:=JY d 0 (by omega)
 have hS:=KM d (by omega)
 rcases J3 d (by omega) with⟨e,he,h,hs⟩ | ⟨⟨k,n,b,l⟩,m,h,hw,hr,_⟩
 ·rw[h]at hR ⊢
  rw[hs]at hS ⊢
  replace hR:AP Tryd.prog _ _ (.tup [.agg [.int .i64 0,.int .u64 0,.sl .ext [],.sl .ext []],.int .i64 0,.int .i64 (e:Int)]) []:=hR
  have t1:((e:Int)==0)=false:=by rw[beq_eq_false_iff_ne];omega
  refine AP.ofA (Zl Tryd.func90 Z Tryd.ntmps90 Z Z ?_)
  repeat'(first|(apply Zb (hR);kernel_rfl;(iterate 4 exact Z))|(apply Zh Za;exact Z)|(apply Zf Za;exact Z)|refine Zw Z Z Z Qt ?_|refine Zi Z Qt Z Z ?_|(apply Zn 8 ZF;decide +kernel;kernel_rfl;kernel_rfl;kernel_rfl;exact Z;exact Z)|(apply Zr;(iterate 4 exact Z))|exact AE.nil _ _ _ _|(apply Zv;exact Z)|(apply VG;exact Z)|(apply ZA;exact Z;exact Z;decide +kernel;exact Z)|(apply ZB;exact Z)|(apply U4;exact Z)|exact AO.nil _ _ _|(apply Zq;(decide +kernel))|(apply ZY;(iterate 3 exact Z))|exact AOs.nil|exact ZG rfl rfl|exact V9 rfl)
  all_goals exact Qe
 ·rw[h]at hR ⊢
  replace hR:AP Tryd.prog _ _ (.tup [.agg (itC k n b l),.int .i64 (m:Int),.int .i64 0]) []:=hR
  refine AP.ofA (Zl Tryd.func90 Z Tryd.ntmps90 Z Z ?_)
  repeat'(first|(apply Zb (hR);kernel_rfl;(iterate 4 exact Z))|(apply Zb (hS);kernel_rfl;(iterate 4 exact Z))|(apply Zh Za;exact Z)|(apply Zf Za;exact Z)|refine Ze Z Z Z Qt ?_|refine Zk Z Qt Z Z ?_|(apply Zn 8 ZF;decide +kernel;kernel_rfl;kernel_rfl;kernel_rfl;exact Z;exact Z)|(apply Zr;(iterate 4 exact Z))|exact AE.nil _ _ _ _|(apply Zv;exact Z)|(apply VG;exact Z)|(apply ZA;exact Z;exact Z;decide +kernel;exact Z)|(apply ZB;exact Z)|(apply U4;exact Z)|exact AO.nil _ _ _|(apply Zq;(decide +kernel))|(apply ZY;(iterate 3 exact Z))|exact AOs.nil|exact ZG rfl rfl|exact V9 rfl)
  all_goals exact Qe
def Kc (d:List UInt8):EidV × Bool:=((match(Yt (Ym d 0).1).2 with|true=>(Yt (Ym d 0).1).1|false=>Wd),Wx d&&(Yt (Ym d 0).1).2)
theorem OR [Known][KnownU8](d:List UInt8)(hd:d.length<=140737488351232):AP Tryd.prog 71 [byE d] (.tup [.agg (eC (Kc d).1),.bool (Kc d).2]) []:=by
 have hI:=KP d hd
 have hR:=QP (Ym d 0).1 (TE d hd)
 unfold Kc
 dsimp only
 generalize (Ym d 0).1=x at *
 generalize Yt x=r at *
 obtain⟨⟨zi,zn,zs,zh,zd⟩,ok⟩:=r
 obtain⟨k,n,b,l⟩:=x
 unfold IF at hR
 cases ok with
 | false=>
  replace hR:AP Tryd.prog _ _ (.tup [.agg [.bool false,.int .u64 0,.int .u64 0,.str [],.str []],.int .i64 3]) []:=hR
  cases hs:Wx d<;>rw[hs]at hI
  all_goals
   refine AP.ofA (Zl Tryd.func71 Z Tryd.ntmps71 Z Z ?_)
   repeat'(first|(apply Zb (hI);kernel_rfl;(iterate 4 exact Z))|(apply Zb (hR);kernel_rfl;(iterate 4 exact Z))|(apply Zh Za;exact Z)|(apply Zf Za;exact Z)|refine Ze Z Z Z Qt ?_|refine Zw Z Z Z Qt ?_|refine Zk Z Qt Z Z ?_|refine Zi Z Qt Z Z ?_)
   all_goals exact Qe
 | true=>
  replace hR:AP Tryd.prog _ _ (.tup [.agg [.bool zi,.int .u64 (zn:Int),.int .u64 (zs:Int),.str zh,.str zd],.int .i64 0]) []:=hR
  cases hs:Wx d<;>rw[hs]at hI
  all_goals
   refine AP.ofA (Zl Tryd.func71 Z Tryd.ntmps71 Z Z ?_)
   repeat'(first|(apply Zb (hI);kernel_rfl;(iterate 4 exact Z))|(apply Zb (hR);kernel_rfl;(iterate 4 exact Z))|(apply Zh Za;exact Z)|(apply Zf Za;exact Z)|refine Ze Z Z Z Qt ?_|refine Zw Z Z Z Qt ?_|refine Zk Z Qt Z Z ?_|refine Zi Z Qt Z Z ?_)
   all_goals exact Qe
def Hf (d:List UInt8):Nat × Bool:=((Ym d 0).1.n,Wx d&&(It.beq (Ym d 0).1 (.mk 0 (Ym d 0).1.n [] [])&&decide (((Ym d 0).1.n:Int)<=1099511627776)))
theorem MV [Known][KnownU8](d:List UInt8)(hd:d.length<=140737488351232):AP Tryd.prog 72 [byE d] (.tup [.int .u64 ((Hf d).1:Int),.bool (Hf d).2]) []:=by
 have hI:=KP d hd
 have hw:=TE d hd
 unfold Hf
 dsimp only
 generalize (Ym d 0).1=x at *
 obtain⟨k,n,b,l⟩:=x
 have hS:=Vz (.mk k n b l) hw (.mk 0 n [] []) ⟨hw.1,by simp,by simp,trivial⟩
 have hN:=YL n
 dsimp only[It.n]
 cases hs:Wx d with
 | false=>
  rw[hs]at hI
  refine AP.ofA (Zl Tryd.func72 Z Tryd.ntmps72 Z Z ?_)
  repeat'(first|(apply Zb (hI);kernel_rfl;(iterate 4 exact Z))|(apply Zh Za;exact Z)|(apply Zf Za;exact Z)|refine Zw Z Z Z Qt ?_|refine Zi Z Qt Z Z ?_|(apply Zn 16 ZF;decide +kernel;kernel_rfl;kernel_rfl;kernel_rfl;exact Z;exact Z)|(apply Zr;(iterate 4 exact Z))|exact AE.nil _ _ _ _|(apply Zv;exact Z)|(apply ZA;exact Z;exact Z;decide +kernel;exact Z)|(apply ZB;exact Z)|exact AO.nil _ _ _|(apply Zq;(decide +kernel))|exact AOs.nil|exact ZG rfl rfl)
  all_goals exact Qe
 | true=>
 rw[hs]at hI
 cases t1:It.beq (.mk k n b l) (.mk 0 n [] []) with
 | false=>
  rw[t1]at hS
  refine AP.ofA (Zl Tryd.func72 Z Tryd.ntmps72 Z Z ?_)
  repeat'(first|(apply Zb (hI);kernel_rfl;(iterate 4 exact Z))|(apply Zb (hS);kernel_rfl;(iterate 4 exact Z))|(apply Zb (hN);kernel_rfl;(iterate 4 exact Z))|(apply Zh Za;exact Z)|(apply Zf Za;exact Z)|refine Ze Z Z Z Qt ?_|refine Zw Z Z Z Qt ?_|refine Zk Z Qt Z Z ?_|refine Zi Z Qt Z Z ?_|(apply Zn 16 ZF;decide +kernel;kernel_rfl;kernel_rfl;kernel_rfl;exact Z;exact Z)|(apply Zr;(iterate 4 exact Z))|exact AE.nil _ _ _ _|(apply Zv;exact Z)|(apply ZA;exact Z;exact Z;decide +kernel;exact Z)|(apply ZB;exact Z)|exact AO.nil _ _ _|(apply Zq;(decide +kernel))|exact AOs.nil|exact ZG rfl rfl)
  all_goals exact Qe
 | true=>
 rw[t1]at hS
 cases t2:decide ((n:Int)<=1099511627776)
 all_goals
  refine AP.ofA (Zl Tryd.func72 Z Tryd.ntmps72 Z Z ?_)
  repeat'(first|(apply Zb (hI);kernel_rfl;(iterate 4 exact Z))|(apply Zb (hS);kernel_rfl;(iterate 4 exact Z))|(apply Zb (hN);kernel_rfl;(iterate 4 exact Z))|(apply Zh Za;exact Z)|(apply Zf Za;exact Z)|refine Ze Z Z Z Qt ?_|refine Zk Z Qt Z Z ?_|(apply Zn 16 ZF;decide +kernel;kernel_rfl;kernel_rfl;kernel_rfl;exact Z;exact Z)|(apply Zr;(iterate 4 exact Z))|exact AE.nil _ _ _ _|(apply Zv;exact Z)|(apply ZA;exact Z;exact Z;decide +kernel;exact Z)|(apply ZB;exact Z)|exact AO.nil _ _ _|(apply Zq;(decide +kernel))|exact AOs.nil|exact ZG rfl rfl)
  all_goals exact Qe
def Mi (ok:Bool)(x:It):Nat × Nat × Bool:=match ok with
 | false=>(0,0,false)
 | true=>match x with
  | .mk k n b l=>match k==4 with
   | false=>(0,0,false)
   | true=>match l with
    | [.mk k1 n1 b1 l1,.mk k2 n2 b2 l2]=>(n1,n2,It.beq (.mk k n b [.mk k1 n1 b1 l1,.mk k2 n2 b2 l2]) (.mk 4 0 [] [.mk 0 n1 [] [],.mk 0 n2 [] []])&&(decide ((n1:Int) ≥ 1)&&(decide ((n1:Int)<=255)&&decide ((n2:Int)<=(n1:Int)))))
    | _=>(0,0,false)
def Jp (d:List UInt8):Nat × Nat × Bool:=Mi (Wx d) (Ym d 0).1
theorem L1 [Known][KnownU8](d:List UInt8)(k:Int)(n:Nat)(b:List UInt8)(l:List It)(hI:AP Tryd.prog 90 [byE d] (.tup [itD (.mk k n b l),.bool false]) []):AP Tryd.prog 73 [byE d] (.tup [.int .u64 0,.int .u64 0,.bool false]) []:=by
 refine AP.ofA (Zl Tryd.func73 Z Tryd.ntmps73 Z Z ?_)
 repeat'(first|(apply Zb (hI);kernel_rfl;(iterate 4 exact Z))|(apply Zh Za;exact Z)|(apply Zf Za;exact Z)|(apply Zt Za;exact Z)|refine Zo Z Z Z Qt ?_|refine Zk Z Qt Z Z ?_|refine Zd Z Qt ?_)
 all_goals exact Qe
theorem L3 [Known][KnownU8](d:List UInt8)(k:Int)(n:Nat)(b:List UInt8)(l:List It)(hI:AP Tryd.prog 90 [byE d] (.tup [itD (.mk k n b l),.bool true]) [])(tk:(k==4)=false):AP Tryd.prog 73 [byE d] (.tup [.int .u64 0,.int .u64 0,.bool false]) []:=by
 have tk2:(k != 4)=true:=by rw[bne,tk];rfl
 refine AP.ofA (Zl Tryd.func73 Z Tryd.ntmps73 Z Z ?_)
 repeat'(first|(apply Zb (hI);kernel_rfl;(iterate 4 exact Z))|(apply Zh Za;exact Z)|(apply Zf Za;exact Z)|(apply Zt Za;exact Z)|refine Ze Z Z Z Qt ?_|refine Zo Z Z Z Qt ?_|refine Zk Z Qt Z Z ?_|refine Zi Z Qt Z Z ?_|refine Zd Z Qt ?_)
 all_goals exact Qe
theorem MW [Known][KnownU8](d:List UInt8)(k:Int)(n:Nat)(b:List UInt8)(l:List It)(hI:AP Tryd.prog 90 [byE d] (.tup [itD (.mk k n b l),.bool true]) [])(tk:(k==4)=true)(h2:l.length ≠ 2):AP Tryd.prog 73 [byE d] (.tup [.int .u64 0,.int .u64 0,.bool false]) []:=by
 have tk2:(k != 4)=false:=by rw[bne,tk];rfl
 have hlen:=Zx l
 have t2:(((Zp l).length:Int) != 2)=true:=by rw[hlen];simp;omega
 refine AP.ofA (Zl Tryd.func73 Z Tryd.ntmps73 Z Z ?_)
 repeat'(first|(apply Zb (hI);kernel_rfl;(iterate 4 exact Z))|(apply Zh Za;exact Z)|(apply Zf Za;exact Z)|(apply Zt Za;exact Z)|refine Ze Z Z Z Qt ?_|refine Zi Z Qt Z Z ?_|refine Zd Z Qt ?_|refine Zm Za Z Z Z Z ?_)
 all_goals exact Qe
theorem L4 [Known][KnownU8](d:List UInt8)(k:Int)(n:Nat)(b:List UInt8)(L:List E)(k1:Int)(n1:Nat)(b1:List UInt8)(l1:List It)(k2:Int)(n2:Nat)(b2:List UInt8)(l2:List It)(s:Bool)(N:D)
  (hI:AP Tryd.prog 90 [byE d] (.tup [.agg [.int .i64 k,.int .u64 (n:Int),byE b,.sl .ext L],.bool true]) []) (tk2:(k != 4)=false) (t2:((L.length:Int) != 2)=false) (hU:Uni 4 L)
  (hv0:L[(0:Int).toNat]?=some (.agg [.int .i64 k1,.int .u64 (n1:Int),.sl (b1.map E.byte),.sl (Zp l1)])) (hv1:L[(1:Int).toNat]?=some (.agg [.int .i64 k2,.int .u64 (n2:Int),.sl (b2.map E.byte),.sl (Zp l2)]))
  (hN:AP Tryd.prog 52 [.sl .ext [.int .u64 (n1:Int),.int .u64 (n2:Int)]] (.agg [.int .i64 4,.int .u64 0,.sl .ext [],.sl .ext [nmE n1,nmE n2]]) []) (hS:AP Tryd.prog 42 [.agg [.int .i64 k,.int .u64 (n:Int),byE b,.sl .ext L],.agg [.int .i64 4,.int .u64 0,.sl .ext [],.sl .ext [nmE n1,nmE n2]]] (.bool s) []) (ts:s=false) :
  AP Tryd.prog 73 [byE d] (.tup [.int .u64 (n1:Int),.int .u64 (n2:Int),.bool false]) []:=by
 subst ts
 refine AP.ofA (Zl Tryd.func73 Z Tryd.ntmps73 Z Z ?_)
 repeat'(first|(apply Zb (hI);kernel_rfl;(iterate 4 exact Z))|(apply Zb (hS);kernel_rfl;(iterate 4 exact Z))|(apply Zb (hN);kernel_rfl;(iterate 4 exact Z))|(apply Zh Za;exact Z)|(apply Zf Za;exact Z)|(apply Zt Za;exact Z)|refine Ze Z Z Z Qt ?_|refine Zw Z Z Z Qt ?_|refine Zi Z Qt Z Z ?_|refine Zg Z Qt ?_|refine Zm Za Z Z Z Z ?_|refine ZS Za Z Z Z Z Z Z Z Z Z Z Z Z ?_|(apply Zn 11 ZF;decide +kernel;kernel_rfl;kernel_rfl;kernel_rfl;exact Z;exact Z)|(apply Zn 23 ZF;decide +kernel;kernel_rfl;kernel_rfl;kernel_rfl;exact Z;exact Z)|(apply Zr;(iterate 4 exact Z))|exact AE.nil _ _ _ _|(apply Zv;exact Z)|(apply ZA;exact Z;exact Z;decide +kernel;exact Z)|(apply ZB;exact Z)|exact AO.nil _ _ _|(apply Zq;(decide +kernel))|exact AOs.nil|exact ZG rfl rfl|exact Y8 rfl rfl rfl rfl rfl|(apply Zu Za;(iterate 6 exact Z);(first|exact Qt|rotate_left);(first|with_reducible assumption|decide +kernel|exact Z);(first|exact Zj rfl|with_reducible assumption|decide +kernel|rotate_left)))
 all_goals exact Qe
theorem L5 [Known][KnownU8](d:List UInt8)(k:Int)(n:Nat)(b:List UInt8)(L:List E)(k1:Int)(n1:Nat)(b1:List UInt8)(l1:List It)(k2:Int)(n2:Nat)(b2:List UInt8)(l2:List It)(s:Bool)(N:D)
  (hI:AP Tryd.prog 90 [byE d] (.tup [.agg [.int .i64 k,.int .u64 (n:Int),byE b,.sl .ext L],.bool true]) []) (tk2:(k != 4)=false) (t2:((L.length:Int) != 2)=false) (hU:Uni 4 L)
  (hv0:L[(0:Int).toNat]?=some (.agg [.int .i64 k1,.int .u64 (n1:Int),.sl (b1.map E.byte),.sl (Zp l1)])) (hv1:L[(1:Int).toNat]?=some (.agg [.int .i64 k2,.int .u64 (n2:Int),.sl (b2.map E.byte),.sl (Zp l2)]))
  (hN:AP Tryd.prog 52 [.sl .ext [.int .u64 (n1:Int),.int .u64 (n2:Int)]] (.agg [.int .i64 4,.int .u64 0,.sl .ext [],.sl .ext [nmE n1,nmE n2]]) []) (hS:AP Tryd.prog 42 [.agg [.int .i64 k,.int .u64 (n:Int),byE b,.sl .ext L],.agg [.int .i64 4,.int .u64 0,.sl .ext [],.sl .ext [nmE n1,nmE n2]]] (.bool s) []) (ts:s=true) (t4:decide ((n1:Int) ≥ 1)=false) :
  AP Tryd.prog 73 [byE d] (.tup [.int .u64 (n1:Int),.int .u64 (n2:Int),.bool false]) []:=by
 subst ts
 refine AP.ofA (Zl Tryd.func73 Z Tryd.ntmps73 Z Z ?_)
 repeat'(first|(apply Zb (hI);kernel_rfl;(iterate 4 exact Z))|(apply Zb (hS);kernel_rfl;(iterate 4 exact Z))|(apply Zb (hN);kernel_rfl;(iterate 4 exact Z))|(apply Zh Za;exact Z)|(apply Zf Za;exact Z)|(apply Zt Za;exact Z)|refine Ze Z Z Z Qt ?_|refine Zw Z Z Z Qt ?_|refine Zk Z Qt Z Z ?_|refine Zi Z Qt Z Z ?_|refine Zg Z Qt ?_|refine Zm Za Z Z Z Z ?_|refine ZS Za Z Z Z Z Z Z Z Z Z Z Z Z ?_|(apply Zn 11 ZF;decide +kernel;kernel_rfl;kernel_rfl;kernel_rfl;exact Z;exact Z)|(apply Zn 23 ZF;decide +kernel;kernel_rfl;kernel_rfl;kernel_rfl;exact Z;exact Z)|(apply Zr;(iterate 4 exact Z))|exact AE.nil _ _ _ _|(apply Zv;exact Z)|(apply ZA;exact Z;exact Z;decide +kernel;exact Z)|(apply ZB;exact Z)|exact AO.nil _ _ _|(apply Zq;(decide +kernel))|exact AOs.nil|exact ZG rfl rfl|exact Y8 rfl rfl rfl rfl rfl|(apply Zu Za;(iterate 6 exact Z);(first|exact Qt|rotate_left);(first|with_reducible assumption|decide +kernel|exact Z);(first|exact Zj rfl|with_reducible assumption|decide +kernel|rotate_left)))
 all_goals exact Qe
theorem L6 [Known][KnownU8](d:List UInt8)(k:Int)(n:Nat)(b:List UInt8)(L:List E)(k1:Int)(n1:Nat)(b1:List UInt8)(l1:List It)(k2:Int)(n2:Nat)(b2:List UInt8)(l2:List It)(s:Bool)(N:D)
  (hI:AP Tryd.prog 90 [byE d] (.tup [.agg [.int .i64 k,.int .u64 (n:Int),byE b,.sl .ext L],.bool true]) []) (tk2:(k != 4)=false) (t2:((L.length:Int) != 2)=false) (hU:Uni 4 L)
  (hv0:L[(0:Int).toNat]?=some (.agg [.int .i64 k1,.int .u64 (n1:Int),.sl (b1.map E.byte),.sl (Zp l1)])) (hv1:L[(1:Int).toNat]?=some (.agg [.int .i64 k2,.int .u64 (n2:Int),.sl (b2.map E.byte),.sl (Zp l2)]))
  (hN:AP Tryd.prog 52 [.sl .ext [.int .u64 (n1:Int),.int .u64 (n2:Int)]] (.agg [.int .i64 4,.int .u64 0,.sl .ext [],.sl .ext [nmE n1,nmE n2]]) []) (hS:AP Tryd.prog 42 [.agg [.int .i64 k,.int .u64 (n:Int),byE b,.sl .ext L],.agg [.int .i64 4,.int .u64 0,.sl .ext [],.sl .ext [nmE n1,nmE n2]]] (.bool s) []) (ts:s=true) (t4:decide ((n1:Int) ≥ 1)=true) (t5:decide ((n1:Int)<=255)=false) :
  AP Tryd.prog 73 [byE d] (.tup [.int .u64 (n1:Int),.int .u64 (n2:Int),.bool false]) []:=by
 subst ts
 refine AP.ofA (Zl Tryd.func73 Z Tryd.ntmps73 Z Z ?_)
 repeat'(first|(apply Zb (hI);kernel_rfl;(iterate 4 exact Z))|(apply Zb (hS);kernel_rfl;(iterate 4 exact Z))|(apply Zb (hN);kernel_rfl;(iterate 4 exact Z))|(apply Zh Za;exact Z)|(apply Zf Za;exact Z)|(apply Zt Za;exact Z)|refine Ze Z Z Z Qt ?_|refine Zw Z Z Z Qt ?_|refine Zk Z Qt Z Z ?_|refine Zi Z Qt Z Z ?_|refine Zg Z Qt ?_|refine Zm Za Z Z Z Z ?_|refine ZS Za Z Z Z Z Z Z Z Z Z Z Z Z ?_|(apply Zn 11 ZF;decide +kernel;kernel_rfl;kernel_rfl;kernel_rfl;exact Z;exact Z)|(apply Zn 23 ZF;decide +kernel;kernel_rfl;kernel_rfl;kernel_rfl;exact Z;exact Z)|(apply Zr;(iterate 4 exact Z))|exact AE.nil _ _ _ _|(apply Zv;exact Z)|(apply ZA;exact Z;exact Z;decide +kernel;exact Z)|(apply ZB;exact Z)|exact AO.nil _ _ _|(apply Zq;(decide +kernel))|exact AOs.nil|exact ZG rfl rfl|exact Y8 rfl rfl rfl rfl rfl|(apply Zu Za;(iterate 6 exact Z);(first|exact Qt|rotate_left);(first|with_reducible assumption|decide +kernel|exact Z);(first|exact Zj rfl|with_reducible assumption|decide +kernel|rotate_left)))
 all_goals exact Qe
theorem L7 [Known][KnownU8](d:List UInt8)(k:Int)(n:Nat)(b:List UInt8)(L:List E)(k1:Int)(n1:Nat)(b1:List UInt8)(l1:List It)(k2:Int)(n2:Nat)(b2:List UInt8)(l2:List It)(s:Bool)(N:D)
  (hI:AP Tryd.prog 90 [byE d] (.tup [.agg [.int .i64 k,.int .u64 (n:Int),byE b,.sl .ext L],.bool true]) []) (tk2:(k != 4)=false) (t2:((L.length:Int) != 2)=false) (hU:Uni 4 L)
  (hv0:L[(0:Int).toNat]?=some (.agg [.int .i64 k1,.int .u64 (n1:Int),.sl (b1.map E.byte),.sl (Zp l1)])) (hv1:L[(1:Int).toNat]?=some (.agg [.int .i64 k2,.int .u64 (n2:Int),.sl (b2.map E.byte),.sl (Zp l2)]))
  (hN:AP Tryd.prog 52 [.sl .ext [.int .u64 (n1:Int),.int .u64 (n2:Int)]] (.agg [.int .i64 4,.int .u64 0,.sl .ext [],.sl .ext [nmE n1,nmE n2]]) []) (hS:AP Tryd.prog 42 [.agg [.int .i64 k,.int .u64 (n:Int),byE b,.sl .ext L],.agg [.int .i64 4,.int .u64 0,.sl .ext [],.sl .ext [nmE n1,nmE n2]]] (.bool s) []) (ts:s=true) (t4:decide ((n1:Int) ≥ 1)=true) (t5:decide ((n1:Int)<=255)=true) :
  AP Tryd.prog 73 [byE d] (.tup [.int .u64 (n1:Int),.int .u64 (n2:Int),.bool (decide ((n2:Int)<=(n1:Int)))]) []:=by
 subst ts
 refine AP.ofA (Zl Tryd.func73 Z Tryd.ntmps73 Z Z ?_)
 repeat'(first|(apply Zb (hI);kernel_rfl;(iterate 4 exact Z))|(apply Zb (hS);kernel_rfl;(iterate 4 exact Z))|(apply Zb (hN);kernel_rfl;(iterate 4 exact Z))|(apply Zh Za;exact Z)|(apply Zf Za;exact Z)|(apply Zt Za;exact Z)|refine Ze Z Z Z Qt ?_|refine Zk Z Qt Z Z ?_|refine Zi Z Qt Z Z ?_|refine Zg Z Qt ?_|refine Zm Za Z Z Z Z ?_|refine ZS Za Z Z Z Z Z Z Z Z Z Z Z Z ?_|(apply Zn 11 ZF;decide +kernel;kernel_rfl;kernel_rfl;kernel_rfl;exact Z;exact Z)|(apply Zn 23 ZF;decide +kernel;kernel_rfl;kernel_rfl;kernel_rfl;exact Z;exact Z)|(apply Zr;(iterate 4 exact Z))|exact AE.nil _ _ _ _|(apply Zv;exact Z)|(apply ZA;exact Z;exact Z;decide +kernel;exact Z)|(apply ZB;exact Z)|exact AO.nil _ _ _|(apply Zq;(decide +kernel))|exact AOs.nil|exact ZG rfl rfl|exact Y8 rfl rfl rfl rfl rfl|(apply Zu Za;(iterate 6 exact Z);(first|exact Qt|rotate_left);(first|with_reducible assumption|decide +kernel|exact Z);(first|exact Zj rfl|with_reducible assumption|decide +kernel|rotate_left)))
 all_goals exact Qe
theorem NV [Known][KnownU8](d:List UInt8)(hd:d.length<=140737488351232):AP Tryd.prog 73 [byE d] (.tup [.int .u64 ((Jp d).1:Int),.int .u64 ((Jp d).2.1:Int),.bool (Jp d).2.2]) []:=by
 have hI:=KP d hd
 have hw:=TE d hd
 unfold Jp
 generalize (Ym d 0).1=x at *
 obtain⟨k,n,b,l⟩:=x
 cases hs:Wx d with
 | false=>
  rw[hs]at hI
  exact L1 d k n b l hI
 | true=>
 rw[hs]at hI
 unfold Mi
 dsimp only
 cases tk:(k==4) with
 | false=>exact L3 d k n b l hI tk
 | true=>
 have tk2:(k != 4)=false:=by rw[bne,tk];rfl
 match l,hI,hw with
 | [],hI,_=>exact MW d k n b _ hI tk (by simp)
 | [.mk _ _ _ _],hI,_=>exact MW d k n b _ hI tk (by simp)
 | .mk _ _ _ _::.mk _ _ _ _::_::_,hI,_=>exact MW d k n b _ hI tk (by simp)
 | [.mk k1 n1 b1 l1,.mk k2 n2 b2 l2],hI,hw=>
 have t2:(((Zp [It.mk k1 n1 b1 l1,.mk k2 n2 b2 l2]).length:Int) != 2)=false:=by rw[Zx];rfl
 have hU:=YV [It.mk k1 n1 b1 l1,.mk k2 n2 b2 l2]
 have hws:=hw.2.2.2
 have hS:=Vz _ hw (.mk 4 0 [] [.mk 0 n1 [] [],.mk 0 n2 [] []]) ⟨by decide,by simp,by simp,⟨hws.1.1,by simp,by simp,trivial⟩,⟨hws.2.1.1,by simp,by simp,trivial⟩,trivial⟩
 have hN:=OK n1 n2
 dsimp only
 cases t3:It.beq (.mk k n b [.mk k1 n1 b1 l1,.mk k2 n2 b2 l2]) (.mk 4 0 [] [.mk 0 n1 [] [],.mk 0 n2 [] []]) with
 | false=>exact L4 d k n b _ k1 n1 b1 l1 k2 n2 b2 l2 _ .junk hI tk2 t2 hU rfl rfl hN hS t3
 | true=>
 cases t4:decide ((n1:Int) ≥ 1) with
 | false=>exact L5 d k n b _ k1 n1 b1 l1 k2 n2 b2 l2 _ .junk hI tk2 t2 hU rfl rfl hN hS t3 t4
 | true=>
 cases t5:decide ((n1:Int)<=255) with
 | false=>exact L6 d k n b _ k1 n1 b1 l1 k2 n2 b2 l2 _ .junk hI tk2 t2 hU rfl rfl hN hS t3 t4 t5
 | true=>exact L7 d k n b _ k1 n1 b1 l1 k2 n2 b2 l2 _ .junk hI tk2 t2 hU rfl rfl hN hS t3 t4 t5
end Go.Proofs.YtmljabhmajehnaaDoor
end
