/- The document's first blocks: its answers are the program's, plain. -/
import Derived.Test.YtmljabhmajehnaaGreatDoorR41
import Derived.Test.YtmljabhmajehnaaGreatDoorR36
import Derived.Test.YtmljabhmajehnaaGreatDoorR40
set_option linter.unusedVariables false
set_option linter.unusedSimpArgs false
section
open Go.RowKit Go.Pl Go.Av
namespace Go.Proofs.YtmljabhmajehnaaGreatDoor
set_option maxHeartbeats 4000000
theorem QV {x:EidV}(h:ZQ x=true):YD (ZY x)<=5/\YU (ZY x) 5=true/\Yz (ZY x)=true:=by
 refine⟨?_,?_,?_⟩
 ·unfold ZY
  repeat' split
  all_goals simp[YD,Yg]
 ·unfold ZY
  repeat' split
  all_goals simp[YU,YN]
 ·have:=VQ h
  rw[YY]at this
  simp only[Bool.and_eq_true]at this
  exact this.2.2
theorem Ip (p:PriV):(YO p).length=8:=rfl
theorem Kb {p:PriV}(h:YA p=true):Yg (YO p)<=25/\YN (YO p) 5=true/\Y9 (YO p)=true:=by
 obtain⟨h1,h2,h3,h4,h5,h6⟩:=VR h
 obtain⟨i1,_,_⟩:=YG.1 h5
 obtain⟨a1,a2,a3⟩:=QV h3
 obtain⟨b1,b2,b3⟩:=QV h4
 obtain⟨c1,c2,c3⟩:=QV i1
 refine⟨?_,?_,?_⟩
 ·simp only[YO,Yg,YD]
  omega
 ·simp only[YO,YN,a2,b2,c2,YU,Bool.and_self]
 ·simp only[YO,Y9,a3,b3,c3]
  simp[Yz,Y9,Wp]
theorem Kc {p:PriV}(h:YA p=true)(x:List It)(hx:Yg x<=4/\YN x 5=true/\Y9 x=true):ZC (.mk 4 0 [] (YO p++x))=true:=by
 obtain⟨h1,h2,h3⟩:=Kb h
 rw[YY,YU,YD,Yz,UZ,U0,U1,hx.2.1,hx.2.2,h2,h3]
 have h4:Wp 4 0 [] (YO p++x)=true:=by simp[Wp]
 rw[h4]
 simp
 omega
def W6 (p:PriV):It:=(Wg (YO p) p.sum.toNat).1
theorem Hv {p:PriV}(h0:0<=p.sum)(h2:p.sum<=2):Wv (YO p) 2=p.sum:=by
 unfold Wv YO
 rw[if_neg (by omega)]
 show(match decide (((p.sum.toNat:Nat):Int)>2) with|true=>(-1:Int)|false=>match It.beq (.mk 0 p.sum.toNat [] []) (.mk 0 p.sum.toNat [] []) with|true=>((p.sum.toNat:Nat):Int)|false => -1)=p.sum
 rw[show decide (((p.sum.toNat:Nat):Int)>2)=false from decide_eq_false (by omega),It.beq_iff.2 rfl]
 dsimp only
 exact Int.toNat_of_nonneg h0
theorem TH {p:PriV}(h:YA p=true)(s:Nat):(Wg (YO p) s).2=true:=by
 cases s with
 | zero=>
  unfold Wg
  have:=Kc h [] ⟨by simp[Yg],rfl,rfl⟩
  rw[List.append_nil]at this
  exact this
 | succ s=>
  unfold Wg
  dsimp only
  have:ZC (ZV (s+1) (YO p))=true:=Kc h [.mk 2 0 (List.replicate (2*(s+1)) 0) []] ⟨by simp[Yg,YD],by simp[YN,YU],by simp[Y9,Yz,Wp]⟩
  rw[this]
theorem XQ {p:PriV}(h:YA p=true):WJ p=(W6 p,0):=by
 obtain⟨h3,h4,_⟩:=VR h
 unfold WJ
 rw[h]
 dsimp only
 rw[Ny]
 unfold Nx W6
 rw[Hv h3 h4,Ip]
 rw[show(decide ((2:Int)<0)||decide ((2:Int) ≥ ((8:Nat):Int)))=false from by decide]
 dsimp only
 rw[decide_eq_true (show p.sum ≥ 0 from h3),TH h]
theorem BU {p:PriV}(h:YA p=true)(s:Nat)(hs:s<=2):(ZI (ZV s (YO p))).length<=1000000000:=by
 have h1:=Tv h
 have h0:=Yn 4 0 [] (YO p++[.mk 2 0 (List.replicate (2*s) 0) []])
 have hb:=Yn 2 0 (List.replicate (2*s) 0) []
 rw[UV]at h0
 simp only[ZO,List.length_append,List.length_nil,List.length_replicate,Nat.add_zero,Nat.zero_add]at h0 hb
 show(ZI (.mk 4 0 [] (YO p++[.mk 2 0 (List.replicate (2*s) 0) []]))).length<=1000000000
 omega
def Rk (d:List UInt8):Nat × Nat:=match(UT d).2.2 with
 | true=>((UT d).1,(UT d).2.1)
 | false=>(0,0)
theorem Mw (k:Int)(n:Nat)(b:List UInt8)(k1:Int)(n1:Nat)(b1:List UInt8)(l1:List It)(k2:Int)(n2:Nat)(b2:List UInt8)(l2:List It) :
  (It.beq (.mk k n b [.mk k1 n1 b1 l1,.mk k2 n2 b2 l2]) (.mk 4 0 [] [.mk 0 n1 [] [],.mk 0 n2 [] []])=false/\(K3 true (.mk k n b [.mk k1 n1 b1 l1,.mk k2 n2 b2 l2])).2.2=false) \/
  (It.beq (.mk k n b [.mk k1 n1 b1 l1,.mk k2 n2 b2 l2]) (.mk 4 0 [] [.mk 0 n1 [] [],.mk 0 n2 [] []])=true/\K3 true (.mk k n b [.mk k1 n1 b1 l1,.mk k2 n2 b2 l2])=(n1,n2,decide ((n1:Int) ≥ 1)&&(decide ((n1:Int)<=255)&&decide ((n2:Int)<=(n1:Int))))):=by
 unfold K3
 dsimp only
 cases h:It.beq (.mk k n b [.mk k1 n1 b1 l1,.mk k2 n2 b2 l2]) (.mk 4 0 [] [.mk 0 n1 [] [],.mk 0 n2 [] []]) with
 | false=>
  refine .inl ⟨rfl,?_⟩
  cases k==4<;>rfl
 | true=>
  have:=It.beq_iff.1 h
  injection this with e
  subst e
  exact .inr ⟨rfl,by rw[show((4:Int)==4)=true from rfl];simp⟩
theorem Rl [Known][KnownU8](d:List UInt8)(hd:d.length<=100000):AP Tryz.prog 88 [byE d] (.tup [.int .u64 ((Rk d).1:Int),.int .u64 ((Rk d).2:Int),.bool (UT d).2.2]) []:=by
 have hI:=Xe d hd
 unfold Rk UT
 rcases Qo d hd with⟨hs,hi⟩ | ⟨hs,hi,hr,hw⟩
 ·rw[hs,hi]at hI
  rw[hs]
  replace hI:AP Tryz.prog _ _ (.tup [.agg [.int .i64 0,.int .u64 0,.sl .ext [],.sl .ext []],.bool false]) []:=hI
  refine AP.ofA (Zl Tryz.func88 U Tryz.ntmps88 U U ?_)
  repeat'(first|(apply Zb (hI);kernel_rfl;(iterate 4 exact U))|(apply Zi Za;exact U)|(apply Zg Za;exact U)|(apply Zp Za;exact U)|refine Zm U U U Qt ?_|refine Zj U Qt U U ?_|refine Zd U Qt ?_|(apply Zo 21 ZB;decide +kernel;kernel_rfl;kernel_rfl;kernel_rfl;exact U;exact U)|(apply Zs;(iterate 4 exact U))|exact AE.nil _ _ _ _|(apply Zx;exact U)|(apply Zz;exact U;exact U;decide +kernel;exact U)|(apply ZA;exact U)|exact AO.nil _ _ _|(apply Zr;(decide +kernel))|exact AOs.nil|exact ZF rfl rfl)
  all_goals exact Qe
 ·rw[hs,hi]at hI
  rw[hs]
  generalize (Z8 d 0).1=y at *
  obtain⟨k,n,b,l⟩:=y
  replace hI:AP Tryz.prog _ _ (.tup [.agg (itC k n b l),.bool true]) []:=hI
  have hlen:=Zw l
  have hU:=YE l
  have no:l.length ≠ 2->K3 true (.mk k n b l)=(0,0,false):=fun h=>by
   unfold K3
   dsimp only
   cases k==4 with
   | false=>rfl
   | true=>
    dsimp only
    split
    ·simp at h
    ·rfl
  by_cases h2:l.length=2
  ·clear no
   match l,h2,hI,hw,hU,hlen with
   | [.mk k1 n1 b1 l1,.mk k2 n2 b2 l2],_,hI,hw,hU,hlen=>
   have t2:(((Zv [It.mk k1 n1 b1 l1,.mk k2 n2 b2 l2]).length:Int) != 2)=false:=by rw[hlen];rfl
   have hws:=hw.2.2.2
   have hS:=VC _ hw (.mk 4 0 [] [.mk 0 n1 [] [],.mk 0 n2 [] []]) ⟨by decide,by simp,by simp,⟨hws.1.1,by simp,by simp,trivial⟩,⟨hws.2.1.1,by simp,by simp,trivial⟩,trivial⟩
   have hN:=Rf n1 n2
   rcases Mw k n b k1 n1 b1 l1 k2 n2 b2 l2 with⟨h1,h2⟩ | ⟨h1,h2⟩
   ·rw[h2]
    rw[h1]at hS
    refine AP.ofA (Zl Tryz.func88 U Tryz.ntmps88 U U ?_)
    repeat'(first|(apply Zb (hI);kernel_rfl;(iterate 4 exact U))|(apply Zb (hS);kernel_rfl;(iterate 4 exact U))|(apply Zb (hN);kernel_rfl;(iterate 4 exact U))|(apply Zi Za;exact U)|(apply Zg Za;exact U)|(apply Zp Za;exact U)|refine Ze U U U Qt ?_|refine Zh U Qt U U ?_|refine Zd U Qt ?_|refine Zn Za U U U U ?_|(apply Zo 21 ZB;decide +kernel;kernel_rfl;kernel_rfl;kernel_rfl;exact U;exact U)|(apply Zs;(iterate 4 exact U))|exact AE.nil _ _ _ _|(apply Zx;exact U)|(apply Zz;exact U;exact U;decide +kernel;exact U)|(apply ZA;exact U)|exact AO.nil _ _ _|(apply Zr;(decide +kernel))|exact AOs.nil|exact ZF rfl rfl|(apply Zu Za;(iterate 6 exact U);(first|exact Qt|rotate_left);(first|with_reducible assumption|decide +kernel|exact U);(first|exact Zk rfl|with_reducible assumption|decide +kernel|rotate_left)))
    all_goals exact Qe
   ·rw[h2]
    rw[h1]at hS
    rcases Nat.lt_or_ge n1 1 with g1|g1
    ·have a1:decide ((n1:Int)<1)=true:=decide_eq_true (by omega)
     have c1:decide ((n1:Int) ≥ 1)=false:=decide_eq_false (by omega)
     rw[c1]
     refine AP.ofA (Zl Tryz.func88 U Tryz.ntmps88 U U ?_)
     repeat'(first|(apply Zb (hI);kernel_rfl;(iterate 4 exact U))|(apply Zb (hS);kernel_rfl;(iterate 4 exact U))|(apply Zb (hN);kernel_rfl;(iterate 4 exact U))|(apply Zi Za;exact U)|(apply Zg Za;exact U)|(apply Zp Za;exact U)|refine Ze U U U Qt ?_|refine Zm U U U Qt ?_|refine Zj U Qt U U ?_|refine Zh U Qt U U ?_|refine Zd U Qt ?_|refine Zf U Qt ?_|refine Zn Za U U U U ?_|(apply Zo 11 ZB;decide +kernel;kernel_rfl;kernel_rfl;kernel_rfl;exact U;exact U)|(apply Zo 21 ZB;decide +kernel;kernel_rfl;kernel_rfl;kernel_rfl;exact U;exact U)|(apply Zs;(iterate 4 exact U))|exact AE.nil _ _ _ _|(apply Zx;exact U)|(apply Zz;exact U;exact U;decide +kernel;exact U)|(apply ZA;exact U)|exact AO.nil _ _ _|(apply Zr;(decide +kernel))|exact AOs.nil|exact ZF rfl rfl|(apply Zu Za;(iterate 6 exact U);(first|exact Qt|rotate_left);(first|with_reducible assumption|decide +kernel|exact U);(first|exact Zk rfl|with_reducible assumption|decide +kernel|rotate_left)))
     all_goals exact Qe
    have a1:decide ((n1:Int)<1)=false:=decide_eq_false (by omega)
    have c1:decide ((n1:Int) ≥ 1)=true:=decide_eq_true (by omega)
    rw[c1]
    rcases Nat.lt_or_ge 255 n1 with g2|g2
    ·have a2:decide ((n1:Int)>255)=true:=decide_eq_true (by omega)
     have c2:decide ((n1:Int)<=255)=false:=decide_eq_false (by omega)
     rw[c2]
     refine AP.ofA (Zl Tryz.func88 U Tryz.ntmps88 U U ?_)
     repeat'(first|(apply Zb (hI);kernel_rfl;(iterate 4 exact U))|(apply Zb (hS);kernel_rfl;(iterate 4 exact U))|(apply Zb (hN);kernel_rfl;(iterate 4 exact U))|(apply Zi Za;exact U)|(apply Zg Za;exact U)|(apply Zp Za;exact U)|refine Ze U U U Qt ?_|refine Zm U U U Qt ?_|refine Zj U Qt U U ?_|refine Zh U Qt U U ?_|refine Zd U Qt ?_|refine Zf U Qt ?_|refine Zn Za U U U U ?_|(apply Zo 11 ZB;decide +kernel;kernel_rfl;kernel_rfl;kernel_rfl;exact U;exact U)|(apply Zo 21 ZB;decide +kernel;kernel_rfl;kernel_rfl;kernel_rfl;exact U;exact U)|(apply Zs;(iterate 4 exact U))|exact AE.nil _ _ _ _|(apply Zx;exact U)|(apply Zz;exact U;exact U;decide +kernel;exact U)|(apply ZA;exact U)|exact AO.nil _ _ _|(apply Zr;(decide +kernel))|exact AOs.nil|exact ZF rfl rfl|(apply Zu Za;(iterate 6 exact U);(first|exact Qt|rotate_left);(first|with_reducible assumption|decide +kernel|exact U);(first|exact Zk rfl|with_reducible assumption|decide +kernel|rotate_left)))
     all_goals exact Qe
    have a2:decide ((n1:Int)>255)=false:=decide_eq_false (by omega)
    have c2:decide ((n1:Int)<=255)=true:=decide_eq_true (by omega)
    rw[c2]
    rcases Nat.lt_or_ge n1 n2 with g3|g3
    ·have a3:decide ((n2:Int)>(n1:Int))=true:=decide_eq_true (by omega)
     have c3:decide ((n2:Int)<=(n1:Int))=false:=decide_eq_false (by omega)
     rw[c3]
     refine AP.ofA (Zl Tryz.func88 U Tryz.ntmps88 U U ?_)
     repeat'(first|(apply Zb (hI);kernel_rfl;(iterate 4 exact U))|(apply Zb (hS);kernel_rfl;(iterate 4 exact U))|(apply Zb (hN);kernel_rfl;(iterate 4 exact U))|(apply Zi Za;exact U)|(apply Zg Za;exact U)|(apply Zp Za;exact U)|refine Ze U U U Qt ?_|refine Zh U Qt U U ?_|refine Zd U Qt ?_|refine Zf U Qt ?_|refine Zn Za U U U U ?_|(apply Zo 11 ZB;decide +kernel;kernel_rfl;kernel_rfl;kernel_rfl;exact U;exact U)|(apply Zo 21 ZB;decide +kernel;kernel_rfl;kernel_rfl;kernel_rfl;exact U;exact U)|(apply Zs;(iterate 4 exact U))|exact AE.nil _ _ _ _|(apply Zx;exact U)|(apply Zz;exact U;exact U;decide +kernel;exact U)|(apply ZA;exact U)|exact AO.nil _ _ _|(apply Zr;(decide +kernel))|exact AOs.nil|exact ZF rfl rfl|(apply Zu Za;(iterate 6 exact U);(first|exact Qt|rotate_left);(first|with_reducible assumption|decide +kernel|exact U);(first|exact Zk rfl|with_reducible assumption|decide +kernel|rotate_left)))
     all_goals exact Qe
    have a3:decide ((n2:Int)>(n1:Int))=false:=decide_eq_false (by omega)
    have c3:decide ((n2:Int)<=(n1:Int))=true:=decide_eq_true (by omega)
    rw[c3]
    refine AP.ofA (Zl Tryz.func88 U Tryz.ntmps88 U U ?_)
    repeat'(first|(apply Zb (hI);kernel_rfl;(iterate 4 exact U))|(apply Zb (hS);kernel_rfl;(iterate 4 exact U))|(apply Zb (hN);kernel_rfl;(iterate 4 exact U))|(apply Zi Za;exact U)|(apply Zg Za;exact U)|(apply Zp Za;exact U)|refine Ze U U U Qt ?_|refine Zh U Qt U U ?_|refine Zf U Qt ?_|refine Zn Za U U U U ?_|(apply Zo 11 ZB;decide +kernel;kernel_rfl;kernel_rfl;kernel_rfl;exact U;exact U)|(apply Zo 21 ZB;decide +kernel;kernel_rfl;kernel_rfl;kernel_rfl;exact U;exact U)|(apply Zs;(iterate 4 exact U))|exact AE.nil _ _ _ _|(apply Zx;exact U)|(apply Zz;exact U;exact U;decide +kernel;exact U)|(apply ZA;exact U)|exact AO.nil _ _ _|(apply Zr;(decide +kernel))|exact AOs.nil|exact ZF rfl rfl|(apply Zu Za;(iterate 6 exact U);(first|exact Qt|rotate_left);(first|with_reducible assumption|decide +kernel|exact U);(first|exact Zk rfl|with_reducible assumption|decide +kernel|rotate_left)))
    all_goals exact Qe
  ·rw[no h2]
   have t2:(((Zv l).length:Int) != 2)=true:=by rw[hlen];simp;omega
   refine AP.ofA (Zl Tryz.func88 U Tryz.ntmps88 U U ?_)
   repeat'(first|(apply Zb (hI);kernel_rfl;(iterate 4 exact U))|(apply Zi Za;exact U)|(apply Zg Za;exact U)|(apply Zp Za;exact U)|refine Ze U U U Qt ?_|refine Zm U U U Qt ?_|refine Zj U Qt U U ?_|refine Zh U Qt U U ?_|refine Zd U Qt ?_|refine Zn Za U U U U ?_|(apply Zo 21 ZB;decide +kernel;kernel_rfl;kernel_rfl;kernel_rfl;exact U;exact U)|(apply Zs;(iterate 4 exact U))|exact AE.nil _ _ _ _|(apply Zx;exact U)|(apply Zz;exact U;exact U;decide +kernel;exact U)|(apply ZA;exact U)|exact AO.nil _ _ _|(apply Zr;(decide +kernel))|exact AOs.nil|exact ZF rfl rfl)
   all_goals exact Qe
theorem FI [Known](ty num fl F:Nat)(sum:Int)(d:List UInt8)(g:Bool)(hg:decide ((fl:Int) ≥ 16)=g)(hF:g=false->fl=F)(hw:g=true->IntKind.u64.wrap ((fl:Int)-16)=(F:Int))(t0:decide ((ty:Int)<1)=true) :
  AP Tryz.prog 80 [.agg [.int .u64 (ty:Int),.int .u64 (num:Int),.int .u64 (fl:Int),.int .i64 sum,byE d]] (.bool false) []:=by
 cases g with
 | false=>
  obtain rfl:=hF rfl
  clear hw hF
  refine AP.ofA (Zl Tryz.func80 U Tryz.ntmps80 U U ?_)
  repeat'(first|(apply Zi Za;exact U)|(apply Zg Za;exact U)|(apply Zp Za;exact U)|refine Zm U U U Qt ?_|refine Zj U Qt U U ?_|refine Zd U Qt ?_|refine Zf U Qt ?_)
  all_goals exact Qe
 | true=>
  have hw:=hw rfl
  clear hF
  refine AP.ofA (Zl Tryz.func80 U Tryz.ntmps80 U U ?_)
  repeat'(first|rw[hw]|(apply Zi Za;exact U)|(apply Zg Za;exact U)|(apply Zp Za;exact U)|refine Zm U U U Qt ?_|refine Zj U Qt U U ?_|refine Zd U Qt ?_)
  all_goals exact Qe
theorem FJ [Known](ty num fl F:Nat)(sum:Int)(d:List UInt8)(g:Bool)(hg:decide ((fl:Int) ≥ 16)=g)(hF:g=false->fl=F)(hw:g=true->IntKind.u64.wrap ((fl:Int)-16)=(F:Int))(t0:decide ((ty:Int)<1)=false)(t1:decide ((ty:Int)>255)=true) :
  AP Tryz.prog 80 [.agg [.int .u64 (ty:Int),.int .u64 (num:Int),.int .u64 (fl:Int),.int .i64 sum,byE d]] (.bool false) []:=by
 cases g with
 | false=>
  obtain rfl:=hF rfl
  clear hw hF
  refine AP.ofA (Zl Tryz.func80 U Tryz.ntmps80 U U ?_)
  repeat'(first|(apply Zi Za;exact U)|(apply Zg Za;exact U)|(apply Zp Za;exact U)|refine Ze U U U Qt ?_|refine Zm U U U Qt ?_|refine Zj U Qt U U ?_|refine Zh U Qt U U ?_|refine Zd U Qt ?_|refine Zf U Qt ?_)
  all_goals exact Qe
 | true=>
  have hw:=hw rfl
  clear hF
  refine AP.ofA (Zl Tryz.func80 U Tryz.ntmps80 U U ?_)
  repeat'(first|rw[hw]|(apply Zi Za;exact U)|(apply Zg Za;exact U)|(apply Zp Za;exact U)|refine Ze U U U Qt ?_|refine Zm U U U Qt ?_|refine Zj U Qt U U ?_|refine Zh U Qt U U ?_|refine Zd U Qt ?_)
  all_goals exact Qe
theorem FK [Known](ty num fl F:Nat)(sum:Int)(d:List UInt8)(g:Bool)(hg:decide ((fl:Int) ≥ 16)=g)(hF:g=false->fl=F)(hw:g=true->IntKind.u64.wrap ((fl:Int)-16)=(F:Int))(t0:decide ((ty:Int)<1)=false)(t1:decide ((ty:Int)>255)=false)(t2:decide ((num:Int)<1)=true) :
  AP Tryz.prog 80 [.agg [.int .u64 (ty:Int),.int .u64 (num:Int),.int .u64 (fl:Int),.int .i64 sum,byE d]] (.bool false) []:=by
 cases g with
 | false=>
  obtain rfl:=hF rfl
  clear hw hF
  refine AP.ofA (Zl Tryz.func80 U Tryz.ntmps80 U U ?_)
  repeat'(first|(apply Zi Za;exact U)|(apply Zg Za;exact U)|(apply Zp Za;exact U)|refine Ze U U U Qt ?_|refine Zm U U U Qt ?_|refine Zj U Qt U U ?_|refine Zh U Qt U U ?_|refine Zd U Qt ?_|refine Zf U Qt ?_)
  all_goals exact Qe
 | true=>
  have hw:=hw rfl
  clear hF
  refine AP.ofA (Zl Tryz.func80 U Tryz.ntmps80 U U ?_)
  repeat'(first|rw[hw]|(apply Zi Za;exact U)|(apply Zg Za;exact U)|(apply Zp Za;exact U)|refine Ze U U U Qt ?_|refine Zm U U U Qt ?_|refine Zj U Qt U U ?_|refine Zh U Qt U U ?_|refine Zd U Qt ?_)
  all_goals exact Qe
theorem FL [Known](ty num fl F:Nat)(sum:Int)(d:List UInt8)(g:Bool)(hg:decide ((fl:Int) ≥ 16)=g)(hF:g=false->fl=F)(hw:g=true->IntKind.u64.wrap ((fl:Int)-16)=(F:Int))(t0:decide ((ty:Int)<1)=false)(t1:decide ((ty:Int)>255)=false)(t2:decide ((num:Int)<1)=false)(t3:decide ((num:Int)>255)=true) :
  AP Tryz.prog 80 [.agg [.int .u64 (ty:Int),.int .u64 (num:Int),.int .u64 (fl:Int),.int .i64 sum,byE d]] (.bool false) []:=by
 cases g with
 | false=>
  obtain rfl:=hF rfl
  clear hw hF
  refine AP.ofA (Zl Tryz.func80 U Tryz.ntmps80 U U ?_)
  repeat'(first|(apply Zi Za;exact U)|(apply Zg Za;exact U)|(apply Zp Za;exact U)|refine Ze U U U Qt ?_|refine Zm U U U Qt ?_|refine Zj U Qt U U ?_|refine Zh U Qt U U ?_|refine Zd U Qt ?_|refine Zf U Qt ?_)
  all_goals exact Qe
 | true=>
  have hw:=hw rfl
  clear hF
  refine AP.ofA (Zl Tryz.func80 U Tryz.ntmps80 U U ?_)
  repeat'(first|rw[hw]|(apply Zi Za;exact U)|(apply Zg Za;exact U)|(apply Zp Za;exact U)|refine Ze U U U Qt ?_|refine Zm U U U Qt ?_|refine Zj U Qt U U ?_|refine Zh U Qt U U ?_|refine Zd U Qt ?_)
  all_goals exact Qe
theorem FM [Known](ty num fl F:Nat)(sum:Int)(d:List UInt8)(g:Bool)(hg:decide ((fl:Int) ≥ 16)=g)(hF:g=false->fl=F)(hw:g=true->IntKind.u64.wrap ((fl:Int)-16)=(F:Int))(t0:decide ((ty:Int)<1)=false)(t1:decide ((ty:Int)>255)=false)(t2:decide ((num:Int)<1)=false)(t3:decide ((num:Int)>255)=false)(t4:decide ((F:Int)>7)=true) :
  AP Tryz.prog 80 [.agg [.int .u64 (ty:Int),.int .u64 (num:Int),.int .u64 (fl:Int),.int .i64 sum,byE d]] (.bool false) []:=by
 cases g with
 | false=>
  obtain rfl:=hF rfl
  clear hw hF
  refine AP.ofA (Zl Tryz.func80 U Tryz.ntmps80 U U ?_)
  repeat'(first|(apply Zi Za;exact U)|(apply Zg Za;exact U)|(apply Zp Za;exact U)|refine Ze U U U Qt ?_|refine Zm U U U Qt ?_|refine Zj U Qt U U ?_|refine Zh U Qt U U ?_|refine Zd U Qt ?_|refine Zf U Qt ?_)
  all_goals exact Qe
 | true=>
  have hw:=hw rfl
  clear hF
  refine AP.ofA (Zl Tryz.func80 U Tryz.ntmps80 U U ?_)
  repeat'(first|rw[hw]|(apply Zi Za;exact U)|(apply Zg Za;exact U)|(apply Zp Za;exact U)|refine Ze U U U Qt ?_|refine Zm U U U Qt ?_|refine Zj U Qt U U ?_|refine Zh U Qt U U ?_|refine Zd U Qt ?_)
  all_goals exact Qe
theorem FN [Known](ty num fl F:Nat)(sum:Int)(d:List UInt8)(g:Bool)(hg:decide ((fl:Int) ≥ 16)=g)(hF:g=false->fl=F)(hw:g=true->IntKind.u64.wrap ((fl:Int)-16)=(F:Int))(t0:decide ((ty:Int)<1)=false)(t1:decide ((ty:Int)>255)=false)(t2:decide ((num:Int)<1)=false)(t3:decide ((num:Int)>255)=false)(t4:decide ((F:Int)>7)=false)(t5:decide (sum<0)=true) :
  AP Tryz.prog 80 [.agg [.int .u64 (ty:Int),.int .u64 (num:Int),.int .u64 (fl:Int),.int .i64 sum,byE d]] (.bool false) []:=by
 cases g with
 | false=>
  obtain rfl:=hF rfl
  clear hw hF
  refine AP.ofA (Zl Tryz.func80 U Tryz.ntmps80 U U ?_)
  repeat'(first|(apply Zi Za;exact U)|(apply Zg Za;exact U)|(apply Zp Za;exact U)|refine Ze U U U Qt ?_|refine Zm U U U Qt ?_|refine Zj U Qt U U ?_|refine Zh U Qt U U ?_|refine Zd U Qt ?_|refine Zf U Qt ?_)
  all_goals exact Qe
 | true=>
  have hw:=hw rfl
  clear hF
  refine AP.ofA (Zl Tryz.func80 U Tryz.ntmps80 U U ?_)
  repeat'(first|rw[hw]|(apply Zi Za;exact U)|(apply Zg Za;exact U)|(apply Zp Za;exact U)|refine Ze U U U Qt ?_|refine Zm U U U Qt ?_|refine Zj U Qt U U ?_|refine Zh U Qt U U ?_|refine Zd U Qt ?_)
  all_goals exact Qe
theorem FO [Known](ty num fl F:Nat)(sum:Int)(d:List UInt8)(g:Bool)(hg:decide ((fl:Int) ≥ 16)=g)(hF:g=false->fl=F)(hw:g=true->IntKind.u64.wrap ((fl:Int)-16)=(F:Int))(t0:decide ((ty:Int)<1)=false)(t1:decide ((ty:Int)>255)=false)(t2:decide ((num:Int)<1)=false)(t3:decide ((num:Int)>255)=false)(t4:decide ((F:Int)>7)=false)(t5:decide (sum<0)=false)(t6:decide (sum>2)=true) :
  AP Tryz.prog 80 [.agg [.int .u64 (ty:Int),.int .u64 (num:Int),.int .u64 (fl:Int),.int .i64 sum,byE d]] (.bool false) []:=by
 cases g with
 | false=>
  obtain rfl:=hF rfl
  clear hw hF
  refine AP.ofA (Zl Tryz.func80 U Tryz.ntmps80 U U ?_)
  repeat'(first|(apply Zi Za;exact U)|(apply Zg Za;exact U)|(apply Zp Za;exact U)|refine Ze U U U Qt ?_|refine Zm U U U Qt ?_|refine Zj U Qt U U ?_|refine Zh U Qt U U ?_|refine Zd U Qt ?_|refine Zf U Qt ?_)
  all_goals exact Qe
 | true=>
  have hw:=hw rfl
  clear hF
  refine AP.ofA (Zl Tryz.func80 U Tryz.ntmps80 U U ?_)
  repeat'(first|rw[hw]|(apply Zi Za;exact U)|(apply Zg Za;exact U)|(apply Zp Za;exact U)|refine Ze U U U Qt ?_|refine Zm U U U Qt ?_|refine Zj U Qt U U ?_|refine Zh U Qt U U ?_|refine Zd U Qt ?_)
  all_goals exact Qe
theorem FP [Known](ty num fl F:Nat)(sum:Int)(d:List UInt8)(g:Bool)(hg:decide ((fl:Int) ≥ 16)=g)(hF:g=false->fl=F)(hw:g=true->IntKind.u64.wrap ((fl:Int)-16)=(F:Int))(t0:decide ((ty:Int)<1)=false)(t1:decide ((ty:Int)>255)=false)(t2:decide ((num:Int)<1)=false)(t3:decide ((num:Int)>255)=false)(t4:decide ((F:Int)>7)=false)(t5:decide (sum<0)=false)(t6:decide (sum>2)=false)(t7:decide (((d.map E.byte).length:Int)>200)=true) :
  AP Tryz.prog 80 [.agg [.int .u64 (ty:Int),.int .u64 (num:Int),.int .u64 (fl:Int),.int .i64 sum,byE d]] (.bool false) []:=by
 cases g with
 | false=>
  obtain rfl:=hF rfl
  clear hw hF
  refine AP.ofA (Zl Tryz.func80 U Tryz.ntmps80 U U ?_)
  repeat'(first|(apply Zi Za;exact U)|(apply Zg Za;exact U)|(apply Zp Za;exact U)|refine Ze U U U Qt ?_|refine Zh U Qt U U ?_|refine Zd U Qt ?_|refine Zf U Qt ?_|refine Zn Za U U U U ?_)
  all_goals exact Qe
 | true=>
  have hw:=hw rfl
  clear hF
  refine AP.ofA (Zl Tryz.func80 U Tryz.ntmps80 U U ?_)
  repeat'(first|rw[hw]|(apply Zi Za;exact U)|(apply Zg Za;exact U)|(apply Zp Za;exact U)|refine Ze U U U Qt ?_|refine Zh U Qt U U ?_|refine Zd U Qt ?_|refine Zn Za U U U U ?_)
  all_goals exact Qe
theorem DW [Known](ty num fl F:Nat)(sum:Int)(d:List UInt8)(g:Bool)(zi ok:Bool)(zn zs:Nat)(zh zd:List UInt8)(hg:decide ((fl:Int) ≥ 16)=g)(hF:g=false->fl=F)(hw:g=true->IntKind.u64.wrap ((fl:Int)-16)=(F:Int))(t0:decide ((ty:Int)<1)=false)(t1:decide ((ty:Int)>255)=false)(t2:decide ((num:Int)<1)=false)(t3:decide ((num:Int)>255)=false)(t4:decide ((F:Int)>7)=false)(t5:decide (sum<0)=false)(t6:decide (sum>2)=false)(t7:decide (((d.map E.byte).length:Int)>200)=false)(u6:((ty:Int)==6)=true)(u7:((ty:Int)==7)=false)(u10:((ty:Int)==10)=false)(hP:AP Tryz.prog 124 [byE d] (.tup [.agg [.bool zi,.int .u64 (zn:Int),.int .u64 (zs:Int),.str zh,.str zd],.bool ok]) []) :
  AP Tryz.prog 80 [.agg [.int .u64 (ty:Int),.int .u64 (num:Int),.int .u64 (fl:Int),.int .i64 sum,byE d]] (.bool ok) []:=by
 cases g with
 | false=>
  obtain rfl:=hF rfl
  clear hw hF
  refine AP.ofA (Zl Tryz.func80 U Tryz.ntmps80 U U ?_)
  repeat'(first|(apply Zb (hP);kernel_rfl;(iterate 4 exact U))|(apply Zi Za;exact U)|(apply Zg Za;exact U)|(apply Zp Za;exact U)|refine Ze U U U Qt ?_|refine Zh U Qt U U ?_|refine Zd U Qt ?_|refine Zf U Qt ?_|refine Zn Za U U U U ?_)
  all_goals exact Qe
 | true=>
  have hw:=hw rfl
  clear hF
  refine AP.ofA (Zl Tryz.func80 U Tryz.ntmps80 U U ?_)
  repeat'(first|rw[hw]|(apply Zb (hP);kernel_rfl;(iterate 4 exact U))|(apply Zi Za;exact U)|(apply Zg Za;exact U)|(apply Zp Za;exact U)|refine Ze U U U Qt ?_|refine Zh U Qt U U ?_|refine Zd U Qt ?_|refine Zf U Qt ?_|refine Zn Za U U U U ?_)
  all_goals exact Qe
theorem DX [Known](ty num fl F:Nat)(sum:Int)(d:List UInt8)(g:Bool)(ok:Bool)(zn:Nat)(hg:decide ((fl:Int) ≥ 16)=g)(hF:g=false->fl=F)(hw:g=true->IntKind.u64.wrap ((fl:Int)-16)=(F:Int))(t0:decide ((ty:Int)<1)=false)(t1:decide ((ty:Int)>255)=false)(t2:decide ((num:Int)<1)=false)(t3:decide ((num:Int)>255)=false)(t4:decide ((F:Int)>7)=false)(t5:decide (sum<0)=false)(t6:decide (sum>2)=false)(t7:decide (((d.map E.byte).length:Int)>200)=false)(u6:((ty:Int)==6)=false)(u7:((ty:Int)==7)=true)(u10:((ty:Int)==10)=false)(hP:AP Tryz.prog 125 [byE d] (.tup [.int .u64 (zn:Int),.bool ok]) []) :
  AP Tryz.prog 80 [.agg [.int .u64 (ty:Int),.int .u64 (num:Int),.int .u64 (fl:Int),.int .i64 sum,byE d]] (.bool ok) []:=by
 cases g with
 | false=>
  obtain rfl:=hF rfl
  clear hw hF
  refine AP.ofA (Zl Tryz.func80 U Tryz.ntmps80 U U ?_)
  repeat'(first|(apply Zb (hP);kernel_rfl;(iterate 4 exact U))|(apply Zi Za;exact U)|(apply Zg Za;exact U)|(apply Zp Za;exact U)|refine Ze U U U Qt ?_|refine Zh U Qt U U ?_|refine Zd U Qt ?_|refine Zf U Qt ?_|refine Zn Za U U U U ?_)
  all_goals exact Qe
 | true=>
  have hw:=hw rfl
  clear hF
  refine AP.ofA (Zl Tryz.func80 U Tryz.ntmps80 U U ?_)
  repeat'(first|rw[hw]|(apply Zb (hP);kernel_rfl;(iterate 4 exact U))|(apply Zi Za;exact U)|(apply Zg Za;exact U)|(apply Zp Za;exact U)|refine Ze U U U Qt ?_|refine Zh U Qt U U ?_|refine Zd U Qt ?_|refine Zf U Qt ?_|refine Zn Za U U U U ?_)
  all_goals exact Qe
theorem BV [Known](ty num fl F:Nat)(sum:Int)(d:List UInt8)(g:Bool)(ok:Bool)(zn zm:Nat)(hg:decide ((fl:Int) ≥ 16)=g)(hF:g=false->fl=F)(hw:g=true->IntKind.u64.wrap ((fl:Int)-16)=(F:Int))(t0:decide ((ty:Int)<1)=false)(t1:decide ((ty:Int)>255)=false)(t2:decide ((num:Int)<1)=false)(t3:decide ((num:Int)>255)=false)(t4:decide ((F:Int)>7)=false)(t5:decide (sum<0)=false)(t6:decide (sum>2)=false)(t7:decide (((d.map E.byte).length:Int)>200)=false)(u6:((ty:Int)==6)=false)(u7:((ty:Int)==7)=false)(u10:((ty:Int)==10)=true)(hP:AP Tryz.prog 88 [byE d] (.tup [.int .u64 (zn:Int),.int .u64 (zm:Int),.bool ok]) []) :
  AP Tryz.prog 80 [.agg [.int .u64 (ty:Int),.int .u64 (num:Int),.int .u64 (fl:Int),.int .i64 sum,byE d]] (.bool ok) []:=by
 cases g with
 | false=>
  obtain rfl:=hF rfl
  clear hw hF
  refine AP.ofA (Zl Tryz.func80 U Tryz.ntmps80 U U ?_)
  repeat'(first|(apply Zb (hP);kernel_rfl;(iterate 4 exact U))|(apply Zi Za;exact U)|(apply Zg Za;exact U)|(apply Zp Za;exact U)|refine Ze U U U Qt ?_|refine Zh U Qt U U ?_|refine Zd U Qt ?_|refine Zf U Qt ?_|refine Zn Za U U U U ?_)
  all_goals exact Qe
 | true=>
  have hw:=hw rfl
  clear hF
  refine AP.ofA (Zl Tryz.func80 U Tryz.ntmps80 U U ?_)
  repeat'(first|rw[hw]|(apply Zb (hP);kernel_rfl;(iterate 4 exact U))|(apply Zi Za;exact U)|(apply Zg Za;exact U)|(apply Zp Za;exact U)|refine Ze U U U Qt ?_|refine Zh U Qt U U ?_|refine Zd U Qt ?_|refine Zf U Qt ?_|refine Zn Za U U U U ?_)
  all_goals exact Qe
theorem DY [Known](ty num fl F:Nat)(sum:Int)(d:List UInt8)(g:Bool)(hg:decide ((fl:Int) ≥ 16)=g)(hF:g=false->fl=F)(hw:g=true->IntKind.u64.wrap ((fl:Int)-16)=(F:Int))(t0:decide ((ty:Int)<1)=false)(t1:decide ((ty:Int)>255)=false)(t2:decide ((num:Int)<1)=false)(t3:decide ((num:Int)>255)=false)(t4:decide ((F:Int)>7)=false)(t5:decide (sum<0)=false)(t6:decide (sum>2)=false)(t7:decide (((d.map E.byte).length:Int)>200)=false)(u6:((ty:Int)==6)=false)(u7:((ty:Int)==7)=false)(u10:((ty:Int)==10)=false) :
  AP Tryz.prog 80 [.agg [.int .u64 (ty:Int),.int .u64 (num:Int),.int .u64 (fl:Int),.int .i64 sum,byE d]] (.bool true) []:=by
 cases g with
 | false=>
  obtain rfl:=hF rfl
  clear hw hF
  refine AP.ofA (Zl Tryz.func80 U Tryz.ntmps80 U U ?_)
  repeat'(first|(apply Zi Za;exact U)|(apply Zg Za;exact U)|(apply Zp Za;exact U)|refine Ze U U U Qt ?_|refine Zh U Qt U U ?_|refine Zf U Qt ?_|refine Zn Za U U U U ?_)
  all_goals exact Qe
 | true=>
  have hw:=hw rfl
  clear hF
  refine AP.ofA (Zl Tryz.func80 U Tryz.ntmps80 U U ?_)
  repeat'(first|rw[hw]|(apply Zi Za;exact U)|(apply Zg Za;exact U)|(apply Zp Za;exact U)|refine Ze U U U Qt ?_|refine Zh U Qt U U ?_|refine Zd U Qt ?_|refine Zf U Qt ?_|refine Zn Za U U U U ?_)
  all_goals exact Qe
end Go.Proofs.YtmljabhmajehnaaGreatDoor
end
