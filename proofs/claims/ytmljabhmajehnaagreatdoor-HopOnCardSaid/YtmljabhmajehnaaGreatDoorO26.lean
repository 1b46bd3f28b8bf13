/- Package canon: hops. -/
import Derived.Test.YtmljabhmajehnaaGreatDoorO25
import Derived.Test.YtmljabhmajehnaaGreatDoorO16
import Derived.Test.YtmljabhmajehnaaGreatDoorO21
import Derived.Test.YtmljabhmajehnaaGreatDoorO10
import Derived.Test.YtmljabhmajehnaaGreatDoorO13
set_option linter.unusedVariables false
set_option linter.unusedSimpArgs false
section
open Go.RowKit Go.Pl Go.Av
namespace Go.Proofs.YtmljabhmajehnaaGreatDoor
set_option maxHeartbeats 4000000
theorem Fx [Known][KnownU8](d:List UInt8)(k:Int)(n:Nat)(b:List UInt8)(L:List E)(k1:Int)(n1:Nat)(b1:List UInt8)(l1:List It)(k2:Int)(n2:Nat)(b2:List UInt8)(l2:List It)(s:Bool)(N:D)
  (hI:AP Tryz.prog 95 [byE d] (.tup [.agg [.int .i64 k,.int .u64 (n:Int),byE b,.sl .ext L],.bool true]) []) (tk2:(k != 4)=false) (t2:((L.length:Int) != 2)=false) (hU:Uni 4 L)
  (hv0:L[(0:Int).toNat]?=some (.agg [.int .i64 k1,.int .u64 (n1:Int),.sl (b1.map E.byte),.sl (Zx l1)])) (hv1:L[(1:Int).toNat]?=some (.agg [.int .i64 k2,.int .u64 (n2:Int),.sl (b2.map E.byte),.sl (Zx l2)]))
  (hN:AP Tryz.prog 97 [.sl .ext [.int .u64 (n1:Int),.int .u64 (n2:Int)]] (.agg [.int .i64 4,.int .u64 0,.sl .ext [],.sl .ext [nmE n1,nmE n2]]) []) (hS:AP Tryz.prog 96 [.agg [.int .i64 k,.int .u64 (n:Int),byE b,.sl .ext L],.agg [.int .i64 4,.int .u64 0,.sl .ext [],.sl .ext [nmE n1,nmE n2]]] (.bool s) []) (ts:s=true) (t4:decide ((n1:Int) ≥ 1)=true) (t5:decide ((n1:Int)<=255)=false) :
  AP Tryz.prog 49 [byE d] (.tup [.int .u64 (n1:Int),.int .u64 (n2:Int),.bool false]) []:=by
 subst ts
 refine AP.ofA (Zl Tryz.func49 U Tryz.ntmps49 U U ?_)
 repeat'(first|(apply Zb (hI);kernel_rfl;(iterate 4 exact U))|(apply Zb (hS);kernel_rfl;(iterate 4 exact U))|(apply Zb (hN);kernel_rfl;(iterate 4 exact U))|(apply Zh Za;exact U)|(apply Zg Za;exact U)|(apply Zo Za;exact U)|refine Ze U U U Qt ?_|refine Zr U U U Qt ?_|refine Zk U Qt U U ?_|refine Zi U Qt U U ?_|refine Zf U Qt ?_|refine Zm Za U U U U ?_|refine ZO Za U U U U U U U U U U U U ?_|(apply Zq 11 ZF;decide +kernel;kernel_rfl;kernel_rfl;kernel_rfl;exact U;exact U)|(apply Zq 23 ZF;decide +kernel;kernel_rfl;kernel_rfl;kernel_rfl;exact U;exact U)|(apply Zt;(iterate 4 exact U))|exact AE.nil _ _ _ _|(apply Zw;exact U)|(apply Zz;exact U;exact U;decide +kernel;exact U)|(apply ZA;exact U)|exact AO.nil _ _ _|(apply Zs;(decide +kernel))|exact AOs.nil|exact ZI rfl rfl|exact W6 rfl rfl rfl rfl rfl|(apply Zu Za;(iterate 6 exact U);(first|exact Qt|rotate_left);(first|with_reducible assumption|decide +kernel|exact U);(first|exact Zj rfl|with_reducible assumption|decide +kernel|rotate_left)))
 all_goals exact Qe
theorem Fy [Known][KnownU8](d:List UInt8)(k:Int)(n:Nat)(b:List UInt8)(L:List E)(k1:Int)(n1:Nat)(b1:List UInt8)(l1:List It)(k2:Int)(n2:Nat)(b2:List UInt8)(l2:List It)(s:Bool)(N:D)
  (hI:AP Tryz.prog 95 [byE d] (.tup [.agg [.int .i64 k,.int .u64 (n:Int),byE b,.sl .ext L],.bool true]) []) (tk2:(k != 4)=false) (t2:((L.length:Int) != 2)=false) (hU:Uni 4 L)
  (hv0:L[(0:Int).toNat]?=some (.agg [.int .i64 k1,.int .u64 (n1:Int),.sl (b1.map E.byte),.sl (Zx l1)])) (hv1:L[(1:Int).toNat]?=some (.agg [.int .i64 k2,.int .u64 (n2:Int),.sl (b2.map E.byte),.sl (Zx l2)]))
  (hN:AP Tryz.prog 97 [.sl .ext [.int .u64 (n1:Int),.int .u64 (n2:Int)]] (.agg [.int .i64 4,.int .u64 0,.sl .ext [],.sl .ext [nmE n1,nmE n2]]) []) (hS:AP Tryz.prog 96 [.agg [.int .i64 k,.int .u64 (n:Int),byE b,.sl .ext L],.agg [.int .i64 4,.int .u64 0,.sl .ext [],.sl .ext [nmE n1,nmE n2]]] (.bool s) []) (ts:s=true) (t4:decide ((n1:Int) ≥ 1)=true) (t5:decide ((n1:Int)<=255)=true) :
  AP Tryz.prog 49 [byE d] (.tup [.int .u64 (n1:Int),.int .u64 (n2:Int),.bool (decide ((n2:Int)<=(n1:Int)))]) []:=by
 subst ts
 refine AP.ofA (Zl Tryz.func49 U Tryz.ntmps49 U U ?_)
 repeat'(first|(apply Zb (hI);kernel_rfl;(iterate 4 exact U))|(apply Zb (hS);kernel_rfl;(iterate 4 exact U))|(apply Zb (hN);kernel_rfl;(iterate 4 exact U))|(apply Zh Za;exact U)|(apply Zg Za;exact U)|(apply Zo Za;exact U)|refine Ze U U U Qt ?_|refine Zk U Qt U U ?_|refine Zi U Qt U U ?_|refine Zf U Qt ?_|refine Zm Za U U U U ?_|refine ZO Za U U U U U U U U U U U U ?_|(apply Zq 11 ZF;decide +kernel;kernel_rfl;kernel_rfl;kernel_rfl;exact U;exact U)|(apply Zq 23 ZF;decide +kernel;kernel_rfl;kernel_rfl;kernel_rfl;exact U;exact U)|(apply Zt;(iterate 4 exact U))|exact AE.nil _ _ _ _|(apply Zw;exact U)|(apply Zz;exact U;exact U;decide +kernel;exact U)|(apply ZA;exact U)|exact AO.nil _ _ _|(apply Zs;(decide +kernel))|exact AOs.nil|exact ZI rfl rfl|exact W6 rfl rfl rfl rfl rfl|(apply Zu Za;(iterate 6 exact U);(first|exact Qt|rotate_left);(first|with_reducible assumption|decide +kernel|exact U);(first|exact Zj rfl|with_reducible assumption|decide +kernel|rotate_left)))
 all_goals exact Qe
theorem Ns [Known][KnownU8](d:List UInt8)(hd:d.length<=100000):AP Tryz.prog 49 [byE d] (.tup [.int .u64 ((Wg d).1:Int),.int .u64 ((Wg d).2.1:Int),.bool (Wg d).2.2]) []:=by
 have hI:=IQ d hd
 have hw:=G1 d hd
 unfold Wg
 generalize (Yl d 0).1=x at *
 obtain⟨k,n,b,l⟩:=x
 cases hs:Wq d with
 | false=>
  rw[hs]at hI
  exact Ft d k n b l hI
 | true=>
 rw[hs]at hI
 unfold Jt
 dsimp only
 cases tk:(k==4) with
 | false=>exact Fu d k n b l hI tk
 | true=>
 have tk2:(k != 4)=false:=by rw[bne,tk];rfl
 match l,hI,hw with
 | [],hI,_=>exact BW d k n b _ hI tk (by simp)
 | [.mk _ _ _ _],hI,_=>exact BW d k n b _ hI tk (by simp)
 | .mk _ _ _ _::.mk _ _ _ _::_::_,hI,_=>exact BW d k n b _ hI tk (by simp)
 | [.mk k1 n1 b1 l1,.mk k2 n2 b2 l2],hI,hw=>
 have t2:(((Zx [It.mk k1 n1 b1 l1,.mk k2 n2 b2 l2]).length:Int) != 2)=false:=by rw[Zv];rfl
 have hU:=Wl [It.mk k1 n1 b1 l1,.mk k2 n2 b2 l2]
 have hws:=hw.2.2.2
 have hS:=Ki _ hw (.mk 4 0 [] [.mk 0 n1 [] [],.mk 0 n2 [] []]) ⟨by decide,by simp,by simp,⟨hws.1.1,by simp,by simp,trivial⟩,⟨hws.2.1.1,by simp,by simp,trivial⟩,trivial⟩
 have hN:=XY n1 n2
 dsimp only
 cases t3:It.beq (.mk k n b [.mk k1 n1 b1 l1,.mk k2 n2 b2 l2]) (.mk 4 0 [] [.mk 0 n1 [] [],.mk 0 n2 [] []]) with
 | false=>exact Fv d k n b _ k1 n1 b1 l1 k2 n2 b2 l2 _ .junk hI tk2 t2 hU rfl rfl hN hS t3
 | true=>
 cases t4:decide ((n1:Int) ≥ 1) with
 | false=>exact Fw d k n b _ k1 n1 b1 l1 k2 n2 b2 l2 _ .junk hI tk2 t2 hU rfl rfl hN hS t3 t4
 | true=>
 cases t5:decide ((n1:Int)<=255) with
 | false=>exact Fx d k n b _ k1 n1 b1 l1 k2 n2 b2 l2 _ .junk hI tk2 t2 hU rfl rfl hN hS t3 t4 t5
 | true=>exact Fy d k n b _ k1 n1 b1 l1 k2 n2 b2 l2 _ .junk hI tk2 t2 hU rfl rfl hN hS t3 t4 t5
def KV (kind:Nat)(d:List UInt8):Bool:=match((kind:Int)==6) with
 | true=>(Js d).2
 | false=>match((kind:Int)==7) with
  | true=>(Qn d).2
  | false=>match((kind:Int)==10) with
   | true=>(Wg d).2.2
   | false=>true
def J5 (kind:Nat)(d:List UInt8):Bool:=KV kind d&&decide ((d.length:Int)<=200)
theorem Mj [Known][KnownU8](kind:Nat)(d:List UInt8)(hd:d.length<=100000):AP Tryz.prog 131 [.int .u64 (kind:Int),byE d] (.bool (J5 kind d)) []:=by
 have hP:=G2 d hd
 have hA:=LZ d hd
 have hH:=Ns d hd
 have hdl:(d.map E.byte).length=d.length:=List.length_map ..
 unfold J5 KV
 rw[<- hdl]
 generalize (Js d).1=pz at *
 obtain⟨zi,zn,zs,zh,zd⟩:=pz
 generalize (Js d).2=p1 at *
 generalize (Qn d).1=a0 at *
 generalize (Qn d).2=a1 at *
 generalize (Wg d).1=h0 at *
 generalize (Wg d).2.1=h1 at *
 generalize (Wg d).2.2=h2 at *
 cases t1:((kind:Int)==6) with
 | true=>
  cases p1
  all_goals
   refine AP.ofA (Zl Tryz.func131 U Tryz.ntmps131 U U ?_)
   repeat'(first|(apply Zb (hP);kernel_rfl;(iterate 4 exact U))|(apply Zh Za;exact U)|(apply Zg Za;exact U)|refine Ze U U U Qt ?_|refine Zr U U U Qt ?_|refine Zk U Qt U U ?_|refine Zi U Qt U U ?_|refine Zd U Qt ?_|refine Zm Za U U U U ?_)
   all_goals exact Qe
 | false=>
 cases t2:((kind:Int)==7) with
 | true=>
  cases a1
  all_goals
   refine AP.ofA (Zl Tryz.func131 U Tryz.ntmps131 U U ?_)
   repeat'(first|(apply Zb (hA);kernel_rfl;(iterate 4 exact U))|(apply Zh Za;exact U)|(apply Zg Za;exact U)|refine Ze U U U Qt ?_|refine Zr U U U Qt ?_|refine Zk U Qt U U ?_|refine Zi U Qt U U ?_|refine Zd U Qt ?_|refine Zf U Qt ?_|refine Zm Za U U U U ?_)
   all_goals exact Qe
 | false=>
 cases t3:((kind:Int)==10) with
 | true=>
  cases h2
  all_goals
   refine AP.ofA (Zl Tryz.func131 U Tryz.ntmps131 U U ?_)
   repeat'(first|(apply Zb (hH);kernel_rfl;(iterate 4 exact U))|(apply Zh Za;exact U)|(apply Zg Za;exact U)|refine Ze U U U Qt ?_|refine Zr U U U Qt ?_|refine Zk U Qt U U ?_|refine Zi U Qt U U ?_|refine Zd U Qt ?_|refine Zf U Qt ?_|refine Zm Za U U U U ?_)
   all_goals exact Qe
 | false=>
  refine AP.ofA (Zl Tryz.func131 U Tryz.ntmps131 U U ?_)
  repeat'(first|(apply Zh Za;exact U)|(apply Zg Za;exact U)|refine Ze U U U Qt ?_|refine Zk U Qt U U ?_|refine Zf U Qt ?_|refine Zm Za U U U U ?_)
  all_goals exact Qe
def ZH (b:BlkV):Bool:=!(Jk b.ty||Jk b.num)&&((bits .andNot .u64 (b.fl:Int) 23==0)&&(decide (b.sum ≥ 0)&&(decide (b.sum<=2)&&J5 b.ty b.data)))
theorem US [Known][KnownU8](b:BlkV)(hd:b.data.length<=100000):AP Tryz.prog 94 [.agg (bkC b)] (.bool (ZH b)) []:=by
 have hW:=Th b.ty b.num
 have hD:=Mj b.ty b.data hd
 obtain⟨ty,num,fl,sum,data⟩:=b
 unfold ZH
 dsimp only at hW hD ⊢
 generalize J5 ty data=dv at *
 cases hb1:(Jk ty||Jk num) with
 | true=>
  rw[hb1]at hW
  replace hW:AP Tryz.prog _ _ (.bool false) []:=hW
  refine AP.ofA (Zl Tryz.func94 U Tryz.ntmps94 U U ?_)
  repeat'(first|(apply Zb (hW);kernel_rfl;(iterate 4 exact U))|(apply Zh Za;exact U)|(apply Zg Za;exact U)|refine Zr U U U Qt ?_|refine Zi U Qt U U ?_|refine ZO Za U U U U U U U U U U U U ?_)
  all_goals exact Qe
 | false=>
 rw[hb1]at hW
 replace hW:AP Tryz.prog _ _ (.bool true) []:=hW
 cases t1:(bits .andNot .u64 (fl:Int) 23==0) with
 | false=>
  refine AP.ofA (Zl Tryz.func94 U Tryz.ntmps94 U U ?_)
  repeat'(first|(apply Zb (hW);kernel_rfl;(iterate 4 exact U))|(apply Zh Za;exact U)|(apply Zg Za;exact U)|refine Ze U U U Qt ?_|refine Zr U U U Qt ?_|refine Zk U Qt U U ?_|refine Zi U Qt U U ?_|refine ZO Za U U U U U U U U U U U U ?_)
  all_goals exact Qe
 | true=>
 cases t2:decide (sum ≥ 0) with
 | false=>
  refine AP.ofA (Zl Tryz.func94 U Tryz.ntmps94 U U ?_)
  repeat'(first|(apply Zb (hW);kernel_rfl;(iterate 4 exact U))|(apply Zh Za;exact U)|(apply Zg Za;exact U)|refine Ze U U U Qt ?_|refine Zr U U U Qt ?_|refine Zk U Qt U U ?_|refine Zi U Qt U U ?_|refine ZO Za U U U U U U U U U U U U ?_)
  all_goals exact Qe
 | true=>
 cases t3:decide (sum<=2) with
 | false=>
  refine AP.ofA (Zl Tryz.func94 U Tryz.ntmps94 U U ?_)
  repeat'(first|(apply Zb (hW);kernel_rfl;(iterate 4 exact U))|(apply Zh Za;exact U)|(apply Zg Za;exact U)|refine Ze U U U Qt ?_|refine Zr U U U Qt ?_|refine Zk U Qt U U ?_|refine Zi U Qt U U ?_|refine ZO Za U U U U U U U U U U U U ?_)
  all_goals exact Qe
 | true=>
  refine AP.ofA (Zl Tryz.func94 U Tryz.ntmps94 U U ?_)
  repeat'(first|(apply Zb (hW);kernel_rfl;(iterate 4 exact U))|(apply Zb (hD);kernel_rfl;(iterate 4 exact U))|(apply Zh Za;exact U)|(apply Zg Za;exact U)|refine Ze U U U Qt ?_|refine Zk U Qt U U ?_|refine ZO Za U U U U U U U U U U U U ?_)
  all_goals exact Qe

def YL (b:BlkV):List It:=[.mk 0 b.ty [] [],.mk 0 b.num [] [],.mk 0 b.fl [] [],.mk 0 b.sum.toNat [] [],.mk 2 0 b.data []]
def YM (b:BlkV):It × Int:=match ZH b with
 | true=>VU (YL b) 3
 | false=>(z0,3)
theorem UT {b:BlkV}(h:ZH b=true):b.ty<=255/\b.num<=255/\0<=b.sum/\b.sum<=2/\J5 b.ty b.data=true:=by
 unfold ZH Jk at h
 simp only[Bool.and_eq_true,Bool.not_eq_true',Bool.or_eq_false_iff,decide_eq_true_eq,decide_eq_false_iff_not]at h
 obtain⟨⟨⟨h1,h2⟩,h3,h4⟩,_,h5,h6,h7⟩:=h
 exact⟨by omega,by omega,h5,h6,h7⟩
theorem L1 {b:BlkV}(h:ZH b=true)(hfl:b.fl<18446744073709551616)(hd:b.data.length<=3000):wfs (YL b):=by
 obtain⟨h1,h2,h3,h4,_⟩:=UT h
 simp[YL,wfs,wfI]
 omega
theorem DR {b:BlkV}(h:ZH b=true)(hfl:b.fl<18446744073709551616)(hd:b.data.length<=3000)(s:Nat)(hs:s=1\/s=2):(ZN (ZX s (YL b))).length<=1000000000:=by
 obtain⟨h1,h2,h3,h4,_⟩:=UT h
 have h9:¬ 3000<b.data.length:=by omega
 have hg:YE (ZX s (YL b)) 1 300=293:=by
  rcases hs with rfl|rfl<;>simp[ZX,YL,YE,Wr,h9]
 have hn:nI (ZX s (YL b)):=by
  simp[ZX,YL,nI,nIs]
  omega
 have:=(QL _ 1 300 (by omega) (by omega) hn).2.1
 omega
theorem Mk [Known][KnownU8](b:BlkV)(hfl:b.fl<18446744073709551616)(hd:b.data.length<=3000):AP Tryz.prog 108 [.agg (bkC b)] (J4 (YM b)) []:=by
 have hR:=US b (by omega)
 unfold YM
 cases hr:ZH b with
 | false=>
  rw[hr]at hR
  obtain⟨ty,num,fl,sum,data⟩:=b
  dsimp only[z0]at *
  refine AP.ofA (Zl Tryz.func108 U Tryz.ntmps108 U U ?_)
  repeat'(first|(apply Zb (hR);kernel_rfl;(iterate 4 exact U))|(apply Zh Za;exact U)|(apply Zg Za;exact U)|(apply Zo Za;exact U)|refine Zd U Qt ?_)
  all_goals exact Qe
 | true=>
  rw[hr]at hR
  obtain⟨h1,h2,h3,h4,_⟩:=UT hr
  have hS:=Nm (YL b) 3 (L1 hr hfl hd) (by simp[YL]) (DR hr hfl hd)
  dsimp only
  generalize VU (YL b) 3=r at *
  obtain⟨ty,num,fl,sum,data⟩:=b
  obtain⟨⟨k,n,bb,l⟩,e⟩:=r
  dsimp only at h1 h2 h3 h4 hd hfl
  have hN:=GX ty num fl sum.toNat
  have hB:=KE data (by omega)
  have es:IntKind.u64.wrap sum=((sum.toNat:Nat):Int):=by rw[IntWalk.u64_in _ (by omega)];omega
  replace hS:AP Tryz.prog 138 [.sl .ext [nmE ty,nmE num,nmE fl,nmE sum.toNat,.agg [.int .i64 2,.int .u64 0,.sl (data.map E.byte),.sl []]],.int .i64 3] (J4 (.mk k n bb l,e)) []:=hS
  have hu4:Uni 4 [nmE ty,nmE num,nmE fl,nmE sum.toNat]:=Uni.map (f:=nmE) (fun _=>rfl) [ty,num,fl,sum.toNat]
  refine AP.ofA (Zl Tryz.func108 U Tryz.ntmps108 U U ?_)
  repeat'(first|(apply Zb (hR);kernel_rfl;(iterate 4 exact U))|rw[es]|(apply Yn [] [] (hN);kernel_rfl;(iterate 10 exact U))|(apply Zb (hB);kernel_rfl;(iterate 4 exact U))|(apply Zb (hS);kernel_rfl;(iterate 4 exact U))|refine Wk Za U U U U U U U U U U U (Zj rfl) (Zj rfl) (List.cons_ne_nil _ _) Qd Qd U U ?_|(apply Zh Za;exact U)|(apply Zg Za;exact U)|(apply Zo Za;exact U)|refine Zf U Qt ?_|refine ZO Za U U U U U U U U U U U U ?_)
  all_goals exact Qe
def bk0:BlkV:=⟨0,0,0,0,[]⟩
abbrev Tl (r:BlkV × Int):D:=.tup [.agg (bkC r.1),.int .i64 r.2]
def ofV (kind ZQ:Nat)(sum:Int)(x:It)(e:Int):BlkV × Int:=match e != 0 with
 | true=>(bk0,3)
 | false=>match ZB x with
  | false=>(bk0,3)
  | true=>match ZH ⟨kind,ZQ,0,sum,ZN x⟩ with
   | true=>(⟨kind,ZQ,0,sum,ZN x⟩,0)
   | false=>(bk0,3)
theorem L2 [Known][KnownU8](kind ZQ:Nat)(sum:Int)(x:It)(e:Int)(hw:wfI x)(hx:(ZN x).length<=100000):AP Tryz.prog 100 [.int .u64 (kind:Int),.int .u64 (ZQ:Int),.int .i64 sum,itD x,.int .i64 e] (Tl (ofV kind ZQ sum x e)) []:=by
 have hW:=Xv x hw (by omega) (WH x hw)
 have hR:=US ⟨kind,ZQ,0,sum,ZN x⟩ hx
 have hR0:=US ⟨kind,ZQ,0,sum,[]⟩ (by simp)
 unfold ofV
 cases te:(e != 0) with
 | true=>
  dsimp only[bk0]
  cases hr:ZB x<;>rw[hr]at hW
  all_goals
   obtain⟨k,n,b,l⟩:=x
   refine AP.ofA (Zl Tryz.func100 U Tryz.ntmps100 U U ?_)
   repeat'(first|(apply Zb (hW);kernel_rfl;(iterate 4 exact U))|(apply Zh Za;exact U)|(apply Zg Za;exact U)|(apply Zo Za;exact U)|refine Zn U U U Qt ?_|refine Zk U Qt U U ?_|refine Zd U Qt ?_)
   all_goals exact Qe
 | false=>
 cases hr:ZB x with
 | false=>
  rw[hr]at hW
  replace hW:AP Tryz.prog 63 [itD x] (.tup [.sl .ext [],.int .i64 3]) []:=hW
  obtain⟨k,n,b,l⟩:=x
  dsimp only[bk0]
  refine AP.ofA (Zl Tryz.func100 U Tryz.ntmps100 U U ?_)
  repeat'(first|(apply Zb (hW);kernel_rfl;(iterate 4 exact U))|(apply Zh Za;exact U)|(apply Zg Za;exact U)|(apply Zo Za;exact U)|refine Ze U U U Qt ?_|refine Zn U U U Qt ?_|refine Zk U Qt U U ?_|refine Zi U Qt U U ?_|refine Zd U Qt ?_)
  all_goals exact Qe
 | true=>
  rw[hr]at hW
  replace hW:AP Tryz.prog 63 [itD x] (.tup [byE (ZN x),.int .i64 0]) []:=hW
  generalize ZN x=P at *
  obtain⟨k,n,b,l⟩:=x
  dsimp only
  cases hb1:ZH ⟨kind,ZQ,0,sum,P⟩
  all_goals
   rw[hb1]at hR
   dsimp only[bk0]
   refine AP.ofA (Zl Tryz.func100 U Tryz.ntmps100 U U ?_)
   repeat'(first|(apply Zb (hW);kernel_rfl;(iterate 4 exact U))|(apply Zb (hR);kernel_rfl;(iterate 4 exact U))|(apply Zh Za;exact U)|(apply Zg Za;exact U)|(apply Zo Za;exact U)|refine Ze U U U Qt ?_|refine Zi U Qt U U ?_|refine Zd U Qt ?_|refine Zf U Qt ?_)
   all_goals exact Qe
theorem L3 [Known][KnownU8](ZQ:Nat)(sum:Int)(age:Nat)(ha:age<18446744073709551616):AP Tryz.prog 104 [.int .u64 (ZQ:Int),.int .i64 sum,.int .u64 (age:Int)] (Tl (ofV 7 ZQ sum (.mk 0 age [] []) 0)) []:=by
 have hw:wfI (.mk 0 age [] []):=⟨ha,by simp,by simp,trivial⟩
 have hl:=(QL (.mk 0 age [] []) 1 300 (by omega) (by simp[YE,Wr]) ⟨ha,trivial⟩).2.1
 have hg:YE (.mk 0 age [] []) 1 300=299:=by simp[YE,Wr]
 have hO:=L2 7 ZQ sum (.mk 0 age [] []) 0 hw (by omega)
 have hN:=Wc age
 clear hl hg
 generalize ofV 7 ZQ sum (.mk 0 age [] []) 0=r at *
 obtain⟨⟨a,b,c,d,f⟩,e⟩:=r
 refine AP.ofA (Zl Tryz.func104 U Tryz.ntmps104 U U ?_)
 repeat'(first|(apply Zb (hN);kernel_rfl;(iterate 4 exact U))|(apply Zb (hO);kernel_rfl;(iterate 4 exact U))|(apply Zh Za;exact U)|(apply Zg Za;exact U))
 all_goals exact Qe
abbrev VZ (n m:Nat):It:=.mk 4 0 [] [.mk 0 n [] [],.mk 0 m [] []]
theorem Ml [Known][KnownU8](ZQ:Nat)(sum:Int)(n m:Nat)(hn:n<18446744073709551616)(hm:m<18446744073709551616):AP Tryz.prog 105 [.int .u64 (ZQ:Int),.int .i64 sum,.int .u64 (n:Int),.int .u64 (m:Int)] (Tl (ofV 10 ZQ sum (VZ n m) 0)) []:=by
 have hw:wfI (VZ n m):=⟨by decide,by simp,by simp,⟨hn,by simp,by simp,trivial⟩,⟨hm,by simp,by simp,trivial⟩,trivial⟩
 have hg:YE (VZ n m) 1 300=297:=by simp[YE,Wr]
 have hl:=(QL (VZ n m) 1 300 (by omega) (by omega) ⟨by decide,⟨hn,trivial⟩,⟨hm,trivial⟩,trivial⟩).2.1
 have hO:=L2 10 ZQ sum (VZ n m) 0 hw (by omega)
 have hN:=XY n m
 clear hl hg
 replace hO:AP Tryz.prog 100 [.int .u64 10,.int .u64 (ZQ:Int),.int .i64 sum,.agg [.int .i64 4,.int .u64 0,.sl .ext [],.sl .ext [nmE n,nmE m]],.int .i64 0] (Tl (ofV 10 ZQ sum (VZ n m) 0)) []:=hO
 generalize ofV 10 ZQ sum (VZ n m) 0=r at *
 obtain⟨⟨a,b,c,d,f⟩,e⟩:=r
 refine AP.ofA (Zl Tryz.func105 U Tryz.ntmps105 U U ?_)
 repeat'(first|(apply Zb (hN);kernel_rfl;(iterate 4 exact U))|(apply Zb (hO);kernel_rfl;(iterate 4 exact U))|(apply Zh Za;exact U)|(apply Zg Za;exact U)|refine ZO Za U U U U U U U U U U U U ?_)
 all_goals exact Qe
def VK (b:BlkV)(kind:Nat):Int:=match((b.ty:Int) != (kind:Int)) with
 | true=>4
 | false=>match ZH b with
  | false=>3
  | true=>0
theorem L4 [Known][KnownU8](b:BlkV)(kind:Nat)(hd:b.data.length<=100000):AP Tryz.prog 48 [.agg (bkC b),.int .u64 (kind:Int)] (.int .i64 (VK b kind)) []:=by
 have hR:=US b hd
 unfold VK
 cases t1:((b.ty:Int) != (kind:Int)) with
 | true=>
  obtain⟨ty,num,fl,sum,data⟩:=b
  dsimp only at t1
  refine AP.ofA (Zl Tryz.func48 U Tryz.ntmps48 U U ?_)
  repeat'(first|(apply Zg Za;exact U)|(apply Zo Za;exact U)|refine Zd U Qt ?_)
  all_goals exact Qe
 | false=>
  cases hr:ZH b<;>rw[hr]at hR
  all_goals
   obtain⟨ty,num,fl,sum,data⟩:=b
   dsimp only at t1
   refine AP.ofA (Zl Tryz.func48 U Tryz.ntmps48 U U ?_)
   repeat'(first|(apply Zb (hR);kernel_rfl;(iterate 4 exact U))|(apply Zh Za;exact U)|(apply Zg Za;exact U)|(apply Zo Za;exact U)|refine Zd U Qt ?_|refine Zf U Qt ?_)
   all_goals exact Qe
theorem G3 [Known][KnownU8](b:BlkV)(hd:b.data.length<=100000):AP Tryz.prog 103 [.agg (bkC b)] (.tup [.int .u64 ((match VK b 7 != 0 with|true=>0|false=>(Qn b.data).1:Nat):Int),.int .i64 (VK b 7)]) []:=by
 have hA:=L4 b 7 hd
 have hG:=LZ b.data hd
 generalize VK b 7=q at *
 generalize (Qn b.data).1=a at *
 generalize (Qn b.data).2=o at *
 obtain⟨ty,num,fl,sum,data⟩:=b
 cases t1:(q != 0) with
 | true=>
  refine AP.ofA (Zl Tryz.func103 U Tryz.ntmps103 U U ?_)
  repeat'(first|(apply Zb (hA);kernel_rfl;(iterate 4 exact U))|(apply Zh Za;exact U)|(apply Zg Za;exact U)|(apply Zo Za;exact U)|refine Zd U Qt ?_)
  all_goals exact Qe
 | false=>
  have eq0:q=0:=by simpa[bne]using t1
  subst eq0
  refine AP.ofA (Zl Tryz.func103 U Tryz.ntmps103 U U ?_)
  repeat'(first|(apply Zb (hA);kernel_rfl;(iterate 4 exact U))|(apply Zb (hG);kernel_rfl;(iterate 4 exact U))|(apply Zh Za;exact U)|(apply Zg Za;exact U)|refine Zf U Qt ?_)
  all_goals exact Qe
theorem Mm [Known][KnownU8](b:BlkV)(hd:b.data.length<=100000):AP Tryz.prog 13 [.agg (bkC b)] (.tup [.int .u64 ((match VK b 10 != 0 with|true=>0|false=>(Wg b.data).1:Nat):Int),.int .u64 ((match VK b 10 != 0 with|true=>0|false=>(Wg b.data).2.1:Nat):Int),.int .i64 (VK b 10)]) []:=by
 have hA:=L4 b 10 hd
 have hG:=Ns b.data hd
 generalize VK b 10=q at *
 generalize (Wg b.data).1=a at *
 generalize (Wg b.data).2.1=c at *
 generalize (Wg b.data).2.2=o at *
 obtain⟨ty,num,fl,sum,data⟩:=b
 cases t1:(q != 0) with
 | true=>
  refine AP.ofA (Zl Tryz.func13 U Tryz.ntmps13 U U ?_)
  repeat'(first|(apply Zb (hA);kernel_rfl;(iterate 4 exact U))|(apply Zh Za;exact U)|(apply Zg Za;exact U)|(apply Zo Za;exact U)|refine Zd U Qt ?_)
  all_goals exact Qe
 | false=>
  have eq0:q=0:=by simpa[bne]using t1
  subst eq0
  refine AP.ofA (Zl Tryz.func13 U Tryz.ntmps13 U U ?_)
  repeat'(first|(apply Zb (hA);kernel_rfl;(iterate 4 exact U))|(apply Zb (hG);kernel_rfl;(iterate 4 exact U))|(apply Zh Za;exact U)|(apply Zg Za;exact U)|refine Zf U Qt ?_)
  all_goals exact Qe
theorem Nt:wfI z0:=⟨by decide,by simp,by simp,trivial⟩
theorem SN (s:Nat){l:List It}(hws:wfs l)(hl:l.length<=1000000):wfI (UP s l):=by
 refine⟨by decide,by simp,by simp;omega,Kk hws ⟨⟨by decide,?_,by simp,trivial⟩,trivial⟩⟩
 have:(Uy s (ZN (ZX s l))).length<=4:=by
  unfold Uy
  split<;>simp
 omega
theorem Nu {l:List It}(a:Int)(hws:wfs l)(hl:l.length<=1000000):wfI (VU l a).1:=by
 unfold VU
 have h0:wfI (.mk 4 0 [] l):=⟨by decide,by simp,by omega,hws⟩
 repeat' split
 all_goals first|exact Nt|exact h0|exact SN _ hws hl
theorem G4 {b:BlkV}(hfl:b.fl<18446744073709551616)(hd:b.data.length<=3000):wfI (YM b).1:=by
 unfold YM
 cases h:ZH b with
 | false=>exact Nt
 | true=>exact Nu 3 (L1 h hfl hd) (by simp[YL])
def JE (a b:BlkV):Bool:=((a.ty:Int)==(b.ty:Int))&&(((a.num:Int)==(b.num:Int))&&(((a.fl:Int)==(b.fl:Int))&&((a.sum==b.sum)&&(a.data==b.data))))
def Y5 (x:EidV):List UInt8:=[47,47]++x.h++[47]++x.d
theorem Wx {x:EidV}(h:ZE x=true)(hz:isZ x=false)(hi:x.i=true):x.n<=4294967295/\x.s<=4294967295/\x.h=[]/\x.d=[]/\1<=x.n:=by
 rw[KP hz hi]at h
 simp only[Bool.and_eq_true,decide_eq_true_eq,beq_iff_eq]at h
 obtain⟨⟨⟨⟨_,_,_,h1,h2,_⟩,h3⟩,h4⟩,h5⟩:=h
 exact⟨by omega,by omega,h1,h2,by omega⟩
theorem Y6 {x:EidV}(h:ZE x=true)(hz:isZ x=false)(hi:x.i=false):x.n=0/\x.s=0/\1<=x.h.length/\x.h.length<=16/\x.d.length<=24/\x.h.all (okB 45)=true/\x.d.all (okB 47)=true:=by
 rw[KQ hz hi]at h
 simp only[Bool.and_eq_true,decide_eq_true_eq,beq_iff_eq]at h
 obtain⟨⟨⟨⟨⟨⟨_,h1,h2,_⟩,h3⟩,h4⟩,h5⟩,h6⟩,h7⟩:=h
 exact⟨by omega,by omega,by omega,by omega,by omega,h6,h7⟩
theorem SO [Known](x:EidV)(h1:x.h.length<=16)(h2:x.d.length<=24):AP Tryz.prog 135 [.agg (eC x)] (.str (Y5 x)) []:=by
 have l1:[(47:UInt8),47].length+x.h.length<=maxLen:=by simp;unfold maxLen;omega
 have l2:([(47:UInt8),47]++x.h).length + [(47:UInt8)].length<=maxLen:=by simp;unfold maxLen;omega
 have l3:([(47:UInt8),47]++x.h++[47]).length+x.d.length<=maxLen:=by simp;unfold maxLen;omega
 refine AP.ofA (Zl Tryz.func135 U Tryz.ntmps135 U U ?_)
 repeat'(first|(apply QB;exact U;exact U;(first|exact l1|exact l2|exact l3);exact U)|(apply Zh Za;exact U)|(apply Zg Za;exact U))
 all_goals exact Qe
def ZW (x:EidV):It:=
 if isZ x then .mk 4 0 [] [.mk 0 1 [] [],.mk 0 0 [] []]
 else if x.i then .mk 4 0 [] [.mk 0 2 [] [],.mk 4 0 [] [.mk 0 x.n [] [],.mk 0 x.s [] []]]
 else .mk 4 0 [] [.mk 0 1 [] [],.mk 3 0 (Y5 x) []]
theorem Je [Known](x:EidV):AP Tryz.prog 99 [.agg (eC x)] (.tup [itD (if ZE x then ZW x else .mk 0 0 [] []),.int .i64 (if ZE x then 0 else 3)]) []:=by
 have hR:=VI x
 cases hr:ZE x with
 | false=>
  rw[hr]at hR
  refine AP.ofA (Zl Tryz.func99 U Tryz.ntmps99 U U ?_)
  repeat'(first|(apply Zb (hR);kernel_rfl;(iterate 4 exact U))|(apply Zh Za;exact U)|(apply Zg Za;exact U)|(apply Zo Za;exact U)|refine Zd U Qt ?_)
  all_goals exact Qe
 | true=>
  rw[hr]at hR
  rw[if_pos rfl,if_pos rfl]
  unfold ZW
  cases hz:isZ x with
  | true=>
   rw[if_pos rfl]
   have n1:=Wc 1
   have n0:=Wc 0
   have hL:=Ur [.mk 0 1 [] [],.mk 0 0 [] []] (by decide) (by simp[wfI,wfs])
   replace n1:AP Tryz.prog _ [.int .u64 1] (.agg [.int .i64 0,.int .u64 1,.sl .ext [],.sl .ext []]) []:=n1
   replace n0:AP Tryz.prog _ [.int .u64 0] (.agg [.int .i64 0,.int .u64 0,.sl .ext [],.sl .ext []]) []:=n0
   unfold isZ at hz
   refine AP.ofA (Zl Tryz.func99 U Tryz.ntmps99 U U ?_)
   repeat'(first|(apply Zb (hR);kernel_rfl;(iterate 4 exact U))|(apply Zb (n1);kernel_rfl;(iterate 4 exact U))|(apply Zb (n0);kernel_rfl;(iterate 4 exact U))|(apply Zb (hL);kernel_rfl;(iterate 4 exact U))|(apply Zh Za;exact U)|(apply Zg Za;exact U)|(apply Zo Za;exact U)|refine Zd U Qt ?_|refine Zf U Qt ?_|refine ZO Za U U U U U U U U U U U U ?_|refine W1 Za U U U U Qk Qk U U U ?_)
   all_goals exact Qe
  | false=>
   rw[if_neg (by simp)]
   cases hi:x.i with
   | true=>
    obtain⟨b1,b2,_⟩:=Wx hr hz hi
    rw[if_pos rfl]
    have n2:=Wc 2
    have nn:=Wc x.n
    have ns:=Wc x.s
    have hL1:=Ur [.mk 0 x.n [] [],.mk 0 x.s [] []] (by simp) (by simp[wfI,wfs];omega)
    have hL:=Ur [.mk 0 2 [] [],.mk 4 0 [] [.mk 0 x.n [] [],.mk 0 x.s [] []]] (by simp) (by simp[wfI,wfs];omega)
    replace n2:AP Tryz.prog _ [.int .u64 2] (.agg [.int .i64 0,.int .u64 2,.sl .ext [],.sl .ext []]) []:=n2
    replace nn:AP Tryz.prog _ [.int .u64 (x.n:Int)] (.agg [.int .i64 0,.int .u64 (x.n:Int),.sl .ext [],.sl .ext []]) []:=nn
    replace ns:AP Tryz.prog _ [.int .u64 (x.s:Int)] (.agg [.int .i64 0,.int .u64 (x.s:Int),.sl .ext [],.sl .ext []]) []:=ns
    replace hL1:AP Tryz.prog _ _ (.agg [.int .i64 4,.int .u64 0,.sl .ext [],.sl .ext [.agg [.int .i64 0,.int .u64 (x.n:Int),.sl [],.sl []],.agg [.int .i64 0,.int .u64 (x.s:Int),.sl [],.sl []]]]) []:=hL1
    unfold isZ at hz
    refine AP.ofA (Zl Tryz.func99 U Tryz.ntmps99 U U ?_)
    repeat'(first|(apply Zb (hR);kernel_rfl;(iterate 4 exact U))|(apply Zb (n2);kernel_rfl;(iterate 4 exact U))|(apply Zb (nn);kernel_rfl;(iterate 4 exact U))|(apply Zb (ns);kernel_rfl;(iterate 4 exact U))|(apply Zb (hL1);kernel_rfl;(iterate 4 exact U))|(apply Zb (hL);kernel_rfl;(iterate 4 exact U))|(apply Zh Za;exact U)|(apply Zg Za;exact U)|(apply Zo Za;exact U)|refine Zd U Qt ?_|refine Zf U Qt ?_|refine ZO Za U U U U U U U U U U U U ?_|refine W1 Za U U U U Qk Qk U U U ?_|(apply Zq 6 ZF;decide +kernel;kernel_rfl;kernel_rfl;kernel_rfl;exact U;exact U)|(apply Zt;(iterate 4 exact U))|exact AE.nil _ _ _ _|(apply Zw;exact U)|(apply Zz;exact U;exact U;decide +kernel;exact U)|(apply ZA;exact U)|exact AO.nil _ _ _|(apply Zs;(decide +kernel))|exact AOs.nil|exact ZI rfl rfl)
    all_goals exact Qe
   | false=>
    obtain⟨_,_,_,b1,b2,_⟩:=Y6 hr hz hi
    rw[if_neg (by simp)]
    have n1:=Wc 1
    have hP:=SO x b1 b2
    have hT:=Ss (Y5 x)
    have hpl:(Y5 x).length<=1099511627776:=by unfold Y5;simp;omega
    generalize Y5 x=p at *
    have hL:=Ur [.mk 0 1 [] [],.mk 3 0 p []] (by simp) (by simp[wfI,wfs];omega)
    replace n1:AP Tryz.prog _ [.int .u64 1] (.agg [.int .i64 0,.int .u64 1,.sl .ext [],.sl .ext []]) []:=n1
    replace hT:AP Tryz.prog _ [.str p] (.agg [.int .i64 3,.int .u64 0,byE p,.sl .ext []]) []:=hT
    unfold isZ at hz
    refine AP.ofA (Zl Tryz.func99 U Tryz.ntmps99 U U ?_)
    repeat'(first|(apply Zb (hR);kernel_rfl;(iterate 4 exact U))|(apply Zb (n1);kernel_rfl;(iterate 4 exact U))|(apply Zb (hP);kernel_rfl;(iterate 4 exact U))|(apply Zb (hT);kernel_rfl;(iterate 4 exact U))|(apply Zb (hL);kernel_rfl;(iterate 4 exact U))|(apply Zh Za;exact U)|(apply Zg Za;exact U)|(apply Zo Za;exact U)|refine Zf U Qt ?_|refine ZO Za U U U U U U U U U U U U ?_|refine W1 Za U U U U Qk Qk U U U ?_|(apply Zq 2 ZF;decide +kernel;kernel_rfl;kernel_rfl;kernel_rfl;exact U;exact U)|(apply Zt;(iterate 4 exact U))|exact AE.nil _ _ _ _|(apply Zw;exact U)|(apply Zz;exact U;exact U;decide +kernel;exact U)|(apply ZA;exact U)|exact AO.nil _ _ _|(apply Zs;(decide +kernel))|exact AOs.nil|exact ZI rfl rfl)
    all_goals exact Qe
end Go.Proofs.YtmljabhmajehnaaGreatDoor
end
