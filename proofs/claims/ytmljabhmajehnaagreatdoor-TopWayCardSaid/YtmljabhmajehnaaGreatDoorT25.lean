/- Package canon: hops. -/
import Derived.Test.YtmljabhmajehnaaGreatDoorT24
import Derived.Test.YtmljabhmajehnaaGreatDoorT15
set_option linter.unusedVariables false
set_option linter.unusedSimpArgs false
section
open Go.RowKit Go.Pl Go.Av
namespace Go.Proofs.YtmljabhmajehnaaGreatDoor
set_option maxHeartbeats 4000000
theorem Ry [Known][KnownU8](d:List UInt8)(k:Int)(n:Nat)(b:List UInt8)(L:List E)(k1:Int)(n1:Nat)(b1:List UInt8)(l1:List It)(k2:Int)(n2:Nat)(b2:List UInt8)(l2:List It)(s:Bool)(N:D)
  (hI:AP Tryz.prog 95 [byE d] (.tup [.agg [.int .i64 k,.int .u64 (n:Int),byE b,.sl .ext L],.bool true]) []) (tk2:(k != 4)=false) (t2:((L.length:Int) != 2)=false) (hU:Uni 4 L)
  (hv0:L[(0:Int).toNat]?=some (.agg [.int .i64 k1,.int .u64 (n1:Int),.sl (b1.map E.byte),.sl (Zt l1)])) (hv1:L[(1:Int).toNat]?=some (.agg [.int .i64 k2,.int .u64 (n2:Int),.sl (b2.map E.byte),.sl (Zt l2)]))
  (hN:AP Tryz.prog 97 [.sl .ext [.int .u64 (n1:Int),.int .u64 (n2:Int)]] (.agg [.int .i64 4,.int .u64 0,.sl .ext [],.sl .ext [nmE n1,nmE n2]]) []) (hS:AP Tryz.prog 96 [.agg [.int .i64 k,.int .u64 (n:Int),byE b,.sl .ext L],.agg [.int .i64 4,.int .u64 0,.sl .ext [],.sl .ext [nmE n1,nmE n2]]] (.bool s) []) (ts:s=true) (t4:decide ((n1:Int) ≥ 1)=true) (t5:decide ((n1:Int)<=255)=false) :
  AP Tryz.prog 49 [byE d] (.tup [.int .u64 (n1:Int),.int .u64 (n2:Int),.bool false]) []:=by
 subst ts
 refine AP.ofA (Zk Tryz.func49 Z Tryz.ntmps49 Z Z ?_)
 repeat'(first|(apply Zb (hI);kernel_rfl;(iterate 4 exact Z))|(apply Zb (hS);kernel_rfl;(iterate 4 exact Z))|(apply Zb (hN);kernel_rfl;(iterate 4 exact Z))|(apply Zh Za;exact Z)|(apply Ze Za;exact Z)|(apply Zq Za;exact Z)|refine Zg Z Z Z Qt ?_|refine Zv Z Z Z Qt ?_|refine Zl Z Qt Z Z ?_|refine Zi Z Qt Z Z ?_|refine Zf Z Qt ?_|refine Zm Za Z Z Z Z ?_|refine ZT Za Z Z Z Z Z Z Z Z Z Z Z Z ?_|(apply Zn 11 ZF;decide +kernel;kernel_rfl;kernel_rfl;kernel_rfl;exact Z;exact Z)|(apply Zn 23 ZF;decide +kernel;kernel_rfl;kernel_rfl;kernel_rfl;exact Z;exact Z)|(apply Zs;(iterate 4 exact Z))|exact AE.nil _ _ _ _|(apply Zx;exact Z)|(apply ZA;exact Z;exact Z;decide +kernel;exact Z)|(apply ZB;exact Z)|exact AO.nil _ _ _|(apply Zr;(decide +kernel))|exact AOs.nil|exact ZM rfl rfl|exact Wi rfl rfl rfl rfl rfl|(apply Zu Za;(iterate 6 exact Z);(first|exact Qt|rotate_left);(first|with_reducible assumption|decide +kernel|exact Z);(first|exact Zj rfl|with_reducible assumption|decide +kernel|rotate_left)))
 all_goals exact Qe
theorem Rz [Known][KnownU8](d:List UInt8)(k:Int)(n:Nat)(b:List UInt8)(L:List E)(k1:Int)(n1:Nat)(b1:List UInt8)(l1:List It)(k2:Int)(n2:Nat)(b2:List UInt8)(l2:List It)(s:Bool)(N:D)
  (hI:AP Tryz.prog 95 [byE d] (.tup [.agg [.int .i64 k,.int .u64 (n:Int),byE b,.sl .ext L],.bool true]) []) (tk2:(k != 4)=false) (t2:((L.length:Int) != 2)=false) (hU:Uni 4 L)
  (hv0:L[(0:Int).toNat]?=some (.agg [.int .i64 k1,.int .u64 (n1:Int),.sl (b1.map E.byte),.sl (Zt l1)])) (hv1:L[(1:Int).toNat]?=some (.agg [.int .i64 k2,.int .u64 (n2:Int),.sl (b2.map E.byte),.sl (Zt l2)]))
  (hN:AP Tryz.prog 97 [.sl .ext [.int .u64 (n1:Int),.int .u64 (n2:Int)]] (.agg [.int .i64 4,.int .u64 0,.sl .ext [],.sl .ext [nmE n1,nmE n2]]) []) (hS:AP Tryz.prog 96 [.agg [.int .i64 k,.int .u64 (n:Int),byE b,.sl .ext L],.agg [.int .i64 4,.int .u64 0,.sl .ext [],.sl .ext [nmE n1,nmE n2]]] (.bool s) []) (ts:s=true) (t4:decide ((n1:Int) ≥ 1)=true) (t5:decide ((n1:Int)<=255)=true) :
  AP Tryz.prog 49 [byE d] (.tup [.int .u64 (n1:Int),.int .u64 (n2:Int),.bool (decide ((n2:Int)<=(n1:Int)))]) []:=by
 subst ts
 refine AP.ofA (Zk Tryz.func49 Z Tryz.ntmps49 Z Z ?_)
 repeat'(first|(apply Zb (hI);kernel_rfl;(iterate 4 exact Z))|(apply Zb (hS);kernel_rfl;(iterate 4 exact Z))|(apply Zb (hN);kernel_rfl;(iterate 4 exact Z))|(apply Zh Za;exact Z)|(apply Ze Za;exact Z)|(apply Zq Za;exact Z)|refine Zg Z Z Z Qt ?_|refine Zl Z Qt Z Z ?_|refine Zi Z Qt Z Z ?_|refine Zf Z Qt ?_|refine Zm Za Z Z Z Z ?_|refine ZT Za Z Z Z Z Z Z Z Z Z Z Z Z ?_|(apply Zn 11 ZF;decide +kernel;kernel_rfl;kernel_rfl;kernel_rfl;exact Z;exact Z)|(apply Zn 23 ZF;decide +kernel;kernel_rfl;kernel_rfl;kernel_rfl;exact Z;exact Z)|(apply Zs;(iterate 4 exact Z))|exact AE.nil _ _ _ _|(apply Zx;exact Z)|(apply ZA;exact Z;exact Z;decide +kernel;exact Z)|(apply ZB;exact Z)|exact AO.nil _ _ _|(apply Zr;(decide +kernel))|exact AOs.nil|exact ZM rfl rfl|exact Wi rfl rfl rfl rfl rfl|(apply Zu Za;(iterate 6 exact Z);(first|exact Qt|rotate_left);(first|with_reducible assumption|decide +kernel|exact Z);(first|exact Zj rfl|with_reducible assumption|decide +kernel|rotate_left)))
 all_goals exact Qe
theorem GK [Known][KnownU8](d:List UInt8)(hd:d.length<=140737488351232):AP Tryz.prog 49 [byE d] (.tup [.int .u64 ((Vg d).1:Int),.int .u64 ((Vg d).2.1:Int),.bool (Vg d).2.2]) []:=by
 have hI:=K1 d hd
 have hw:=GJ d hd
 unfold Vg
 generalize (Yh d 0).1=x at *
 obtain⟨k,n,b,l⟩:=x
 cases hs:WB d with
 | false=>
  rw[hs]at hI
  exact Ru d k n b l hI
 | true=>
 rw[hs]at hI
 unfold T0
 dsimp only
 cases tk:(k==4) with
 | false=>exact Rv d k n b l hI tk
 | true=>
 have tk2:(k != 4)=false:=by rw[bne,tk];rfl
 match l,hI,hw with
 | [],hI,_=>exact Ls d k n b _ hI tk (by simp)
 | [.mk _ _ _ _],hI,_=>exact Ls d k n b _ hI tk (by simp)
 | .mk _ _ _ _::.mk _ _ _ _::_::_,hI,_=>exact Ls d k n b _ hI tk (by simp)
 | [.mk k1 n1 b1 l1,.mk k2 n2 b2 l2],hI,hw=>
 have t2:(((Zt [It.mk k1 n1 b1 l1,.mk k2 n2 b2 l2]).length:Int) != 2)=false:=by rw[Zw];rfl
 have hU:=YW [It.mk k1 n1 b1 l1,.mk k2 n2 b2 l2]
 have hws:=hw.2.2.2
 have hS:=VK _ hw (.mk 4 0 [] [.mk 0 n1 [] [],.mk 0 n2 [] []]) ⟨by decide,by simp,by simp,⟨hws.1.1,by simp,by simp,trivial⟩,⟨hws.2.1.1,by simp,by simp,trivial⟩,trivial⟩
 have hN:=JA n1 n2
 dsimp only
 cases t3:It.beq (.mk k n b [.mk k1 n1 b1 l1,.mk k2 n2 b2 l2]) (.mk 4 0 [] [.mk 0 n1 [] [],.mk 0 n2 [] []]) with
 | false=>exact Rw d k n b _ k1 n1 b1 l1 k2 n2 b2 l2 _ .junk hI tk2 t2 hU rfl rfl hN hS t3
 | true=>
 cases t4:decide ((n1:Int) ≥ 1) with
 | false=>exact Rx d k n b _ k1 n1 b1 l1 k2 n2 b2 l2 _ .junk hI tk2 t2 hU rfl rfl hN hS t3 t4
 | true=>
 cases t5:decide ((n1:Int)<=255) with
 | false=>exact Ry d k n b _ k1 n1 b1 l1 k2 n2 b2 l2 _ .junk hI tk2 t2 hU rfl rfl hN hS t3 t4 t5
 | true=>exact Rz d k n b _ k1 n1 b1 l1 k2 n2 b2 l2 _ .junk hI tk2 t2 hU rfl rfl hN hS t3 t4 t5
def T1 (kind:Nat)(d:List UInt8):Bool:=match((kind:Int)==6) with
 | true=>(V4 d).2
 | false=>match((kind:Int)==7) with
  | true=>(JI d).2
  | false=>match((kind:Int)==10) with
   | true=>(Vg d).2.2
   | false=>true
def Xm (kind:Nat)(d:List UInt8):Bool:=T1 kind d&&decide ((d.length:Int)<=200)
theorem Hx [Known][KnownU8](kind:Nat)(d:List UInt8)(hd:d.length<=140737488351232):AP Tryz.prog 131 [.int .u64 (kind:Int),byE d] (.bool (Xm kind d)) []:=by
 have hP:=JB d hd
 have hA:=TZ d hd
 have hH:=GK d hd
 have hdl:(d.map E.byte).length=d.length:=List.length_map ..
 unfold Xm T1
 rw[<- hdl]
 generalize (V4 d).1=pz at *
 obtain⟨zi,zn,zs,zh,zd⟩:=pz
 generalize (V4 d).2=p1 at *
 generalize (JI d).1=a0 at *
 generalize (JI d).2=a1 at *
 generalize (Vg d).1=h0 at *
 generalize (Vg d).2.1=h1 at *
 generalize (Vg d).2.2=h2 at *
 cases t1:((kind:Int)==6) with
 | true=>
  cases p1
  all_goals
   refine AP.ofA (Zk Tryz.func131 Z Tryz.ntmps131 Z Z ?_)
   repeat'(first|(apply Zb (hP);kernel_rfl;(iterate 4 exact Z))|(apply Zh Za;exact Z)|(apply Ze Za;exact Z)|refine Zg Z Z Z Qt ?_|refine Zv Z Z Z Qt ?_|refine Zl Z Qt Z Z ?_|refine Zi Z Qt Z Z ?_|refine Zd Z Qt ?_|refine Zm Za Z Z Z Z ?_)
   all_goals exact Qe
 | false=>
 cases t2:((kind:Int)==7) with
 | true=>
  cases a1
  all_goals
   refine AP.ofA (Zk Tryz.func131 Z Tryz.ntmps131 Z Z ?_)
   repeat'(first|(apply Zb (hA);kernel_rfl;(iterate 4 exact Z))|(apply Zh Za;exact Z)|(apply Ze Za;exact Z)|refine Zg Z Z Z Qt ?_|refine Zv Z Z Z Qt ?_|refine Zl Z Qt Z Z ?_|refine Zi Z Qt Z Z ?_|refine Zd Z Qt ?_|refine Zf Z Qt ?_|refine Zm Za Z Z Z Z ?_)
   all_goals exact Qe
 | false=>
 cases t3:((kind:Int)==10) with
 | true=>
  cases h2
  all_goals
   refine AP.ofA (Zk Tryz.func131 Z Tryz.ntmps131 Z Z ?_)
   repeat'(first|(apply Zb (hH);kernel_rfl;(iterate 4 exact Z))|(apply Zh Za;exact Z)|(apply Ze Za;exact Z)|refine Zg Z Z Z Qt ?_|refine Zv Z Z Z Qt ?_|refine Zl Z Qt Z Z ?_|refine Zi Z Qt Z Z ?_|refine Zd Z Qt ?_|refine Zf Z Qt ?_|refine Zm Za Z Z Z Z ?_)
   all_goals exact Qe
 | false=>
  refine AP.ofA (Zk Tryz.func131 Z Tryz.ntmps131 Z Z ?_)
  repeat'(first|(apply Zh Za;exact Z)|(apply Ze Za;exact Z)|refine Zg Z Z Z Qt ?_|refine Zl Z Qt Z Z ?_|refine Zf Z Qt ?_|refine Zm Za Z Z Z Z ?_)
  all_goals exact Qe
def Yb (b:BlkV):Bool:=!(Qs b.ty||Qs b.num)&&((bits .andNot .u64 (b.fl:Int) 23==0)&&(decide (b.sum ≥ 0)&&(decide (b.sum<=2)&&Xm b.ty b.data)))
theorem V5 [Known][KnownU8](b:BlkV)(hd:b.data.length<=140737488351232):AP Tryz.prog 94 [.agg (bkC b)] (.bool (Yb b)) []:=by
 have hW:=IT b.ty b.num
 have hD:=Hx b.ty b.data hd
 obtain⟨ty,num,fl,sum,data⟩:=b
 unfold Yb
 dsimp only at hW hD ⊢
 generalize Xm ty data=dv at *
 cases hb1:(Qs ty||Qs num) with
 | true=>
  rw[hb1]at hW
  replace hW:AP Tryz.prog _ _ (.bool false) []:=hW
  refine AP.ofA (Zk Tryz.func94 Z Tryz.ntmps94 Z Z ?_)
  repeat'(first|(apply Zb (hW);kernel_rfl;(iterate 4 exact Z))|(apply Zh Za;exact Z)|(apply Ze Za;exact Z)|refine Zv Z Z Z Qt ?_|refine Zi Z Qt Z Z ?_|refine ZT Za Z Z Z Z Z Z Z Z Z Z Z Z ?_)
  all_goals exact Qe
 | false=>
 rw[hb1]at hW
 replace hW:AP Tryz.prog _ _ (.bool true) []:=hW
 cases t1:(bits .andNot .u64 (fl:Int) 23==0) with
 | false=>
  refine AP.ofA (Zk Tryz.func94 Z Tryz.ntmps94 Z Z ?_)
  repeat'(first|(apply Zb (hW);kernel_rfl;(iterate 4 exact Z))|(apply Zh Za;exact Z)|(apply Ze Za;exact Z)|refine Zg Z Z Z Qt ?_|refine Zv Z Z Z Qt ?_|refine Zl Z Qt Z Z ?_|refine Zi Z Qt Z Z ?_|refine ZT Za Z Z Z Z Z Z Z Z Z Z Z Z ?_)
  all_goals exact Qe
 | true=>
 cases t2:decide (sum ≥ 0) with
 | false=>
  refine AP.ofA (Zk Tryz.func94 Z Tryz.ntmps94 Z Z ?_)
  repeat'(first|(apply Zb (hW);kernel_rfl;(iterate 4 exact Z))|(apply Zh Za;exact Z)|(apply Ze Za;exact Z)|refine Zg Z Z Z Qt ?_|refine Zv Z Z Z Qt ?_|refine Zl Z Qt Z Z ?_|refine Zi Z Qt Z Z ?_|refine ZT Za Z Z Z Z Z Z Z Z Z Z Z Z ?_)
  all_goals exact Qe
 | true=>
 cases t3:decide (sum<=2) with
 | false=>
  refine AP.ofA (Zk Tryz.func94 Z Tryz.ntmps94 Z Z ?_)
  repeat'(first|(apply Zb (hW);kernel_rfl;(iterate 4 exact Z))|(apply Zh Za;exact Z)|(apply Ze Za;exact Z)|refine Zg Z Z Z Qt ?_|refine Zv Z Z Z Qt ?_|refine Zl Z Qt Z Z ?_|refine Zi Z Qt Z Z ?_|refine ZT Za Z Z Z Z Z Z Z Z Z Z Z Z ?_)
  all_goals exact Qe
 | true=>
  refine AP.ofA (Zk Tryz.func94 Z Tryz.ntmps94 Z Z ?_)
  repeat'(first|(apply Zb (hW);kernel_rfl;(iterate 4 exact Z))|(apply Zb (hD);kernel_rfl;(iterate 4 exact Z))|(apply Zh Za;exact Z)|(apply Ze Za;exact Z)|refine Zg Z Z Z Qt ?_|refine Zl Z Qt Z Z ?_|refine ZT Za Z Z Z Z Z Z Z Z Z Z Z Z ?_)
  all_goals exact Qe

def WJ (b:BlkV):List It:=[.mk 0 b.ty [] [],.mk 0 b.num [] [],.mk 0 b.fl [] [],.mk 0 b.sum.toNat [] [],.mk 2 0 b.data []]
def Yc (b:BlkV):It × Int:=match Yb b with
 | true=>W8 (WJ b) 3
 | false=>(z0,3)
theorem UK {b:BlkV}(h:Yb b=true):b.ty<=255/\b.num<=255/\0<=b.sum/\b.sum<=2/\Xm b.ty b.data=true:=by
 unfold Yb Qs at h
 simp only[Bool.and_eq_true,Bool.not_eq_true',Bool.or_eq_false_iff,decide_eq_true_eq,decide_eq_false_iff_not]at h
 obtain⟨⟨⟨h1,h2⟩,h3,h4⟩,_,h5,h6,h7⟩:=h
 exact⟨by omega,by omega,h5,h6,h7⟩
theorem MP {b:BlkV}(h:Yb b=true)(hfl:b.fl<18446744073709551616)(hd:b.data.length<=3000):wfs (WJ b):=by
 obtain⟨h1,h2,h3,h4,_⟩:=UK h
 simp[WJ,wfs,wfI]
 omega
theorem L9 {b:BlkV}(h:Yb b=true)(hfl:b.fl<18446744073709551616)(hd:b.data.length<=3000)(s:Nat)(hs:s=1\/s=2):(ZH (Z0 s (WJ b))).length<=1000000000:=by
 obtain⟨h1,h2,h3,h4,_⟩:=UK h
 have h9:¬ 3000<b.data.length:=by omega
 have hg:Yx (Z0 s (WJ b)) 1 300=293:=by
  rcases hs with rfl|rfl<;>simp[Z0,WJ,Yx,Y2,h9]
 have hn:nI (Z0 s (WJ b)):=by
  simp[Z0,WJ,nI,nIs]
  omega
 have:=(QU _ 1 300 (by omega) (by omega) hn).2.1
 omega
theorem Ku [Known][KnownU8](b:BlkV)(hfl:b.fl<18446744073709551616)(hd:b.data.length<=3000):AP Tryz.prog 108 [.agg (bkC b)] (QY (Yc b)) []:=by
 have hR:=V5 b (by omega)
 unfold Yc
 cases hr:Yb b with
 | false=>
  rw[hr]at hR
  obtain⟨ty,num,fl,sum,data⟩:=b
  dsimp only[z0]at *
  refine AP.ofA (Zk Tryz.func108 Z Tryz.ntmps108 Z Z ?_)
  repeat'(first|(apply Zb (hR);kernel_rfl;(iterate 4 exact Z))|(apply Zh Za;exact Z)|(apply Ze Za;exact Z)|(apply Zq Za;exact Z)|refine Zd Z Qt ?_)
  all_goals exact Qe
 | true=>
  rw[hr]at hR
  obtain⟨h1,h2,h3,h4,_⟩:=UK hr
  have hS:=GD (WJ b) 3 (MP hr hfl hd) (by simp[WJ]) (L9 hr hfl hd)
  dsimp only
  generalize W8 (WJ b) 3=r at *
  obtain⟨ty,num,fl,sum,data⟩:=b
  obtain⟨⟨k,n,bb,l⟩,e⟩:=r
  dsimp only at h1 h2 h3 h4 hd hfl
  have hN:=O1 ty num fl sum.toNat
  have hB:=QR data (by omega)
  have es:IntKind.u64.wrap sum=((sum.toNat:Nat):Int):=by rw[IntWalk.u64_in _ (by omega)];omega
  replace hS:AP Tryz.prog 138 [.sl .ext [nmE ty,nmE num,nmE fl,nmE sum.toNat,.agg [.int .i64 2,.int .u64 0,.sl (data.map E.byte),.sl []]],.int .i64 3] (QY (.mk k n bb l,e)) []:=hS
  have hu4:Uni 4 [nmE ty,nmE num,nmE fl,nmE sum.toNat]:=Uni.map (f:=nmE) (fun _=>rfl) [ty,num,fl,sum.toNat]
  refine AP.ofA (Zk Tryz.func108 Z Tryz.ntmps108 Z Z ?_)
  repeat'(first|(apply Zb (hR);kernel_rfl;(iterate 4 exact Z))|rw[es]|(apply Yz [] [] (hN);kernel_rfl;(iterate 10 exact Z))|(apply Zb (hB);kernel_rfl;(iterate 4 exact Z))|(apply Zb (hS);kernel_rfl;(iterate 4 exact Z))|refine Ud Za Z Z Z Z Z Z Z Z Z Z Z (Zj rfl) (Zj rfl) (List.cons_ne_nil _ _) Qd Qd Z Z ?_|(apply Zh Za;exact Z)|(apply Ze Za;exact Z)|(apply Zq Za;exact Z)|refine Zf Z Qt ?_|refine ZT Za Z Z Z Z Z Z Z Z Z Z Z Z ?_)
  all_goals exact Qe
def bk0:BlkV:=⟨0,0,0,0,[]⟩
abbrev K2 (r:BlkV × Int):D:=.tup [.agg (bkC r.1),.int .i64 r.2]
def ofV (kind ZN:Nat)(sum:Int)(x:It)(e:Int):BlkV × Int:=match e != 0 with
 | true=>(bk0,3)
 | false=>match ZG x with
  | false=>(bk0,3)
  | true=>match Yb ⟨kind,ZN,0,sum,ZH x⟩ with
   | true=>(⟨kind,ZN,0,sum,ZH x⟩,0)
   | false=>(bk0,3)
theorem T2 [Known][KnownU8](kind ZN:Nat)(sum:Int)(x:It)(e:Int)(hw:wfI x)(hx:(ZH x).length<=140737488351232):AP Tryz.prog 100 [.int .u64 (kind:Int),.int .u64 (ZN:Int),.int .i64 sum,itD x,.int .i64 e] (K2 (ofV kind ZN sum x e)) []:=by
 have hW:=Jl x hw (by omega) (YT x hw)
 have hR:=V5 ⟨kind,ZN,0,sum,ZH x⟩ hx
 have hR0:=V5 ⟨kind,ZN,0,sum,[]⟩ (by simp)
 unfold ofV
 cases te:(e != 0) with
 | true=>
  dsimp only[bk0]
  cases hr:ZG x<;>rw[hr]at hW
  all_goals
   obtain⟨k,n,b,l⟩:=x
   refine AP.ofA (Zk Tryz.func100 Z Tryz.ntmps100 Z Z ?_)
   repeat'(first|(apply Zb (hW);kernel_rfl;(iterate 4 exact Z))|(apply Zh Za;exact Z)|(apply Ze Za;exact Z)|(apply Zq Za;exact Z)|refine Zp Z Z Z Qt ?_|refine Zl Z Qt Z Z ?_|refine Zd Z Qt ?_)
   all_goals exact Qe
 | false=>
 cases hr:ZG x with
 | false=>
  rw[hr]at hW
  replace hW:AP Tryz.prog 63 [itD x] (.tup [.sl .ext [],.int .i64 3]) []:=hW
  obtain⟨k,n,b,l⟩:=x
  dsimp only[bk0]
  refine AP.ofA (Zk Tryz.func100 Z Tryz.ntmps100 Z Z ?_)
  repeat'(first|(apply Zb (hW);kernel_rfl;(iterate 4 exact Z))|(apply Zh Za;exact Z)|(apply Ze Za;exact Z)|(apply Zq Za;exact Z)|refine Zg Z Z Z Qt ?_|refine Zp Z Z Z Qt ?_|refine Zl Z Qt Z Z ?_|refine Zi Z Qt Z Z ?_|refine Zd Z Qt ?_)
  all_goals exact Qe
 | true=>
  rw[hr]at hW
  replace hW:AP Tryz.prog 63 [itD x] (.tup [byE (ZH x),.int .i64 0]) []:=hW
  generalize ZH x=P at *
  obtain⟨k,n,b,l⟩:=x
  dsimp only
  cases hb1:Yb ⟨kind,ZN,0,sum,P⟩
  all_goals
   rw[hb1]at hR
   dsimp only[bk0]
   refine AP.ofA (Zk Tryz.func100 Z Tryz.ntmps100 Z Z ?_)
   repeat'(first|(apply Zb (hW);kernel_rfl;(iterate 4 exact Z))|(apply Zb (hR);kernel_rfl;(iterate 4 exact Z))|(apply Zh Za;exact Z)|(apply Ze Za;exact Z)|(apply Zq Za;exact Z)|refine Zg Z Z Z Qt ?_|refine Zi Z Qt Z Z ?_|refine Zd Z Qt ?_|refine Zf Z Qt ?_)
   all_goals exact Qe
theorem T3 [Known][KnownU8](ZN:Nat)(sum:Int)(age:Nat)(ha:age<18446744073709551616):AP Tryz.prog 104 [.int .u64 (ZN:Int),.int .i64 sum,.int .u64 (age:Int)] (K2 (ofV 7 ZN sum (.mk 0 age [] []) 0)) []:=by
 have hw:wfI (.mk 0 age [] []):=⟨ha,by simp,by simp,trivial⟩
 have hl:=(QU (.mk 0 age [] []) 1 300 (by omega) (by simp[Yx,Y2]) ⟨ha,trivial⟩).2.1
 have hg:Yx (.mk 0 age [] []) 1 300=299:=by simp[Yx,Y2]
 have hO:=T2 7 ZN sum (.mk 0 age [] []) 0 hw (by omega)
 have hN:=YI age
 clear hl hg
 generalize ofV 7 ZN sum (.mk 0 age [] []) 0=r at *
 obtain⟨⟨a,b,c,d,f⟩,e⟩:=r
 refine AP.ofA (Zk Tryz.func104 Z Tryz.ntmps104 Z Z ?_)
 repeat'(first|(apply Zb (hN);kernel_rfl;(iterate 4 exact Z))|(apply Zb (hO);kernel_rfl;(iterate 4 exact Z))|(apply Zh Za;exact Z)|(apply Ze Za;exact Z))
 all_goals exact Qe
abbrev Ut (n m:Nat):It:=.mk 4 0 [] [.mk 0 n [] [],.mk 0 m [] []]
theorem Hy [Known][KnownU8](ZN:Nat)(sum:Int)(n m:Nat)(hn:n<18446744073709551616)(hm:m<18446744073709551616):AP Tryz.prog 105 [.int .u64 (ZN:Int),.int .i64 sum,.int .u64 (n:Int),.int .u64 (m:Int)] (K2 (ofV 10 ZN sum (Ut n m) 0)) []:=by
 have hw:wfI (Ut n m):=⟨by decide,by simp,by simp,⟨hn,by simp,by simp,trivial⟩,⟨hm,by simp,by simp,trivial⟩,trivial⟩
 have hg:Yx (Ut n m) 1 300=297:=by simp[Yx,Y2]
 have hl:=(QU (Ut n m) 1 300 (by omega) (by omega) ⟨by decide,⟨hn,trivial⟩,⟨hm,trivial⟩,trivial⟩).2.1
 have hO:=T2 10 ZN sum (Ut n m) 0 hw (by omega)
 have hN:=JA n m
 clear hl hg
 replace hO:AP Tryz.prog 100 [.int .u64 10,.int .u64 (ZN:Int),.int .i64 sum,.agg [.int .i64 4,.int .u64 0,.sl .ext [],.sl .ext [nmE n,nmE m]],.int .i64 0] (K2 (ofV 10 ZN sum (Ut n m) 0)) []:=hO
 generalize ofV 10 ZN sum (Ut n m) 0=r at *
 obtain⟨⟨a,b,c,d,f⟩,e⟩:=r
 refine AP.ofA (Zk Tryz.func105 Z Tryz.ntmps105 Z Z ?_)
 repeat'(first|(apply Zb (hN);kernel_rfl;(iterate 4 exact Z))|(apply Zb (hO);kernel_rfl;(iterate 4 exact Z))|(apply Zh Za;exact Z)|(apply Ze Za;exact Z)|refine ZT Za Z Z Z Z Z Z Z Z Z Z Z Z ?_)
 all_goals exact Qe
def Wq (b:BlkV)(kind:Nat):Int:=match((b.ty:Int) != (kind:Int)) with
 | true=>4
 | false=>match Yb b with
  | false=>3
  | true=>0
theorem IY [Known][KnownU8](b:BlkV)(kind:Nat)(hd:b.data.length<=140737488351232):AP Tryz.prog 48 [.agg (bkC b),.int .u64 (kind:Int)] (.int .i64 (Wq b kind)) []:=by
 have hR:=V5 b hd
 unfold Wq
 cases t1:((b.ty:Int) != (kind:Int)) with
 | true=>
  obtain⟨ty,num,fl,sum,data⟩:=b
  dsimp only at t1
  refine AP.ofA (Zk Tryz.func48 Z Tryz.ntmps48 Z Z ?_)
  repeat'(first|(apply Ze Za;exact Z)|(apply Zq Za;exact Z)|refine Zd Z Qt ?_)
  all_goals exact Qe
 | false=>
  cases hr:Yb b<;>rw[hr]at hR
  all_goals
   obtain⟨ty,num,fl,sum,data⟩:=b
   dsimp only at t1
   refine AP.ofA (Zk Tryz.func48 Z Tryz.ntmps48 Z Z ?_)
   repeat'(first|(apply Zb (hR);kernel_rfl;(iterate 4 exact Z))|(apply Zh Za;exact Z)|(apply Ze Za;exact Z)|(apply Zq Za;exact Z)|refine Zd Z Qt ?_|refine Zf Z Qt ?_)
   all_goals exact Qe
theorem O6 [Known][KnownU8](b:BlkV)(hd:b.data.length<=140737488351232):AP Tryz.prog 103 [.agg (bkC b)] (.tup [.int .u64 ((match Wq b 7 != 0 with|true=>0|false=>(JI b.data).1:Nat):Int),.int .i64 (Wq b 7)]) []:=by
 have hA:=IY b 7 hd
 have hG:=TZ b.data hd
 generalize Wq b 7=q at *
 generalize (JI b.data).1=a at *
 generalize (JI b.data).2=o at *
 obtain⟨ty,num,fl,sum,data⟩:=b
 cases t1:(q != 0) with
 | true=>
  refine AP.ofA (Zk Tryz.func103 Z Tryz.ntmps103 Z Z ?_)
  repeat'(first|(apply Zb (hA);kernel_rfl;(iterate 4 exact Z))|(apply Zh Za;exact Z)|(apply Ze Za;exact Z)|(apply Zq Za;exact Z)|refine Zd Z Qt ?_)
  all_goals exact Qe
 | false=>
  have eq0:q=0:=by simpa[bne]using t1
  subst eq0
  refine AP.ofA (Zk Tryz.func103 Z Tryz.ntmps103 Z Z ?_)
  repeat'(first|(apply Zb (hA);kernel_rfl;(iterate 4 exact Z))|(apply Zb (hG);kernel_rfl;(iterate 4 exact Z))|(apply Zh Za;exact Z)|(apply Ze Za;exact Z)|refine Zf Z Qt ?_)
  all_goals exact Qe
theorem Hz [Known][KnownU8](b:BlkV)(hd:b.data.length<=140737488351232):AP Tryz.prog 13 [.agg (bkC b)] (.tup [.int .u64 ((match Wq b 10 != 0 with|true=>0|false=>(Vg b.data).1:Nat):Int),.int .u64 ((match Wq b 10 != 0 with|true=>0|false=>(Vg b.data).2.1:Nat):Int),.int .i64 (Wq b 10)]) []:=by
 have hA:=IY b 10 hd
 have hG:=GK b.data hd
 generalize Wq b 10=q at *
 generalize (Vg b.data).1=a at *
 generalize (Vg b.data).2.1=c at *
 generalize (Vg b.data).2.2=o at *
 obtain⟨ty,num,fl,sum,data⟩:=b
 cases t1:(q != 0) with
 | true=>
  refine AP.ofA (Zk Tryz.func13 Z Tryz.ntmps13 Z Z ?_)
  repeat'(first|(apply Zb (hA);kernel_rfl;(iterate 4 exact Z))|(apply Zh Za;exact Z)|(apply Ze Za;exact Z)|(apply Zq Za;exact Z)|refine Zd Z Qt ?_)
  all_goals exact Qe
 | false=>
  have eq0:q=0:=by simpa[bne]using t1
  subst eq0
  refine AP.ofA (Zk Tryz.func13 Z Tryz.ntmps13 Z Z ?_)
  repeat'(first|(apply Zb (hA);kernel_rfl;(iterate 4 exact Z))|(apply Zb (hG);kernel_rfl;(iterate 4 exact Z))|(apply Zh Za;exact Z)|(apply Ze Za;exact Z)|refine Zf Z Qt ?_)
  all_goals exact Qe
def O7 (x:It)(o:List It × Int):BlkV × Int:=match o.2 != 0 with
 | true=>(bk0,o.2)
 | false=>match o.1 with
  | [.mk k0 n0 b0 l0,.mk k1 n1 b1 l1,.mk k2 n2 b2 l2,.mk k3 n3 b3 l3,.mk k4 n4 b4 l4]=>(match k4 != 2 with
   | true=>(bk0,3)
   | false=>match(Yc ⟨n0,n1,n2,IntKind.i64.wrap (n3:Int),b4⟩).2 != 0 with
    | true=>(bk0,3)
    | false=>match It.beq (Yc ⟨n0,n1,n2,IntKind.i64.wrap (n3:Int),b4⟩).1 x with
     | false=>(bk0,3)
     | true=>(⟨n0,n1,n2,IntKind.i64.wrap (n3:Int),b4⟩,0))
  | _=>(bk0,3)
def WP (x:It):BlkV × Int:=O7 x (VM x 3)
theorem UL (x:It)(a:Int):∀ y ∈ (VM x a).1,y ∈ x.l:=by
 obtain⟨k,n,b,l⟩:=x
 unfold VM
 dsimp only[It.l]
 have hs:∀(m:Nat) (y:It),y ∈ l.take m->y ∈ l:=fun m y h=>List.mem_of_mem_take h
 repeat' split
 all_goals first|exact hs _|(intro y h;exact h)|(intro y h;exact absurd h (by simp))
theorem GL:wfI z0:=⟨by decide,by simp,by simp,trivial⟩
theorem Ms (s:Nat){l:List It}(hws:wfs l)(hl:l.length<=1000000):wfI (Qr s l):=by
 refine⟨by decide,by simp,by simp;omega,JN hws ⟨⟨by decide,?_,by simp,trivial⟩,trivial⟩⟩
 have:(VG s (ZH (Z0 s l))).length<=4:=by
  unfold VG
  split<;>simp
 omega
theorem GM {l:List It}(a:Int)(hws:wfs l)(hl:l.length<=1000000):wfI (W8 l a).1:=by
 unfold W8
 have h0:wfI (.mk 4 0 [] l):=⟨by decide,by simp,by omega,hws⟩
 repeat' split
 all_goals first|exact GL|exact h0|exact Ms _ hws hl
theorem Xn {b:BlkV}(hfl:b.fl<18446744073709551616)(hd:b.data.length<=3000):wfI (Yc b).1:=by
 unfold Yc
 cases h:Yb b with
 | false=>exact GL
 | true=>exact GM 3 (MP h hfl hd) (by simp[WJ])
theorem RA [Known][KnownU8](k:Int)(n:Nat)(b:List UInt8)(xl:List E)(L:List E)(e:Int)
  (hO:AP Tryz.prog 111 [.agg [.int .i64 k,.int .u64 (n:Int),byE b,.sl .ext xl],.int .i64 3] (.tup [.sl .ext L,.int .i64 e]) []) (t1:(e != 0)=true) :
  AP Tryz.prog 60 [.agg [.int .i64 k,.int .u64 (n:Int),byE b,.sl .ext xl]] (.tup [.agg [.int .u64 0,.int .u64 0,.int .u64 0,.int .i64 0,.sl .ext []],.int .i64 e]) []:=by
 refine AP.ofA (Zk Tryz.func60 Z Tryz.ntmps60 Z Z ?_)
 repeat'(first|(apply Zb (hO);kernel_rfl;(iterate 4 exact Z))|(apply Zh Za;exact Z)|(apply Ze Za;exact Z)|(apply Zq Za;exact Z)|refine Zd Z Qt ?_)
 all_goals exact Qe
theorem RC [Known][KnownU8](k:Int)(n:Nat)(b:List UInt8)(xl:List E)(L:List E)(e:Int)
  (hO:AP Tryz.prog 111 [.agg [.int .i64 k,.int .u64 (n:Int),byE b,.sl .ext xl],.int .i64 3] (.tup [.sl .ext L,.int .i64 e]) []) (t1:(e != 0)=false) (t2:((L.length:Int) != 5)=true) :
  AP Tryz.prog 60 [.agg [.int .i64 k,.int .u64 (n:Int),byE b,.sl .ext xl]] (.tup [.agg [.int .u64 0,.int .u64 0,.int .u64 0,.int .i64 0,.sl .ext []],.int .i64 3]) []:=by
 refine AP.ofA (Zk Tryz.func60 Z Tryz.ntmps60 Z Z ?_)
 repeat'(first|(apply Zb (hO);kernel_rfl;(iterate 4 exact Z))|(apply Zh Za;exact Z)|(apply Ze Za;exact Z)|(apply Zq Za;exact Z)|refine Zp Z Z Z Qt ?_|refine Zl Z Qt Z Z ?_|refine Zd Z Qt ?_|refine Zf Z Qt ?_|refine Zm Za Z Z Z Z ?_)
 all_goals exact Qe
theorem RD [Known][KnownU8](k:Int)(n:Nat)(b:List UInt8)(xl:List E)(L:List E)(e:Int)(k4:Int)(n4:Nat)(b4:List UInt8)(l4:List It)
  (hO:AP Tryz.prog 111 [.agg [.int .i64 k,.int .u64 (n:Int),byE b,.sl .ext xl],.int .i64 3] (.tup [.sl .ext L,.int .i64 e]) []) (t1:(e != 0)=false) (t2:((L.length:Int) != 5)=false) (hU:Uni 4 L) (hv4:L[(4:Int).toNat]?=some (.agg [.int .i64 k4,.int .u64 (n4:Int),.sl (b4.map E.byte),.sl (Zt l4)])) (t3:(k4 != 2)=true) :
  AP Tryz.prog 60 [.agg [.int .i64 k,.int .u64 (n:Int),byE b,.sl .ext xl]] (.tup [.agg [.int .u64 0,.int .u64 0,.int .u64 0,.int .i64 0,.sl .ext []],.int .i64 3]) []:=by
 refine AP.ofA (Zk Tryz.func60 Z Tryz.ntmps60 Z Z ?_)
 repeat'(first|(apply Zb (hO);kernel_rfl;(iterate 4 exact Z))|(apply Zh Za;exact Z)|(apply Ze Za;exact Z)|(apply Zq Za;exact Z)|refine Zg Z Z Z Qt ?_|refine Zi Z Qt Z Z ?_|refine Zd Z Qt ?_|refine Zf Z Qt ?_|refine Zm Za Z Z Z Z ?_|(apply Zu Za;(iterate 6 exact Z);(first|exact Qt|rotate_left);(first|with_reducible assumption|decide +kernel|exact Z);(first|exact Zj rfl|with_reducible assumption|decide +kernel|rotate_left)))
 all_goals exact Qe
theorem RF [Known][KnownU8](k:Int)(n:Nat)(b:List UInt8)(xl:List E)(L:List E)(e:Int)(k0:Int)(n0:Nat)(b0:List UInt8)(l0:List It)(k1:Int)(n1:Nat)(b1:List UInt8)(l1:List It)(k2:Int)(n2:Nat)(b2:List UInt8)(l2:List It)(k3:Int)(n3:Nat)(b3:List UInt8)(l3:List It)(k4:Int)(n4:Nat)(b4:List UInt8)(l4:List It)(wk:Int)(wn:Nat)(wb:List UInt8)(wl:List E)(we:Int)
  (hO:AP Tryz.prog 111 [.agg [.int .i64 k,.int .u64 (n:Int),byE b,.sl .ext xl],.int .i64 3] (.tup [.sl .ext L,.int .i64 e]) []) (t1:(e != 0)=false) (t2:((L.length:Int) != 5)=false) (hU:Uni 4 L) (hv0:L[(0:Int).toNat]?=some (.agg [.int .i64 k0,.int .u64 (n0:Int),.sl (b0.map E.byte),.sl (Zt l0)])) (hv1:L[(1:Int).toNat]?=some (.agg [.int .i64 k1,.int .u64 (n1:Int),.sl (b1.map E.byte),.sl (Zt l1)])) (hv2:L[(2:Int).toNat]?=some (.agg [.int .i64 k2,.int .u64 (n2:Int),.sl (b2.map E.byte),.sl (Zt l2)])) (hv3:L[(3:Int).toNat]?=some (.agg [.int .i64 k3,.int .u64 (n3:Int),.sl (b3.map E.byte),.sl (Zt l3)])) (hv4:L[(4:Int).toNat]?=some (.agg [.int .i64 k4,.int .u64 (n4:Int),.sl (b4.map E.byte),.sl (Zt l4)])) (t3:(k4 != 2)=false)
  (hC:AP Tryz.prog 44 [.sl .ext (b4.map E.byte)] (.sl .ext (b4.map E.byte)) []) (hW:AP Tryz.prog 108 [.agg [.int .u64 (n0:Int),.int .u64 (n1:Int),.int .u64 (n2:Int),.int .i64 (IntKind.i64.wrap (n3:Int)),.sl .ext (b4.map E.byte)]] (.tup [.agg [.int .i64 wk,.int .u64 (wn:Int),byE wb,.sl .ext wl],.int .i64 we]) []) (t4:(we != 0)=true) :
  AP Tryz.prog 60 [.agg [.int .i64 k,.int .u64 (n:Int),byE b,.sl .ext xl]] (.tup [.agg [.int .u64 0,.int .u64 0,.int .u64 0,.int .i64 0,.sl .ext []],.int .i64 3]) []:=by
 refine AP.ofA (Zk Tryz.func60 Z Tryz.ntmps60 Z Z ?_)
 repeat'(first|(apply Zb (hO);kernel_rfl;(iterate 4 exact Z))|(apply Zb (hC);kernel_rfl;(iterate 4 exact Z))|(apply Zb (hW);kernel_rfl;(iterate 4 exact Z))|(apply Zh Za;exact Z)|(apply Ze Za;exact Z)|(apply Zq Za;exact Z)|refine Zg Z Z Z Qt ?_|refine Zp Z Z Z Qt ?_|refine Zl Z Qt Z Z ?_|refine Zi Z Qt Z Z ?_|refine Zd Z Qt ?_|refine Zf Z Qt ?_|refine Zm Za Z Z Z Z ?_|(apply Zn 24 ZF;decide +kernel;kernel_rfl;kernel_rfl;kernel_rfl;exact Z;exact Z)|(apply Zs;(iterate 4 exact Z))|exact AE.nil _ _ _ _|(apply Zx;exact Z)|(apply Ye;exact Z)|(apply ZA;exact Z;exact Z;decide +kernel;exact Z)|(apply ZB;exact Z)|(apply Yu;exact Z)|exact AO.nil _ _ _|(apply Zr;(decide +kernel))|(apply Z4;(iterate 3 exact Z))|exact AOs.nil|exact ZM rfl rfl|exact Y4 rfl rfl|(apply Zu Za;(iterate 6 exact Z);(first|exact Qt|rotate_left);(first|with_reducible assumption|decide +kernel|exact Z);(first|exact Zj rfl|with_reducible assumption|decide +kernel|rotate_left)))
 all_goals exact Qe
theorem RG [Known][KnownU8](k:Int)(n:Nat)(b:List UInt8)(xl:List E)(L:List E)(e:Int)(k0:Int)(n0:Nat)(b0:List UInt8)(l0:List It)(k1:Int)(n1:Nat)(b1:List UInt8)(l1:List It)(k2:Int)(n2:Nat)(b2:List UInt8)(l2:List It)(k3:Int)(n3:Nat)(b3:List UInt8)(l3:List It)(k4:Int)(n4:Nat)(b4:List UInt8)(l4:List It)(wk:Int)(wn:Nat)(wb:List UInt8)(wl:List E)(we:Int)
  (hO:AP Tryz.prog 111 [.agg [.int .i64 k,.int .u64 (n:Int),byE b,.sl .ext xl],.int .i64 3] (.tup [.sl .ext L,.int .i64 e]) []) (t1:(e != 0)=false) (t2:((L.length:Int) != 5)=false) (hU:Uni 4 L) (hv0:L[(0:Int).toNat]?=some (.agg [.int .i64 k0,.int .u64 (n0:Int),.sl (b0.map E.byte),.sl (Zt l0)])) (hv1:L[(1:Int).toNat]?=some (.agg [.int .i64 k1,.int .u64 (n1:Int),.sl (b1.map E.byte),.sl (Zt l1)])) (hv2:L[(2:Int).toNat]?=some (.agg [.int .i64 k2,.int .u64 (n2:Int),.sl (b2.map E.byte),.sl (Zt l2)])) (hv3:L[(3:Int).toNat]?=some (.agg [.int .i64 k3,.int .u64 (n3:Int),.sl (b3.map E.byte),.sl (Zt l3)])) (hv4:L[(4:Int).toNat]?=some (.agg [.int .i64 k4,.int .u64 (n4:Int),.sl (b4.map E.byte),.sl (Zt l4)])) (t3:(k4 != 2)=false)
  (hC:AP Tryz.prog 44 [.sl .ext (b4.map E.byte)] (.sl .ext (b4.map E.byte)) []) (hW:AP Tryz.prog 108 [.agg [.int .u64 (n0:Int),.int .u64 (n1:Int),.int .u64 (n2:Int),.int .i64 (IntKind.i64.wrap (n3:Int)),.sl .ext (b4.map E.byte)]] (.tup [.agg [.int .i64 wk,.int .u64 (wn:Int),byE wb,.sl .ext wl],.int .i64 we]) []) (hS:AP Tryz.prog 96 [.agg [.int .i64 wk,.int .u64 (wn:Int),byE wb,.sl .ext wl],.agg [.int .i64 k,.int .u64 (n:Int),byE b,.sl .ext xl]] (.bool false) []) (t4:(we != 0)=false) :
  AP Tryz.prog 60 [.agg [.int .i64 k,.int .u64 (n:Int),byE b,.sl .ext xl]] (.tup [.agg [.int .u64 0,.int .u64 0,.int .u64 0,.int .i64 0,.sl .ext []],.int .i64 3]) []:=by
 refine AP.ofA (Zk Tryz.func60 Z Tryz.ntmps60 Z Z ?_)
 repeat'(first|(apply Zb (hO);kernel_rfl;(iterate 4 exact Z))|(apply Zb (hC);kernel_rfl;(iterate 4 exact Z))|(apply Zb (hW);kernel_rfl;(iterate 4 exact Z))|(apply Zb (hS);kernel_rfl;(iterate 4 exact Z))|(apply Zh Za;exact Z)|(apply Ze Za;exact Z)|(apply Zq Za;exact Z)|refine Zg Z Z Z Qt ?_|refine Zi Z Qt Z Z ?_|refine Zd Z Qt ?_|refine Zf Z Qt ?_|refine Zm Za Z Z Z Z ?_|(apply Zn 24 ZF;decide +kernel;kernel_rfl;kernel_rfl;kernel_rfl;exact Z;exact Z)|(apply Zs;(iterate 4 exact Z))|exact AE.nil _ _ _ _|(apply Zx;exact Z)|(apply Ye;exact Z)|(apply ZA;exact Z;exact Z;decide +kernel;exact Z)|(apply ZB;exact Z)|(apply Yu;exact Z)|exact AO.nil _ _ _|(apply Zr;(decide +kernel))|(apply Z4;(iterate 3 exact Z))|exact AOs.nil|exact ZM rfl rfl|exact Y4 rfl rfl|(apply Zu Za;(iterate 6 exact Z);(first|exact Qt|rotate_left);(first|with_reducible assumption|decide +kernel|exact Z);(first|exact Zj rfl|with_reducible assumption|decide +kernel|rotate_left)))
 all_goals exact Qe
end Go.Proofs.YtmljabhmajehnaaGreatDoor
end
