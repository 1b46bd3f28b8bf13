/- Package canon: hops. -/
import Derived.Test.YtchlgagdbflkmaaGreatDoorK27
import Derived.Test.YtchlgagdbflkmaaGreatDoorK18
import Derived.Test.YtchlgagdbflkmaaGreatDoorK12
import Derived.Test.YtchlgagdbflkmaaGreatDoorK10
set_option linter.unusedVariables false
set_option linter.unusedSimpArgs false
section
open Go.RowKit Go.Pl Go.Av
namespace Go.Proofs.YtchlgagdbflkmaaGreatDoor
set_option maxHeartbeats 4000000
theorem Di [Known][KnownU8](d:List UInt8)(k:Int)(n:Nat)(b:List UInt8)(L:List E)(k1:Int)(n1:Nat)(b1:List UInt8)(l1:List It)(k2:Int)(n2:Nat)(b2:List UInt8)(l2:List It)(s:Bool)(N:D)
  (hI:AP Tryz.prog 274 [byE d] (.tup [.agg [.int .i64 k,.int .u64 (n:Int),byE b,.sl .ext L],.bool true]) []) (tk2:(k != 4)=false) (t2:((L.length:Int) != 2)=false) (hU:Uni 4 L)
  (hv0:L[(0:Int).toNat]?=some (.agg [.int .i64 k1,.int .u64 (n1:Int),.sl (b1.map E.byte),.sl (Zu l1)])) (hv1:L[(1:Int).toNat]?=some (.agg [.int .i64 k2,.int .u64 (n2:Int),.sl (b2.map E.byte),.sl (Zu l2)]))
  (hN:AP Tryz.prog 219 [.sl .ext [.int .u64 (n1:Int),.int .u64 (n2:Int)]] (.agg [.int .i64 4,.int .u64 0,.sl .ext [],.sl .ext [nmE n1,nmE n2]]) []) (hS:AP Tryz.prog 176 [.agg [.int .i64 k,.int .u64 (n:Int),byE b,.sl .ext L],.agg [.int .i64 4,.int .u64 0,.sl .ext [],.sl .ext [nmE n1,nmE n2]]] (.bool s) []) (ts:s=true) (t4:decide ((n1:Int) ≥ 1)=true) (t5:decide ((n1:Int)<=255)=false) :
  AP Tryz.prog 256 [byE d] (.tup [.int .u64 (n1:Int),.int .u64 (n2:Int),.bool false]) []:=by
 subst ts
 refine AP.ofA (Zl Tryz.func256 Z Tryz.ntmps256 Z Z ?_)
 repeat'(first|(apply Zb (hI);kernel_rfl;(iterate 4 exact Z))|(apply Zb (hS);kernel_rfl;(iterate 4 exact Z))|(apply Zb (hN);kernel_rfl;(iterate 4 exact Z))|(apply Zg Za;exact Z)|(apply Zh Za;exact Z)|(apply Zs Za;exact Z)|refine Zd Z Z Z Qt ?_|refine Zr Z Z Z Qt ?_|refine Zj Z Qt Z Z ?_|refine Zi Z Qt Z Z ?_|refine Zf Z Qt ?_|refine Zn Za Z Z Z Z ?_|refine ZO Za Z Z Z Z Z Z Z Z Z Z Z Z ?_|(apply Zm 11 ZG;decide +kernel;kernel_rfl;kernel_rfl;kernel_rfl;exact Z;exact Z)|(apply Zm 23 ZG;decide +kernel;kernel_rfl;kernel_rfl;kernel_rfl;exact Z;exact Z)|(apply Zq;(iterate 4 exact Z))|exact AE.nil _ _ _ _|(apply Zv;exact Z)|(apply ZA;exact Z;exact Z;decide +kernel;exact Z)|(apply ZB;exact Z)|exact AO.nil _ _ _|(apply Zp;(decide +kernel))|exact AOs.nil|exact ZJ rfl rfl|exact Y6 rfl rfl rfl rfl rfl|(apply Zw Za;(iterate 6 exact Z);(first|exact Qt|rotate_left);(first|with_reducible assumption|decide +kernel|exact Z);(first|exact Zk rfl|with_reducible assumption|decide +kernel|rotate_left)))
 all_goals exact Qe
theorem Dj [Known][KnownU8](d:List UInt8)(k:Int)(n:Nat)(b:List UInt8)(L:List E)(k1:Int)(n1:Nat)(b1:List UInt8)(l1:List It)(k2:Int)(n2:Nat)(b2:List UInt8)(l2:List It)(s:Bool)(N:D)
  (hI:AP Tryz.prog 274 [byE d] (.tup [.agg [.int .i64 k,.int .u64 (n:Int),byE b,.sl .ext L],.bool true]) []) (tk2:(k != 4)=false) (t2:((L.length:Int) != 2)=false) (hU:Uni 4 L)
  (hv0:L[(0:Int).toNat]?=some (.agg [.int .i64 k1,.int .u64 (n1:Int),.sl (b1.map E.byte),.sl (Zu l1)])) (hv1:L[(1:Int).toNat]?=some (.agg [.int .i64 k2,.int .u64 (n2:Int),.sl (b2.map E.byte),.sl (Zu l2)]))
  (hN:AP Tryz.prog 219 [.sl .ext [.int .u64 (n1:Int),.int .u64 (n2:Int)]] (.agg [.int .i64 4,.int .u64 0,.sl .ext [],.sl .ext [nmE n1,nmE n2]]) []) (hS:AP Tryz.prog 176 [.agg [.int .i64 k,.int .u64 (n:Int),byE b,.sl .ext L],.agg [.int .i64 4,.int .u64 0,.sl .ext [],.sl .ext [nmE n1,nmE n2]]] (.bool s) []) (ts:s=true) (t4:decide ((n1:Int) ≥ 1)=true) (t5:decide ((n1:Int)<=255)=true) :
  AP Tryz.prog 256 [byE d] (.tup [.int .u64 (n1:Int),.int .u64 (n2:Int),.bool (decide ((n2:Int)<=(n1:Int)))]) []:=by
 subst ts
 refine AP.ofA (Zl Tryz.func256 Z Tryz.ntmps256 Z Z ?_)
 repeat'(first|(apply Zb (hI);kernel_rfl;(iterate 4 exact Z))|(apply Zb (hS);kernel_rfl;(iterate 4 exact Z))|(apply Zb (hN);kernel_rfl;(iterate 4 exact Z))|(apply Zg Za;exact Z)|(apply Zh Za;exact Z)|(apply Zs Za;exact Z)|refine Zd Z Z Z Qt ?_|refine Zj Z Qt Z Z ?_|refine Zi Z Qt Z Z ?_|refine Zf Z Qt ?_|refine Zn Za Z Z Z Z ?_|refine ZO Za Z Z Z Z Z Z Z Z Z Z Z Z ?_|(apply Zm 11 ZG;decide +kernel;kernel_rfl;kernel_rfl;kernel_rfl;exact Z;exact Z)|(apply Zm 23 ZG;decide +kernel;kernel_rfl;kernel_rfl;kernel_rfl;exact Z;exact Z)|(apply Zq;(iterate 4 exact Z))|exact AE.nil _ _ _ _|(apply Zv;exact Z)|(apply ZA;exact Z;exact Z;decide +kernel;exact Z)|(apply ZB;exact Z)|exact AO.nil _ _ _|(apply Zp;(decide +kernel))|exact AOs.nil|exact ZJ rfl rfl|exact Y6 rfl rfl rfl rfl rfl|(apply Zw Za;(iterate 6 exact Z);(first|exact Qt|rotate_left);(first|with_reducible assumption|decide +kernel|exact Z);(first|exact Zk rfl|with_reducible assumption|decide +kernel|rotate_left)))
 all_goals exact Qe
theorem LQ [Known][KnownU8](d:List UInt8)(hd:d.length<=140737488351232):AP Tryz.prog 256 [byE d] (.tup [.int .u64 ((Xm d).1:Int),.int .u64 ((Xm d).2.1:Int),.bool (Xm d).2.2]) []:=by
 have hI:=Ie d hd
 have hw:=Mo d hd
 unfold Xm
 generalize (YI d 0).1=x at *
 obtain⟨k,n,b,l⟩:=x
 cases hs:W3 d with
 | false=>
  rw[hs]at hI
  exact De d k n b l hI
 | true=>
 rw[hs]at hI
 unfold Ro
 dsimp only
 cases tk:(k==4) with
 | false=>exact Df d k n b l hI tk
 | true=>
 have tk2:(k != 4)=false:=by rw[bne,tk];rfl
 match l,hI,hw with
 | [],hI,_=>exact Sp d k n b _ hI tk (by simp)
 | [.mk _ _ _ _],hI,_=>exact Sp d k n b _ hI tk (by simp)
 | .mk _ _ _ _::.mk _ _ _ _::_::_,hI,_=>exact Sp d k n b _ hI tk (by simp)
 | [.mk k1 n1 b1 l1,.mk k2 n2 b2 l2],hI,hw=>
 have t2:(((Zu [It.mk k1 n1 b1 l1,.mk k2 n2 b2 l2]).length:Int) != 2)=false:=by rw[Zz];rfl
 have hU:=Y4 [It.mk k1 n1 b1 l1,.mk k2 n2 b2 l2]
 have hws:=hw.2.2.2
 have hS:=Ub _ hw (.mk 4 0 [] [.mk 0 n1 [] [],.mk 0 n2 [] []]) ⟨by decide,by simp,by simp,⟨hws.1.1,by simp,by simp,trivial⟩,⟨hws.2.1.1,by simp,by simp,trivial⟩,trivial⟩
 have hN:=Gf n1 n2
 dsimp only
 cases t3:It.beq (.mk k n b [.mk k1 n1 b1 l1,.mk k2 n2 b2 l2]) (.mk 4 0 [] [.mk 0 n1 [] [],.mk 0 n2 [] []]) with
 | false=>exact Dg d k n b _ k1 n1 b1 l1 k2 n2 b2 l2 _ .junk hI tk2 t2 hU rfl rfl hN hS t3
 | true=>
 cases t4:decide ((n1:Int) ≥ 1) with
 | false=>exact Dh d k n b _ k1 n1 b1 l1 k2 n2 b2 l2 _ .junk hI tk2 t2 hU rfl rfl hN hS t3 t4
 | true=>
 cases t5:decide ((n1:Int)<=255) with
 | false=>exact Di d k n b _ k1 n1 b1 l1 k2 n2 b2 l2 _ .junk hI tk2 t2 hU rfl rfl hN hS t3 t4 t5
 | true=>exact Dj d k n b _ k1 n1 b1 l1 k2 n2 b2 l2 _ .junk hI tk2 t2 hU rfl rfl hN hS t3 t4 t5
def Rp (kind:Nat)(d:List UInt8):Bool:=match((kind:Int)==6) with
 | true=>(Oz d).2
 | false=>match((kind:Int)==7) with
  | true=>(T0 d).2
  | false=>match((kind:Int)==10) with
   | true=>(Xm d).2.2
   | false=>true
def OA (kind:Nat)(d:List UInt8):Bool:=Rp kind d&&decide ((d.length:Int)<=200)
theorem T1 [Known][KnownU8](kind:Nat)(d:List UInt8)(hd:d.length<=140737488351232):AP Tryz.prog 221 [.int .u64 (kind:Int),byE d] (.bool (OA kind d)) []:=by
 have hP:=Gm d hd
 have hA:=So d hd
 have hH:=LQ d hd
 have hdl:(d.map E.byte).length=d.length:=List.length_map ..
 unfold OA Rp
 rw[<- hdl]
 generalize (Oz d).1=pz at *
 obtain⟨zi,zn,zs,zh,zd⟩:=pz
 generalize (Oz d).2=p1 at *
 generalize (T0 d).1=a0 at *
 generalize (T0 d).2=a1 at *
 generalize (Xm d).1=h0 at *
 generalize (Xm d).2.1=h1 at *
 generalize (Xm d).2.2=h2 at *
 cases t1:((kind:Int)==6) with
 | true=>
  cases p1
  all_goals
   refine AP.ofA (Zl Tryz.func221 Z Tryz.ntmps221 Z Z ?_)
   repeat'(first|(apply Zb (hP);kernel_rfl;(iterate 4 exact Z))|(apply Zg Za;exact Z)|(apply Zh Za;exact Z)|refine Zd Z Z Z Qt ?_|refine Zr Z Z Z Qt ?_|refine Zj Z Qt Z Z ?_|refine Zi Z Qt Z Z ?_|refine Ze Z Qt ?_|refine Zn Za Z Z Z Z ?_)
   all_goals exact Qe
 | false=>
 cases t2:((kind:Int)==7) with
 | true=>
  cases a1
  all_goals
   refine AP.ofA (Zl Tryz.func221 Z Tryz.ntmps221 Z Z ?_)
   repeat'(first|(apply Zb (hA);kernel_rfl;(iterate 4 exact Z))|(apply Zg Za;exact Z)|(apply Zh Za;exact Z)|refine Zd Z Z Z Qt ?_|refine Zr Z Z Z Qt ?_|refine Zj Z Qt Z Z ?_|refine Zi Z Qt Z Z ?_|refine Ze Z Qt ?_|refine Zf Z Qt ?_|refine Zn Za Z Z Z Z ?_)
   all_goals exact Qe
 | false=>
 cases t3:((kind:Int)==10) with
 | true=>
  cases h2
  all_goals
   refine AP.ofA (Zl Tryz.func221 Z Tryz.ntmps221 Z Z ?_)
   repeat'(first|(apply Zb (hH);kernel_rfl;(iterate 4 exact Z))|(apply Zg Za;exact Z)|(apply Zh Za;exact Z)|refine Zd Z Z Z Qt ?_|refine Zr Z Z Z Qt ?_|refine Zj Z Qt Z Z ?_|refine Zi Z Qt Z Z ?_|refine Ze Z Qt ?_|refine Zf Z Qt ?_|refine Zn Za Z Z Z Z ?_)
   all_goals exact Qe
 | false=>
  refine AP.ofA (Zl Tryz.func221 Z Tryz.ntmps221 Z Z ?_)
  repeat'(first|(apply Zg Za;exact Z)|(apply Zh Za;exact Z)|refine Zd Z Z Z Qt ?_|refine Zj Z Qt Z Z ?_|refine Zf Z Qt ?_|refine Zn Za Z Z Z Z ?_)
  all_goals exact Qe
def YW (b:BlkV):Bool:=!(Q7 b.ty||Q7 b.num)&&((bits .andNot .u64 (b.fl:Int) 23==0)&&(decide (b.sum ≥ 0)&&(decide (b.sum<=2)&&OA b.ty b.data)))
theorem OB [Known][KnownU8](b:BlkV)(hd:b.data.length<=140737488351232):AP Tryz.prog 178 [.agg (bkC b)] (.bool (YW b)) []:=by
 have hW:=G6 b.ty b.num
 have hD:=T1 b.ty b.data hd
 obtain⟨ty,num,fl,sum,data⟩:=b
 unfold YW
 dsimp only at hW hD ⊢
 generalize OA ty data=dv at *
 cases hb1:(Q7 ty||Q7 num) with
 | true=>
  rw[hb1]at hW
  replace hW:AP Tryz.prog _ _ (.bool false) []:=hW
  refine AP.ofA (Zl Tryz.func178 Z Tryz.ntmps178 Z Z ?_)
  repeat'(first|(apply Zb (hW);kernel_rfl;(iterate 4 exact Z))|(apply Zg Za;exact Z)|(apply Zh Za;exact Z)|refine Zr Z Z Z Qt ?_|refine Zi Z Qt Z Z ?_|refine ZO Za Z Z Z Z Z Z Z Z Z Z Z Z ?_)
  all_goals exact Qe
 | false=>
 rw[hb1]at hW
 replace hW:AP Tryz.prog _ _ (.bool true) []:=hW
 cases t1:(bits .andNot .u64 (fl:Int) 23==0) with
 | false=>
  refine AP.ofA (Zl Tryz.func178 Z Tryz.ntmps178 Z Z ?_)
  repeat'(first|(apply Zb (hW);kernel_rfl;(iterate 4 exact Z))|(apply Zg Za;exact Z)|(apply Zh Za;exact Z)|refine Zd Z Z Z Qt ?_|refine Zr Z Z Z Qt ?_|refine Zj Z Qt Z Z ?_|refine Zi Z Qt Z Z ?_|refine ZO Za Z Z Z Z Z Z Z Z Z Z Z Z ?_)
  all_goals exact Qe
 | true=>
 cases t2:decide (sum ≥ 0) with
 | false=>
  refine AP.ofA (Zl Tryz.func178 Z Tryz.ntmps178 Z Z ?_)
  repeat'(first|(apply Zb (hW);kernel_rfl;(iterate 4 exact Z))|(apply Zg Za;exact Z)|(apply Zh Za;exact Z)|refine Zd Z Z Z Qt ?_|refine Zr Z Z Z Qt ?_|refine Zj Z Qt Z Z ?_|refine Zi Z Qt Z Z ?_|refine ZO Za Z Z Z Z Z Z Z Z Z Z Z Z ?_)
  all_goals exact Qe
 | true=>
 cases t3:decide (sum<=2) with
 | false=>
  refine AP.ofA (Zl Tryz.func178 Z Tryz.ntmps178 Z Z ?_)
  repeat'(first|(apply Zb (hW);kernel_rfl;(iterate 4 exact Z))|(apply Zg Za;exact Z)|(apply Zh Za;exact Z)|refine Zd Z Z Z Qt ?_|refine Zr Z Z Z Qt ?_|refine Zj Z Qt Z Z ?_|refine Zi Z Qt Z Z ?_|refine ZO Za Z Z Z Z Z Z Z Z Z Z Z Z ?_)
  all_goals exact Qe
 | true=>
  refine AP.ofA (Zl Tryz.func178 Z Tryz.ntmps178 Z Z ?_)
  repeat'(first|(apply Zb (hW);kernel_rfl;(iterate 4 exact Z))|(apply Zb (hD);kernel_rfl;(iterate 4 exact Z))|(apply Zg Za;exact Z)|(apply Zh Za;exact Z)|refine Zd Z Z Z Qt ?_|refine Zj Z Qt Z Z ?_|refine ZO Za Z Z Z Z Z Z Z Z Z Z Z Z ?_)
  all_goals exact Qe

def Uf (b:BlkV):List It:=[.mk 0 b.ty [] [],.mk 0 b.num [] [],.mk 0 b.fl [] [],.mk 0 b.sum.toNat [] [],.mk 2 0 b.data []]
def YL (b:BlkV):It × Int:=match YW b with
 | true=>VX (Uf b) 3
 | false=>(z0,3)
theorem JF {b:BlkV}(h:YW b=true):b.ty<=255/\b.num<=255/\0<=b.sum/\b.sum<=2/\OA b.ty b.data=true:=by
 unfold YW Q7 at h
 simp only[Bool.and_eq_true,Bool.not_eq_true',Bool.or_eq_false_iff,decide_eq_true_eq,decide_eq_false_iff_not]at h
 obtain⟨⟨⟨h1,h2⟩,h3,h4⟩,_,h5,h6,h7⟩:=h
 exact⟨by omega,by omega,h5,h6,h7⟩
theorem Rq {b:BlkV}(h:YW b=true)(hfl:b.fl<18446744073709551616)(hd:b.data.length<=3000):wfs (Uf b):=by
 obtain⟨h1,h2,h3,h4,_⟩:=JF h
 simp[Uf,wfs,wfI]
 omega
theorem BB {b:BlkV}(h:YW b=true)(hfl:b.fl<18446744073709551616)(hd:b.data.length<=3000)(s:Nat)(hs:s=1\/s=2):(ZU (Yh s (Uf b))).length<=1000000000:=by
 obtain⟨h1,h2,h3,h4,_⟩:=JF h
 have h9:¬ 3000<b.data.length:=by omega
 have hg:Y3 (Yh s (Uf b)) 1 300=293:=by
  rcases hs with rfl|rfl<;>simp[Yh,Uf,Y3,WH,h9]
 have hn:nI (Yh s (Uf b)):=by
  simp[Yh,Uf,nI,nIs]
  omega
 have:=(IZ _ 1 300 (by omega) (by omega) hn).2.1
 omega
theorem OC [Known][KnownU8](b:BlkV)(hfl:b.fl<18446744073709551616)(hd:b.data.length<=3000):AP Tryz.prog 177 [.agg (bkC b)] (JC (YL b)) []:=by
 have hR:=OB b (by omega)
 unfold YL
 cases hr:YW b with
 | false=>
  rw[hr]at hR
  obtain⟨ty,num,fl,sum,data⟩:=b
  dsimp only[z0]at *
  refine AP.ofA (Zl Tryz.func177 Z Tryz.ntmps177 Z Z ?_)
  repeat'(first|(apply Zb (hR);kernel_rfl;(iterate 4 exact Z))|(apply Zg Za;exact Z)|(apply Zh Za;exact Z)|(apply Zs Za;exact Z)|refine Ze Z Qt ?_)
  all_goals exact Qe
 | true=>
  rw[hr]at hR
  obtain⟨h1,h2,h3,h4,_⟩:=JF hr
  have hS:=H9 (Uf b) 3 (Rq hr hfl hd) (by simp[Uf]) (BB hr hfl hd)
  dsimp only
  generalize VX (Uf b) 3=r at *
  obtain⟨ty,num,fl,sum,data⟩:=b
  obtain⟨⟨k,n,bb,l⟩,e⟩:=r
  dsimp only at h1 h2 h3 h4 hd hfl
  have hN:=Gg ty num fl sum.toNat
  have hB:=Jy data (by omega)
  have es:IntKind.u64.wrap sum=((sum.toNat:Nat):Int):=by rw[IntWalk.u64_in _ (by omega)];omega
  replace hS:AP Tryz.prog 217 [.sl .ext [nmE ty,nmE num,nmE fl,nmE sum.toNat,.agg [.int .i64 2,.int .u64 0,.sl (data.map E.byte),.sl []]],.int .i64 3] (JC (.mk k n bb l,e)) []:=hS
  have hu4:Uni 4 [nmE ty,nmE num,nmE fl,nmE sum.toNat]:=Uni.map (f:=nmE) (fun _=>rfl) [ty,num,fl,sum.toNat]
  refine AP.ofA (Zl Tryz.func177 Z Tryz.ntmps177 Z Z ?_)
  repeat'(first|(apply Zb (hR);kernel_rfl;(iterate 4 exact Z))|rw[es]|(apply Zx [] [] (hN);kernel_rfl;(iterate 10 exact Z))|(apply Zb (hB);kernel_rfl;(iterate 4 exact Z))|(apply Zb (hS);kernel_rfl;(iterate 4 exact Z))|refine UI Za Z Z Z Z Z Z Z Z Z Z Z (Zk rfl) (Zk rfl) (List.cons_ne_nil _ _) Qd Qd Z Z ?_|(apply Zg Za;exact Z)|(apply Zh Za;exact Z)|(apply Zs Za;exact Z)|refine Zf Z Qt ?_|refine ZO Za Z Z Z Z Z Z Z Z Z Z Z Z ?_)
  all_goals exact Qe
def bk0:BlkV:=⟨0,0,0,0,[]⟩
abbrev BC (r:BlkV × Int):D:=.tup [.agg (bkC r.1),.int .i64 r.2]
abbrev Mp (n m:Nat):It:=.mk 4 0 [] [.mk 0 n [] [],.mk 0 m [] []]
def Tf (x:It)(o:List It × Int):BlkV × Int:=match o.2 != 0 with
 | true=>(bk0,o.2)
 | false=>match o.1 with
  | [.mk k0 n0 b0 l0,.mk k1 n1 b1 l1,.mk k2 n2 b2 l2,.mk k3 n3 b3 l3,.mk k4 n4 b4 l4]=>(match k4 != 2 with
   | true=>(bk0,3)
   | false=>match(YL ⟨n0,n1,n2,IntKind.i64.wrap (n3:Int),b4⟩).2 != 0 with
    | true=>(bk0,3)
    | false=>match It.beq (YL ⟨n0,n1,n2,IntKind.i64.wrap (n3:Int),b4⟩).1 x with
     | false=>(bk0,3)
     | true=>(⟨n0,n1,n2,IntKind.i64.wrap (n3:Int),b4⟩,0))
  | _=>(bk0,3)
def VB (x:It):BlkV × Int:=Tf x (Qm x 3)
theorem Qo (x:It)(a:Int):∀ y ∈ (Qm x a).1,y ∈ x.l:=by
 obtain⟨k,n,b,l⟩:=x
 unfold Qm
 dsimp only[It.l]
 have hs:∀(m:Nat) (y:It),y ∈ l.take m->y ∈ l:=fun m y h=>List.mem_of_mem_take h
 repeat' split
 all_goals first|exact hs _|(intro y h;exact h)|(intro y h;exact absurd h (by simp))
theorem Mq:wfI z0:=⟨by decide,by simp,by simp,trivial⟩
theorem LR (s:Nat){l:List It}(hws:wfs l)(hl:l.length<=1000000):wfI (Ia s l):=by
 refine⟨by decide,by simp,by simp;omega,XA hws ⟨⟨by decide,?_,by simp,trivial⟩,trivial⟩⟩
 have:(U2 s (ZU (Yh s l))).length<=4:=by
  unfold U2
  split<;>simp
 omega
theorem Tg {l:List It}(a:Int)(hws:wfs l)(hl:l.length<=1000000):wfI (VX l a).1:=by
 unfold VX
 have h0:wfI (.mk 4 0 [] l):=⟨by decide,by simp,by omega,hws⟩
 repeat' split
 all_goals first|exact Mq|exact h0|exact LR _ hws hl
theorem Gn {b:BlkV}(hfl:b.fl<18446744073709551616)(hd:b.data.length<=3000):wfI (YL b).1:=by
 unfold YL
 cases h:YW b with
 | false=>exact Mq
 | true=>exact Tg 3 (Rq h hfl hd) (by simp[Uf])
theorem Dk [Known][KnownU8](k:Int)(n:Nat)(b:List UInt8)(xl:List E)(L:List E)(e:Int)
  (hO:AP Tryz.prog 171 [.agg [.int .i64 k,.int .u64 (n:Int),byE b,.sl .ext xl],.int .i64 3] (.tup [.sl .ext L,.int .i64 e]) []) (t1:(e != 0)=true) :
  AP Tryz.prog 148 [.agg [.int .i64 k,.int .u64 (n:Int),byE b,.sl .ext xl]] (.tup [.agg [.int .u64 0,.int .u64 0,.int .u64 0,.int .i64 0,.sl .ext []],.int .i64 e]) []:=by
 refine AP.ofA (Zl Tryz.func148 Z Tryz.ntmps148 Z Z ?_)
 repeat'(first|(apply Zb (hO);kernel_rfl;(iterate 4 exact Z))|(apply Zg Za;exact Z)|(apply Zh Za;exact Z)|(apply Zs Za;exact Z)|refine Ze Z Qt ?_)
 all_goals exact Qe
theorem Dl [Known][KnownU8](k:Int)(n:Nat)(b:List UInt8)(xl:List E)(L:List E)(e:Int)
  (hO:AP Tryz.prog 171 [.agg [.int .i64 k,.int .u64 (n:Int),byE b,.sl .ext xl],.int .i64 3] (.tup [.sl .ext L,.int .i64 e]) []) (t1:(e != 0)=false) (t2:((L.length:Int) != 5)=true) :
  AP Tryz.prog 148 [.agg [.int .i64 k,.int .u64 (n:Int),byE b,.sl .ext xl]] (.tup [.agg [.int .u64 0,.int .u64 0,.int .u64 0,.int .i64 0,.sl .ext []],.int .i64 3]) []:=by
 refine AP.ofA (Zl Tryz.func148 Z Tryz.ntmps148 Z Z ?_)
 repeat'(first|(apply Zb (hO);kernel_rfl;(iterate 4 exact Z))|(apply Zg Za;exact Z)|(apply Zh Za;exact Z)|(apply Zs Za;exact Z)|refine Zo Z Z Z Qt ?_|refine Zj Z Qt Z Z ?_|refine Ze Z Qt ?_|refine Zf Z Qt ?_|refine Zn Za Z Z Z Z ?_)
 all_goals exact Qe
theorem Dm [Known][KnownU8](k:Int)(n:Nat)(b:List UInt8)(xl:List E)(L:List E)(e:Int)(k4:Int)(n4:Nat)(b4:List UInt8)(l4:List It)
  (hO:AP Tryz.prog 171 [.agg [.int .i64 k,.int .u64 (n:Int),byE b,.sl .ext xl],.int .i64 3] (.tup [.sl .ext L,.int .i64 e]) []) (t1:(e != 0)=false) (t2:((L.length:Int) != 5)=false) (hU:Uni 4 L) (hv4:L[(4:Int).toNat]?=some (.agg [.int .i64 k4,.int .u64 (n4:Int),.sl (b4.map E.byte),.sl (Zu l4)])) (t3:(k4 != 2)=true) :
  AP Tryz.prog 148 [.agg [.int .i64 k,.int .u64 (n:Int),byE b,.sl .ext xl]] (.tup [.agg [.int .u64 0,.int .u64 0,.int .u64 0,.int .i64 0,.sl .ext []],.int .i64 3]) []:=by
 refine AP.ofA (Zl Tryz.func148 Z Tryz.ntmps148 Z Z ?_)
 repeat'(first|(apply Zb (hO);kernel_rfl;(iterate 4 exact Z))|(apply Zg Za;exact Z)|(apply Zh Za;exact Z)|(apply Zs Za;exact Z)|refine Zd Z Z Z Qt ?_|refine Zi Z Qt Z Z ?_|refine Ze Z Qt ?_|refine Zf Z Qt ?_|refine Zn Za Z Z Z Z ?_|(apply Zw Za;(iterate 6 exact Z);(first|exact Qt|rotate_left);(first|with_reducible assumption|decide +kernel|exact Z);(first|exact Zk rfl|with_reducible assumption|decide +kernel|rotate_left)))
 all_goals exact Qe
theorem Dn [Known][KnownU8](k:Int)(n:Nat)(b:List UInt8)(xl:List E)(L:List E)(e:Int)(k0:Int)(n0:Nat)(b0:List UInt8)(l0:List It)(k1:Int)(n1:Nat)(b1:List UInt8)(l1:List It)(k2:Int)(n2:Nat)(b2:List UInt8)(l2:List It)(k3:Int)(n3:Nat)(b3:List UInt8)(l3:List It)(k4:Int)(n4:Nat)(b4:List UInt8)(l4:List It)(wk:Int)(wn:Nat)(wb:List UInt8)(wl:List E)(we:Int)
  (hO:AP Tryz.prog 171 [.agg [.int .i64 k,.int .u64 (n:Int),byE b,.sl .ext xl],.int .i64 3] (.tup [.sl .ext L,.int .i64 e]) []) (t1:(e != 0)=false) (t2:((L.length:Int) != 5)=false) (hU:Uni 4 L) (hv0:L[(0:Int).toNat]?=some (.agg [.int .i64 k0,.int .u64 (n0:Int),.sl (b0.map E.byte),.sl (Zu l0)])) (hv1:L[(1:Int).toNat]?=some (.agg [.int .i64 k1,.int .u64 (n1:Int),.sl (b1.map E.byte),.sl (Zu l1)])) (hv2:L[(2:Int).toNat]?=some (.agg [.int .i64 k2,.int .u64 (n2:Int),.sl (b2.map E.byte),.sl (Zu l2)])) (hv3:L[(3:Int).toNat]?=some (.agg [.int .i64 k3,.int .u64 (n3:Int),.sl (b3.map E.byte),.sl (Zu l3)])) (hv4:L[(4:Int).toNat]?=some (.agg [.int .i64 k4,.int .u64 (n4:Int),.sl (b4.map E.byte),.sl (Zu l4)])) (t3:(k4 != 2)=false)
  (hC:AP Tryz.prog 92 [.sl .ext (b4.map E.byte)] (.sl .ext (b4.map E.byte)) []) (hW:AP Tryz.prog 177 [.agg [.int .u64 (n0:Int),.int .u64 (n1:Int),.int .u64 (n2:Int),.int .i64 (IntKind.i64.wrap (n3:Int)),.sl .ext (b4.map E.byte)]] (.tup [.agg [.int .i64 wk,.int .u64 (wn:Int),byE wb,.sl .ext wl],.int .i64 we]) []) (t4:(we != 0)=true) :
  AP Tryz.prog 148 [.agg [.int .i64 k,.int .u64 (n:Int),byE b,.sl .ext xl]] (.tup [.agg [.int .u64 0,.int .u64 0,.int .u64 0,.int .i64 0,.sl .ext []],.int .i64 3]) []:=by
 refine AP.ofA (Zl Tryz.func148 Z Tryz.ntmps148 Z Z ?_)
 repeat'(first|(apply Zb (hO);kernel_rfl;(iterate 4 exact Z))|(apply Zb (hC);kernel_rfl;(iterate 4 exact Z))|(apply Zb (hW);kernel_rfl;(iterate 4 exact Z))|(apply Zg Za;exact Z)|(apply Zh Za;exact Z)|(apply Zs Za;exact Z)|refine Zd Z Z Z Qt ?_|refine Zo Z Z Z Qt ?_|refine Zj Z Qt Z Z ?_|refine Zi Z Qt Z Z ?_|refine Ze Z Qt ?_|refine Zf Z Qt ?_|refine Zn Za Z Z Z Z ?_|(apply Zm 24 ZG;decide +kernel;kernel_rfl;kernel_rfl;kernel_rfl;exact Z;exact Z)|(apply Zq;(iterate 4 exact Z))|exact AE.nil _ _ _ _|(apply Zv;exact Z)|(apply Yj;exact Z)|(apply ZA;exact Z;exact Z;decide +kernel;exact Z)|(apply ZB;exact Z)|(apply Yr;exact Z)|exact AO.nil _ _ _|(apply Zp;(decide +kernel))|(apply ZZ;(iterate 3 exact Z))|exact AOs.nil|exact ZJ rfl rfl|exact Y2 rfl rfl|(apply Zw Za;(iterate 6 exact Z);(first|exact Qt|rotate_left);(first|with_reducible assumption|decide +kernel|exact Z);(first|exact Zk rfl|with_reducible assumption|decide +kernel|rotate_left)))
 all_goals exact Qe
theorem Dp [Known][KnownU8](k:Int)(n:Nat)(b:List UInt8)(xl:List E)(L:List E)(e:Int)(k0:Int)(n0:Nat)(b0:List UInt8)(l0:List It)(k1:Int)(n1:Nat)(b1:List UInt8)(l1:List It)(k2:Int)(n2:Nat)(b2:List UInt8)(l2:List It)(k3:Int)(n3:Nat)(b3:List UInt8)(l3:List It)(k4:Int)(n4:Nat)(b4:List UInt8)(l4:List It)(wk:Int)(wn:Nat)(wb:List UInt8)(wl:List E)(we:Int)
  (hO:AP Tryz.prog 171 [.agg [.int .i64 k,.int .u64 (n:Int),byE b,.sl .ext xl],.int .i64 3] (.tup [.sl .ext L,.int .i64 e]) []) (t1:(e != 0)=false) (t2:((L.length:Int) != 5)=false) (hU:Uni 4 L) (hv0:L[(0:Int).toNat]?=some (.agg [.int .i64 k0,.int .u64 (n0:Int),.sl (b0.map E.byte),.sl (Zu l0)])) (hv1:L[(1:Int).toNat]?=some (.agg [.int .i64 k1,.int .u64 (n1:Int),.sl (b1.map E.byte),.sl (Zu l1)])) (hv2:L[(2:Int).toNat]?=some (.agg [.int .i64 k2,.int .u64 (n2:Int),.sl (b2.map E.byte),.sl (Zu l2)])) (hv3:L[(3:Int).toNat]?=some (.agg [.int .i64 k3,.int .u64 (n3:Int),.sl (b3.map E.byte),.sl (Zu l3)])) (hv4:L[(4:Int).toNat]?=some (.agg [.int .i64 k4,.int .u64 (n4:Int),.sl (b4.map E.byte),.sl (Zu l4)])) (t3:(k4 != 2)=false)
  (hC:AP Tryz.prog 92 [.sl .ext (b4.map E.byte)] (.sl .ext (b4.map E.byte)) []) (hW:AP Tryz.prog 177 [.agg [.int .u64 (n0:Int),.int .u64 (n1:Int),.int .u64 (n2:Int),.int .i64 (IntKind.i64.wrap (n3:Int)),.sl .ext (b4.map E.byte)]] (.tup [.agg [.int .i64 wk,.int .u64 (wn:Int),byE wb,.sl .ext wl],.int .i64 we]) []) (hS:AP Tryz.prog 176 [.agg [.int .i64 wk,.int .u64 (wn:Int),byE wb,.sl .ext wl],.agg [.int .i64 k,.int .u64 (n:Int),byE b,.sl .ext xl]] (.bool false) []) (t4:(we != 0)=false) :
  AP Tryz.prog 148 [.agg [.int .i64 k,.int .u64 (n:Int),byE b,.sl .ext xl]] (.tup [.agg [.int .u64 0,.int .u64 0,.int .u64 0,.int .i64 0,.sl .ext []],.int .i64 3]) []:=by
 refine AP.ofA (Zl Tryz.func148 Z Tryz.ntmps148 Z Z ?_)
 repeat'(first|(apply Zb (hO);kernel_rfl;(iterate 4 exact Z))|(apply Zb (hC);kernel_rfl;(iterate 4 exact Z))|(apply Zb (hW);kernel_rfl;(iterate 4 exact Z))|(apply Zb (hS);kernel_rfl;(iterate 4 exact Z))|(apply Zg Za;exact Z)|(apply Zh Za;exact Z)|(apply Zs Za;exact Z)|refine Zd Z Z Z Qt ?_|refine Zi Z Qt Z Z ?_|refine Ze Z Qt ?_|refine Zf Z Qt ?_|refine Zn Za Z Z Z Z ?_|(apply Zm 24 ZG;decide +kernel;kernel_rfl;kernel_rfl;kernel_rfl;exact Z;exact Z)|(apply Zq;(iterate 4 exact Z))|exact AE.nil _ _ _ _|(apply Zv;exact Z)|(apply Yj;exact Z)|(apply ZA;exact Z;exact Z;decide +kernel;exact Z)|(apply ZB;exact Z)|(apply Yr;exact Z)|exact AO.nil _ _ _|(apply Zp;(decide +kernel))|(apply ZZ;(iterate 3 exact Z))|exact AOs.nil|exact ZJ rfl rfl|exact Y2 rfl rfl|(apply Zw Za;(iterate 6 exact Z);(first|exact Qt|rotate_left);(first|with_reducible assumption|decide +kernel|exact Z);(first|exact Zk rfl|with_reducible assumption|decide +kernel|rotate_left)))
 all_goals exact Qe
theorem Dq [Known][KnownU8](k:Int)(n:Nat)(b:List UInt8)(xl:List E)(L:List E)(e:Int)(k0:Int)(n0:Nat)(b0:List UInt8)(l0:List It)(k1:Int)(n1:Nat)(b1:List UInt8)(l1:List It)(k2:Int)(n2:Nat)(b2:List UInt8)(l2:List It)(k3:Int)(n3:Nat)(b3:List UInt8)(l3:List It)(k4:Int)(n4:Nat)(b4:List UInt8)(l4:List It)(wk:Int)(wn:Nat)(wb:List UInt8)(wl:List E)(we:Int)
  (hO:AP Tryz.prog 171 [.agg [.int .i64 k,.int .u64 (n:Int),byE b,.sl .ext xl],.int .i64 3] (.tup [.sl .ext L,.int .i64 e]) []) (t1:(e != 0)=false) (t2:((L.length:Int) != 5)=false) (hU:Uni 4 L) (hv0:L[(0:Int).toNat]?=some (.agg [.int .i64 k0,.int .u64 (n0:Int),.sl (b0.map E.byte),.sl (Zu l0)])) (hv1:L[(1:Int).toNat]?=some (.agg [.int .i64 k1,.int .u64 (n1:Int),.sl (b1.map E.byte),.sl (Zu l1)])) (hv2:L[(2:Int).toNat]?=some (.agg [.int .i64 k2,.int .u64 (n2:Int),.sl (b2.map E.byte),.sl (Zu l2)])) (hv3:L[(3:Int).toNat]?=some (.agg [.int .i64 k3,.int .u64 (n3:Int),.sl (b3.map E.byte),.sl (Zu l3)])) (hv4:L[(4:Int).toNat]?=some (.agg [.int .i64 k4,.int .u64 (n4:Int),.sl (b4.map E.byte),.sl (Zu l4)])) (t3:(k4 != 2)=false)
  (hC:AP Tryz.prog 92 [.sl .ext (b4.map E.byte)] (.sl .ext (b4.map E.byte)) []) (hW:AP Tryz.prog 177 [.agg [.int .u64 (n0:Int),.int .u64 (n1:Int),.int .u64 (n2:Int),.int .i64 (IntKind.i64.wrap (n3:Int)),.sl .ext (b4.map E.byte)]] (.tup [.agg [.int .i64 wk,.int .u64 (wn:Int),byE wb,.sl .ext wl],.int .i64 we]) []) (hS:AP Tryz.prog 176 [.agg [.int .i64 wk,.int .u64 (wn:Int),byE wb,.sl .ext wl],.agg [.int .i64 k,.int .u64 (n:Int),byE b,.sl .ext xl]] (.bool true) []) (t4:(we != 0)=false) :
  AP Tryz.prog 148 [.agg [.int .i64 k,.int .u64 (n:Int),byE b,.sl .ext xl]] (.tup [.agg [.int .u64 (n0:Int),.int .u64 (n1:Int),.int .u64 (n2:Int),.int .i64 (IntKind.i64.wrap (n3:Int)),.sl .ext (b4.map E.byte)],.int .i64 0]) []:=by
 refine AP.ofA (Zl Tryz.func148 Z Tryz.ntmps148 Z Z ?_)
 repeat'(first|(apply Zb (hO);kernel_rfl;(iterate 4 exact Z))|(apply Zb (hC);kernel_rfl;(iterate 4 exact Z))|(apply Zb (hW);kernel_rfl;(iterate 4 exact Z))|(apply Zb (hS);kernel_rfl;(iterate 4 exact Z))|(apply Zg Za;exact Z)|(apply Zh Za;exact Z)|(apply Zs Za;exact Z)|refine Zd Z Z Z Qt ?_|refine Zi Z Qt Z Z ?_|refine Zf Z Qt ?_|refine Zn Za Z Z Z Z ?_|(apply Zm 24 ZG;decide +kernel;kernel_rfl;kernel_rfl;kernel_rfl;exact Z;exact Z)|(apply Zq;(iterate 4 exact Z))|exact AE.nil _ _ _ _|(apply Zv;exact Z)|(apply Yj;exact Z)|(apply ZA;exact Z;exact Z;decide +kernel;exact Z)|(apply ZB;exact Z)|(apply Yr;exact Z)|exact AO.nil _ _ _|(apply Zp;(decide +kernel))|(apply ZZ;(iterate 3 exact Z))|exact AOs.nil|exact ZJ rfl rfl|exact Y2 rfl rfl|(apply Zw Za;(iterate 6 exact Z);(first|exact Qt|rotate_left);(first|with_reducible assumption|decide +kernel|exact Z);(first|exact Zk rfl|with_reducible assumption|decide +kernel|rotate_left)))
 all_goals exact Qe
theorem Mr [Known][KnownU8](x:It)(hw:wfI x)(hxl:x.l.length<=1000000)(hlim:∀ s m,s=1\/s=2->(ZU (Yh s (x.l.take m))).length<=1000000000)(hb:∀ y ∈ x.l,y.b.length<=3000):AP Tryz.prog 148 [itD x] (BC (VB x)) []:=by
 have hO:=Ta x 3 hw hxl hlim
 have hsub:=Qo x 3
 have hws:wfs x.l:=by obtain⟨k,n,b,l⟩:=x;exact hw.2.2.2
 unfold VB
 generalize Qm x 3=o at *
 obtain⟨ol,oe⟩:=o
 have hlen:=Zz ol
 have hUo:=Y4 ol
 dsimp only at hsub
 have hSame:=fun(B:BlkV) (h1:B.fl<18446744073709551616) (h2:B.data.length<=3000)=>Ub (YL B).1 (Gn h1 h2) x hw
 obtain⟨k,n,b,l⟩:=x
 dsimp only[It.l]at *
 unfold Tf
 dsimp only
 replace hO:AP Tryz.prog 171 [.agg [.int .i64 k,.int .u64 (n:Int),byE b,.sl .ext (Zu l)],.int .i64 3] (.tup [.sl .ext (Zu ol),.int .i64 oe]) []:=hO
 cases t1:(oe != 0) with
 | true=>exact Dk k n b _ _ oe hO t1
 | false=>
 have hno:ol.length ≠ 5->AP Tryz.prog 148 [itD (.mk k n b l)] (BC (bk0,3)) []:=fun h=>Dl k n b _ _ oe hO t1 (by rw[hlen];simp;omega)
 match ol,hO,hsub,hlen,hUo,hno with
 | [],_,_,_,_,h=>exact h (by simp)
 | [.mk _ _ _ _],_,_,_,_,h=>exact h (by simp)
 | [.mk _ _ _ _,.mk _ _ _ _],_,_,_,_,h=>exact h (by simp)
 | [.mk _ _ _ _,.mk _ _ _ _,.mk _ _ _ _],_,_,_,_,h=>exact h (by simp)
 | [.mk _ _ _ _,.mk _ _ _ _,.mk _ _ _ _,.mk _ _ _ _],_,_,_,_,h=>exact h (by simp)
 | .mk _ _ _ _::.mk _ _ _ _::.mk _ _ _ _::.mk _ _ _ _::.mk _ _ _ _::_::_,_,_,_,_,h=>exact h (by simp)
 | [.mk k0 n0 b0 l0,.mk k1 n1 b1 l1,.mk k2 n2 b2 l2,.mk k3 n3 b3 l3,.mk k4 n4 b4 l4],hO,hsub,hlen,hUo,_=>
 have t2:(((Zu [It.mk k0 n0 b0 l0,.mk k1 n1 b1 l1,.mk k2 n2 b2 l2,.mk k3 n3 b3 l3,.mk k4 n4 b4 l4]).length:Int) != 5)=false:=by rw[hlen];rfl
 dsimp only
 cases t3:(k4 != 2) with
 | true=>exact Dm k n b _ _ oe k4 n4 b4 l4 hO t1 t2 hUo rfl t3
 | false=>
 have hw2:n2<18446744073709551616:=(YD hws (.mk k2 n2 b2 l2) (hsub _ (by simp))).1
 have hb4:b4.length<=3000:=hb (.mk k4 n4 b4 l4) (hsub _ (by simp))
 have hC:=Vh b4 (by omega)
 have hW:=OC ⟨n0,n1,n2,IntKind.i64.wrap (n3:Int),b4⟩ hw2 hb4
 have hS:=hSame ⟨n0,n1,n2,IntKind.i64.wrap (n3:Int),b4⟩ hw2 hb4
 clear hSame
 dsimp only
 generalize YL ⟨n0,n1,n2,IntKind.i64.wrap (n3:Int),b4⟩=r at *
 obtain⟨⟨wk,wn,wb,wl⟩,we⟩:=r
 dsimp only at *
 cases t4:(we != 0) with
 | true=>exact Dn k n b _ _ oe k0 n0 b0 l0 k1 n1 b1 l1 k2 n2 b2 l2 k3 n3 b3 l3 k4 n4 b4 l4 wk wn wb _ we hO t1 t2 hUo rfl rfl rfl rfl rfl t3 hC hW t4
 | false=>
 dsimp only
 cases t5:It.beq (.mk wk wn wb wl) (.mk k n b l) with
 | false=>
  rw[t5]at hS
  exact Dp k n b _ _ oe k0 n0 b0 l0 k1 n1 b1 l1 k2 n2 b2 l2 k3 n3 b3 l3 k4 n4 b4 l4 wk wn wb _ we hO t1 t2 hUo rfl rfl rfl rfl rfl t3 hC hW hS t4
 | true=>
  rw[t5]at hS
  exact Dq k n b _ _ oe k0 n0 b0 l0 k1 n1 b1 l1 k2 n2 b2 l2 k3 n3 b3 l3 k4 n4 b4 l4 wk wn wb _ we hO t1 t2 hUo rfl rfl rfl rfl rfl t3 hC hW hS t4
def Qp (x:EidV):List UInt8:=[47,47]++x.h++[47]++x.d
theorem Ku {x:EidV}(h:Ys x=true)(hz:isZ x=false)(hi:x.i=true):x.n<=4294967295/\x.s<=4294967295/\x.h=[]/\x.d=[]/\1<=x.n:=by
 rw[IM hz hi]at h
 simp only[Bool.and_eq_true,decide_eq_true_eq,beq_iff_eq]at h
 obtain⟨⟨⟨⟨_,_,_,h1,h2,_⟩,h3⟩,h4⟩,h5⟩:=h
 exact⟨by omega,by omega,h1,h2,by omega⟩
theorem Q8 {x:EidV}(h:Ys x=true)(hz:isZ x=false)(hi:x.i=false):x.n=0/\x.s=0/\1<=x.h.length/\x.h.length<=16/\x.d.length<=24/\x.h.all (okB 45)=true/\x.d.all (okB 47)=true:=by
 rw[IN hz hi]at h
 simp only[Bool.and_eq_true,decide_eq_true_eq,beq_iff_eq]at h
 obtain⟨⟨⟨⟨⟨⟨_,h1,h2,_⟩,h3⟩,h4⟩,h5⟩,h6⟩,h7⟩:=h
 exact⟨by omega,by omega,by omega,by omega,by omega,h6,h7⟩
theorem LS [Known](x:EidV)(h1:x.h.length<=16)(h2:x.d.length<=24):AP Tryz.prog 142 [.agg (eC x)] (.str (Qp x)) []:=by
 have l1:[(47:UInt8),47].length+x.h.length<=maxLen:=by simp;unfold maxLen;omega
 have l2:([(47:UInt8),47]++x.h).length + [(47:UInt8)].length<=maxLen:=by simp;unfold maxLen;omega
 have l3:([(47:UInt8),47]++x.h++[47]).length+x.d.length<=maxLen:=by simp;unfold maxLen;omega
 refine AP.ofA (Zl Tryz.func142 Z Tryz.ntmps142 Z Z ?_)
 repeat'(first|(apply RM;exact Z;exact Z;(first|exact l1|exact l2|exact l3);exact Z)|(apply Zg Za;exact Z)|(apply Zh Za;exact Z))
 all_goals exact Qe
end Go.Proofs.YtchlgagdbflkmaaGreatDoor
end
