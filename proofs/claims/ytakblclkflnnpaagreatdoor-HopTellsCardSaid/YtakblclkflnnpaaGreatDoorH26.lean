/- Package canon: hops. -/
import Derived.Test.YtakblclkflnnpaaGreatDoorH25
import Derived.Test.YtakblclkflnnpaaGreatDoorH16
import Derived.Test.YtakblclkflnnpaaGreatDoorH21
import Derived.Test.YtakblclkflnnpaaGreatDoorH10
import Derived.Test.YtakblclkflnnpaaGreatDoorH13
set_option linter.unusedVariables false
set_option linter.unusedSimpArgs false
section
open Go.RowKit Go.Pl Go.Av
namespace Go.Proofs.YtakblclkflnnpaaGreatDoor
set_option maxHeartbeats 4000000
theorem ZtM [Known][KnownU8](d:List UInt8)(k:Int)(n:Nat)(b:List UInt8)(L:List E)(k1:Int)(n1:Nat)(b1:List UInt8)(l1:List It)(k2:Int)(n2:Nat)(b2:List UInt8)(l2:List It)(s:Bool)(N:D)
  (hI:AP Tryz.prog 156 [byE d] (.tup [.agg [.int .i64 k,.int .u64 (n:Int),byE b,.sl .ext L],.bool true]) []) (tk2:(k != 4)=false) (t2:((L.length:Int) != 2)=false) (hU:Uni 4 L)
  (hv0:L[(0:Int).toNat]?=some (.agg [.int .i64 k1,.int .u64 (n1:Int),.sl (b1.map E.byte),.sl (ZaC l1)])) (hv1:L[(1:Int).toNat]?=some (.agg [.int .i64 k2,.int .u64 (n2:Int),.sl (b2.map E.byte),.sl (ZaC l2)]))
  (hN:AP Tryz.prog 96 [.sl .ext [.int .u64 (n1:Int),.int .u64 (n2:Int)]] (.agg [.int .i64 4,.int .u64 0,.sl .ext [],.sl .ext [nmE n1,nmE n2]]) []) (hS:AP Tryz.prog 88 [.agg [.int .i64 k,.int .u64 (n:Int),byE b,.sl .ext L],.agg [.int .i64 4,.int .u64 0,.sl .ext [],.sl .ext [nmE n1,nmE n2]]] (.bool s) []) (ts:s=true) (t4:decide ((n1:Int) ≥ 1)=true) (t5:decide ((n1:Int)<=255)=false) :
  AP Tryz.prog 105 [byE d] (.tup [.int .u64 (n1:Int),.int .u64 (n2:Int),.bool false]) []:=by
 subst ts
 refine AP.ofA (Zam Tryz.func105 U Tryz.ntmps105 U U ?_)
 repeat'(first|(apply Zaa (hI);kernel_rfl;(iterate 4 exact U))|(apply Zaa (hS);kernel_rfl;(iterate 4 exact U))|(apply Zaa (hN);kernel_rfl;(iterate 4 exact U))|(apply Zai Zab;exact U)|(apply Zag Zab;exact U)|(apply Zau Zab;exact U)|refine Zae U U U Qt ?_|refine Zap U U U Qt ?_|refine Zak U Qt U U ?_|refine Zah U Qt U U ?_|refine Zaf U Qt ?_|refine Zan Zab U U U U ?_|refine ZaL Zab U U U U U U U U U U U U ?_|(apply Zao 11 ZaQ;decide +kernel;kernel_rfl;kernel_rfl;kernel_rfl;exact U;exact U)|(apply Zao 23 ZaQ;decide +kernel;kernel_rfl;kernel_rfl;kernel_rfl;exact U;exact U)|(apply Zas;(iterate 4 exact U))|exact AE.nil _ _ _ _|(apply Zaw;exact U)|(apply Zay;exact U;exact U;decide +kernel;exact U)|(apply Zaz;exact U)|exact AO.nil _ _ _|(apply Zar;(decide +kernel))|exact AOs.nil|exact ZaJ rfl rfl|exact Zdh rfl rfl rfl rfl rfl|(apply Zat Zab;(iterate 6 exact U);(first|exact Qt|rotate_left);(first|with_reducible assumption|decide +kernel|exact U);(first|exact Zaj rfl|with_reducible assumption|decide +kernel|rotate_left)))
 all_goals exact Qe
theorem ZtN [Known][KnownU8](d:List UInt8)(k:Int)(n:Nat)(b:List UInt8)(L:List E)(k1:Int)(n1:Nat)(b1:List UInt8)(l1:List It)(k2:Int)(n2:Nat)(b2:List UInt8)(l2:List It)(s:Bool)(N:D)
  (hI:AP Tryz.prog 156 [byE d] (.tup [.agg [.int .i64 k,.int .u64 (n:Int),byE b,.sl .ext L],.bool true]) []) (tk2:(k != 4)=false) (t2:((L.length:Int) != 2)=false) (hU:Uni 4 L)
  (hv0:L[(0:Int).toNat]?=some (.agg [.int .i64 k1,.int .u64 (n1:Int),.sl (b1.map E.byte),.sl (ZaC l1)])) (hv1:L[(1:Int).toNat]?=some (.agg [.int .i64 k2,.int .u64 (n2:Int),.sl (b2.map E.byte),.sl (ZaC l2)]))
  (hN:AP Tryz.prog 96 [.sl .ext [.int .u64 (n1:Int),.int .u64 (n2:Int)]] (.agg [.int .i64 4,.int .u64 0,.sl .ext [],.sl .ext [nmE n1,nmE n2]]) []) (hS:AP Tryz.prog 88 [.agg [.int .i64 k,.int .u64 (n:Int),byE b,.sl .ext L],.agg [.int .i64 4,.int .u64 0,.sl .ext [],.sl .ext [nmE n1,nmE n2]]] (.bool s) []) (ts:s=true) (t4:decide ((n1:Int) ≥ 1)=true) (t5:decide ((n1:Int)<=255)=true) :
  AP Tryz.prog 105 [byE d] (.tup [.int .u64 (n1:Int),.int .u64 (n2:Int),.bool (decide ((n2:Int)<=(n1:Int)))]) []:=by
 subst ts
 refine AP.ofA (Zam Tryz.func105 U Tryz.ntmps105 U U ?_)
 repeat'(first|(apply Zaa (hI);kernel_rfl;(iterate 4 exact U))|(apply Zaa (hS);kernel_rfl;(iterate 4 exact U))|(apply Zaa (hN);kernel_rfl;(iterate 4 exact U))|(apply Zai Zab;exact U)|(apply Zag Zab;exact U)|(apply Zau Zab;exact U)|refine Zae U U U Qt ?_|refine Zak U Qt U U ?_|refine Zah U Qt U U ?_|refine Zaf U Qt ?_|refine Zan Zab U U U U ?_|refine ZaL Zab U U U U U U U U U U U U ?_|(apply Zao 11 ZaQ;decide +kernel;kernel_rfl;kernel_rfl;kernel_rfl;exact U;exact U)|(apply Zao 23 ZaQ;decide +kernel;kernel_rfl;kernel_rfl;kernel_rfl;exact U;exact U)|(apply Zas;(iterate 4 exact U))|exact AE.nil _ _ _ _|(apply Zaw;exact U)|(apply Zay;exact U;exact U;decide +kernel;exact U)|(apply Zaz;exact U)|exact AO.nil _ _ _|(apply Zar;(decide +kernel))|exact AOs.nil|exact ZaJ rfl rfl|exact Zdh rfl rfl rfl rfl rfl|(apply Zat Zab;(iterate 6 exact U);(first|exact Qt|rotate_left);(first|with_reducible assumption|decide +kernel|exact U);(first|exact Zaj rfl|with_reducible assumption|decide +kernel|rotate_left)))
 all_goals exact Qe
theorem Zni [Known][KnownU8](d:List UInt8)(hd:d.length<=100000):AP Tryz.prog 105 [byE d] (.tup [.int .u64 ((Zdk d).1:Int),.int .u64 ((Zdk d).2.1:Int),.bool (Zdk d).2.2]) []:=by
 have hI:=ZjC d hd
 have hw:=Zo5 d hd
 unfold Zdk
 generalize (Zbu d 0).1=x at *
 obtain⟨k,n,b,l⟩:=x
 cases hs:Zcw d with
 | false=>
  rw[hs]at hI
  exact ZtI d k n b l hI
 | true=>
 rw[hs]at hI
 unfold ZiK
 dsimp only
 cases tk:(k==4) with
 | false=>exact ZtJ d k n b l hI tk
 | true=>
 have tk2:(k != 4)=false:=by rw[bne,tk];rfl
 match l,hI,hw with
 | [],hI,_=>exact Zs4 d k n b _ hI tk (by simp)
 | [.mk _ _ _ _],hI,_=>exact Zs4 d k n b _ hI tk (by simp)
 | .mk _ _ _ _::.mk _ _ _ _::_::_,hI,_=>exact Zs4 d k n b _ hI tk (by simp)
 | [.mk k1 n1 b1 l1,.mk k2 n2 b2 l2],hI,hw=>
 have t2:(((ZaC [It.mk k1 n1 b1 l1,.mk k2 n2 b2 l2]).length:Int) != 2)=false:=by rw[Zaq];rfl
 have hU:=ZcF [It.mk k1 n1 b1 l1,.mk k2 n2 b2 l2]
 have hws:=hw.2.2.2
 have hS:=ZhH _ hw (.mk 4 0 [] [.mk 0 n1 [] [],.mk 0 n2 [] []]) ⟨by decide,by simp,by simp,⟨hws.1.1,by simp,by simp,trivial⟩,⟨hws.2.1.1,by simp,by simp,trivial⟩,trivial⟩
 have hN:=Zgr n1 n2
 dsimp only
 cases t3:It.beq (.mk k n b [.mk k1 n1 b1 l1,.mk k2 n2 b2 l2]) (.mk 4 0 [] [.mk 0 n1 [] [],.mk 0 n2 [] []]) with
 | false=>exact ZtK d k n b _ k1 n1 b1 l1 k2 n2 b2 l2 _ .junk hI tk2 t2 hU rfl rfl hN hS t3
 | true=>
 cases t4:decide ((n1:Int) ≥ 1) with
 | false=>exact ZtL d k n b _ k1 n1 b1 l1 k2 n2 b2 l2 _ .junk hI tk2 t2 hU rfl rfl hN hS t3 t4
 | true=>
 cases t5:decide ((n1:Int)<=255) with
 | false=>exact ZtM d k n b _ k1 n1 b1 l1 k2 n2 b2 l2 _ .junk hI tk2 t2 hU rfl rfl hN hS t3 t4 t5
 | true=>exact ZtN d k n b _ k1 n1 b1 l1 k2 n2 b2 l2 _ .junk hI tk2 t2 hU rfl rfl hN hS t3 t4 t5
def ZlF (kind:Nat)(d:List UInt8):Bool:=match((kind:Int)==6) with
 | true=>(ZgV d).2
 | false=>match((kind:Int)==7) with
  | true=>(Zh4 d).2
  | false=>match((kind:Int)==10) with
   | true=>(Zdk d).2.2
   | false=>true
def ZhQ (kind:Nat)(d:List UInt8):Bool:=ZlF kind d&&decide ((d.length:Int)<=200)
theorem Znj [Known][KnownU8](kind:Nat)(d:List UInt8)(hd:d.length<=100000):AP Tryz.prog 100 [.int .u64 (kind:Int),byE d] (.bool (ZhQ kind d)) []:=by
 have hP:=ZjD d hd
 have hA:=ZpS d hd
 have hH:=Zni d hd
 have hdl:(d.map E.byte).length=d.length:=List.length_map ..
 unfold ZhQ ZlF
 rw[<- hdl]
 generalize (ZgV d).1=pz at *
 obtain⟨zi,zn,zs,zh,zd⟩:=pz
 generalize (ZgV d).2=p1 at *
 generalize (Zh4 d).1=a0 at *
 generalize (Zh4 d).2=a1 at *
 generalize (Zdk d).1=h0 at *
 generalize (Zdk d).2.1=h1 at *
 generalize (Zdk d).2.2=h2 at *
 cases t1:((kind:Int)==6) with
 | true=>
  cases p1
  all_goals
   refine AP.ofA (Zam Tryz.func100 U Tryz.ntmps100 U U ?_)
   repeat'(first|(apply Zaa (hP);kernel_rfl;(iterate 4 exact U))|(apply Zai Zab;exact U)|(apply Zag Zab;exact U)|refine Zae U U U Qt ?_|refine Zap U U U Qt ?_|refine Zak U Qt U U ?_|refine Zah U Qt U U ?_|refine Zad U Qt ?_|refine Zan Zab U U U U ?_)
   all_goals exact Qe
 | false=>
 cases t2:((kind:Int)==7) with
 | true=>
  cases a1
  all_goals
   refine AP.ofA (Zam Tryz.func100 U Tryz.ntmps100 U U ?_)
   repeat'(first|(apply Zaa (hA);kernel_rfl;(iterate 4 exact U))|(apply Zai Zab;exact U)|(apply Zag Zab;exact U)|refine Zae U U U Qt ?_|refine Zap U U U Qt ?_|refine Zak U Qt U U ?_|refine Zah U Qt U U ?_|refine Zad U Qt ?_|refine Zaf U Qt ?_|refine Zan Zab U U U U ?_)
   all_goals exact Qe
 | false=>
 cases t3:((kind:Int)==10) with
 | true=>
  cases h2
  all_goals
   refine AP.ofA (Zam Tryz.func100 U Tryz.ntmps100 U U ?_)
   repeat'(first|(apply Zaa (hH);kernel_rfl;(iterate 4 exact U))|(apply Zai Zab;exact U)|(apply Zag Zab;exact U)|refine Zae U U U Qt ?_|refine Zap U U U Qt ?_|refine Zak U Qt U U ?_|refine Zah U Qt U U ?_|refine Zad U Qt ?_|refine Zaf U Qt ?_|refine Zan Zab U U U U ?_)
   all_goals exact Qe
 | false=>
  refine AP.ofA (Zam Tryz.func100 U Tryz.ntmps100 U U ?_)
  repeat'(first|(apply Zai Zab;exact U)|(apply Zag Zab;exact U)|refine Zae U U U Qt ?_|refine Zak U Qt U U ?_|refine Zaf U Qt ?_|refine Zan Zab U U U U ?_)
  all_goals exact Qe
def ZaN (b:BlkV):Bool:=!(Zjd b.ty||Zjd b.num)&&((bits .andNot .u64 (b.fl:Int) 23==0)&&(decide (b.sum ≥ 0)&&(decide (b.sum<=2)&&ZhQ b.ty b.data)))
theorem Zd2 [Known][KnownU8](b:BlkV)(hd:b.data.length<=100000):AP Tryz.prog 29 [.agg (bkC b)] (.bool (ZaN b)) []:=by
 have hW:=Zlz b.ty b.num
 have hD:=Znj b.ty b.data hd
 obtain⟨ty,num,fl,sum,data⟩:=b
 unfold ZaN
 dsimp only at hW hD ⊢
 generalize ZhQ ty data=dv at *
 cases hb1:(Zjd ty||Zjd num) with
 | true=>
  rw[hb1]at hW
  replace hW:AP Tryz.prog _ _ (.bool false) []:=hW
  refine AP.ofA (Zam Tryz.func29 U Tryz.ntmps29 U U ?_)
  repeat'(first|(apply Zaa (hW);kernel_rfl;(iterate 4 exact U))|(apply Zai Zab;exact U)|(apply Zag Zab;exact U)|refine Zap U U U Qt ?_|refine Zah U Qt U U ?_|refine ZaL Zab U U U U U U U U U U U U ?_)
  all_goals exact Qe
 | false=>
 rw[hb1]at hW
 replace hW:AP Tryz.prog _ _ (.bool true) []:=hW
 cases t1:(bits .andNot .u64 (fl:Int) 23==0) with
 | false=>
  refine AP.ofA (Zam Tryz.func29 U Tryz.ntmps29 U U ?_)
  repeat'(first|(apply Zaa (hW);kernel_rfl;(iterate 4 exact U))|(apply Zai Zab;exact U)|(apply Zag Zab;exact U)|refine Zae U U U Qt ?_|refine Zap U U U Qt ?_|refine Zak U Qt U U ?_|refine Zah U Qt U U ?_|refine ZaL Zab U U U U U U U U U U U U ?_)
  all_goals exact Qe
 | true=>
 cases t2:decide (sum ≥ 0) with
 | false=>
  refine AP.ofA (Zam Tryz.func29 U Tryz.ntmps29 U U ?_)
  repeat'(first|(apply Zaa (hW);kernel_rfl;(iterate 4 exact U))|(apply Zai Zab;exact U)|(apply Zag Zab;exact U)|refine Zae U U U Qt ?_|refine Zap U U U Qt ?_|refine Zak U Qt U U ?_|refine Zah U Qt U U ?_|refine ZaL Zab U U U U U U U U U U U U ?_)
  all_goals exact Qe
 | true=>
 cases t3:decide (sum<=2) with
 | false=>
  refine AP.ofA (Zam Tryz.func29 U Tryz.ntmps29 U U ?_)
  repeat'(first|(apply Zaa (hW);kernel_rfl;(iterate 4 exact U))|(apply Zai Zab;exact U)|(apply Zag Zab;exact U)|refine Zae U U U Qt ?_|refine Zap U U U Qt ?_|refine Zak U Qt U U ?_|refine Zah U Qt U U ?_|refine ZaL Zab U U U U U U U U U U U U ?_)
  all_goals exact Qe
 | true=>
  refine AP.ofA (Zam Tryz.func29 U Tryz.ntmps29 U U ?_)
  repeat'(first|(apply Zaa (hW);kernel_rfl;(iterate 4 exact U))|(apply Zaa (hD);kernel_rfl;(iterate 4 exact U))|(apply Zai Zab;exact U)|(apply Zag Zab;exact U)|refine Zae U U U Qt ?_|refine Zak U Qt U U ?_|refine ZaL Zab U U U U U U U U U U U U ?_)
  all_goals exact Qe

def Zb3 (b:BlkV):List It:=[.mk 0 b.ty [] [],.mk 0 b.num [] [],.mk 0 b.fl [] [],.mk 0 b.sum.toNat [] [],.mk 2 0 b.data []]
def ZbL (b:BlkV):It × Int:=match ZaN b with
 | true=>Zd0 (Zb3 b) 3
 | false=>(z0,3)
theorem Zek {b:BlkV}(h:ZaN b=true):b.ty<=255/\b.num<=255/\0<=b.sum/\b.sum<=2/\ZhQ b.ty b.data=true:=by
 unfold ZaN Zjd at h
 simp only[Bool.and_eq_true,Bool.not_eq_true',Bool.or_eq_false_iff,decide_eq_true_eq,decide_eq_false_iff_not]at h
 obtain⟨⟨⟨h1,h2⟩,h3,h4⟩,_,h5,h6,h7⟩:=h
 exact⟨by omega,by omega,h5,h6,h7⟩
theorem ZqM {b:BlkV}(h:ZaN b=true)(hfl:b.fl<18446744073709551616)(hd:b.data.length<=3000):wfs (Zb3 b):=by
 obtain⟨h1,h2,h3,h4,_⟩:=Zek h
 simp[Zb3,wfs,wfI]
 omega
theorem Zs5 {b:BlkV}(h:ZaN b=true)(hfl:b.fl<18446744073709551616)(hd:b.data.length<=3000)(s:Nat)(hs:s=1\/s=2):(ZaZ (Za0 s (Zb3 b))).length<=1000000000:=by
 obtain⟨h1,h2,h3,h4,_⟩:=Zek h
 have h9:¬ 3000<b.data.length:=by omega
 have hg:ZbI (Za0 s (Zb3 b)) 1 300=293:=by
  rcases hs with rfl|rfl<;>simp[Za0,Zb3,ZbI,Zcn,h9]
 have hn:nI (Za0 s (Zb3 b)):=by
  simp[Za0,Zb3,nI,nIs]
  omega
 have:=(ZeW _ 1 300 (by omega) (by omega) hn).2.1
 omega
theorem Znk [Known][KnownU8](b:BlkV)(hfl:b.fl<18446744073709551616)(hd:b.data.length<=3000):AP Tryz.prog 26 [.agg (bkC b)] (ZhP (ZbL b)) []:=by
 have hR:=Zd2 b (by omega)
 unfold ZbL
 cases hr:ZaN b with
 | false=>
  rw[hr]at hR
  obtain⟨ty,num,fl,sum,data⟩:=b
  dsimp only[z0]at *
  refine AP.ofA (Zam Tryz.func26 U Tryz.ntmps26 U U ?_)
  repeat'(first|(apply Zaa (hR);kernel_rfl;(iterate 4 exact U))|(apply Zai Zab;exact U)|(apply Zag Zab;exact U)|(apply Zau Zab;exact U)|refine Zad U Qt ?_)
  all_goals exact Qe
 | true=>
  rw[hr]at hR
  obtain⟨h1,h2,h3,h4,_⟩:=Zek hr
  have hS:=Zm9 (Zb3 b) 3 (ZqM hr hfl hd) (by simp[Zb3]) (Zs5 hr hfl hd)
  dsimp only
  generalize Zd0 (Zb3 b) 3=r at *
  obtain⟨ty,num,fl,sum,data⟩:=b
  obtain⟨⟨k,n,bb,l⟩,e⟩:=r
  dsimp only at h1 h2 h3 h4 hd hfl
  have hN:=ZjA ty num fl sum.toNat
  have hB:=ZhG data (by omega)
  have es:IntKind.u64.wrap sum=((sum.toNat:Nat):Int):=by rw[IntWalk.u64_in _ (by omega)];omega
  replace hS:AP Tryz.prog 83 [.sl .ext [nmE ty,nmE num,nmE fl,nmE sum.toNat,.agg [.int .i64 2,.int .u64 0,.sl (data.map E.byte),.sl []]],.int .i64 3] (ZhP (.mk k n bb l,e)) []:=hS
  have hu4:Uni 4 [nmE ty,nmE num,nmE fl,nmE sum.toNat]:=Uni.map (f:=nmE) (fun _=>rfl) [ty,num,fl,sum.toNat]
  refine AP.ofA (Zam Tryz.func26 U Tryz.ntmps26 U U ?_)
  repeat'(first|(apply Zaa (hR);kernel_rfl;(iterate 4 exact U))|rw[es]|(apply ZaU [] [] (hN);kernel_rfl;(iterate 10 exact U))|(apply Zaa (hB);kernel_rfl;(iterate 4 exact U))|(apply Zaa (hS);kernel_rfl;(iterate 4 exact U))|refine ZbS Zab U U U U U U U U U U U (Zaj rfl) (Zaj rfl) (List.cons_ne_nil _ _) Qd Qd U U ?_|(apply Zai Zab;exact U)|(apply Zag Zab;exact U)|(apply Zau Zab;exact U)|refine Zaf U Qt ?_|refine ZaL Zab U U U U U U U U U U U U ?_)
  all_goals exact Qe
def bk0:BlkV:=⟨0,0,0,0,[]⟩
abbrev ZqN (r:BlkV × Int):D:=.tup [.agg (bkC r.1),.int .i64 r.2]
def ofV (kind ZaK:Nat)(sum:Int)(x:It)(e:Int):BlkV × Int:=match e != 0 with
 | true=>(bk0,3)
 | false=>match ZaD x with
  | false=>(bk0,3)
  | true=>match ZaN ⟨kind,ZaK,0,sum,ZaZ x⟩ with
   | true=>(⟨kind,ZaK,0,sum,ZaZ x⟩,0)
   | false=>(bk0,3)
theorem ZqO [Known][KnownU8](kind ZaK:Nat)(sum:Int)(x:It)(e:Int)(hw:wfI x)(hx:(ZaZ x).length<=100000):AP Tryz.prog 108 [.int .u64 (kind:Int),.int .u64 (ZaK:Int),.int .i64 sum,itD x,.int .i64 e] (ZqN (ofV kind ZaK sum x e)) []:=by
 have hW:=Zgp x hw (by omega) (Zce x hw)
 have hR:=Zd2 ⟨kind,ZaK,0,sum,ZaZ x⟩ hx
 have hR0:=Zd2 ⟨kind,ZaK,0,sum,[]⟩ (by simp)
 unfold ofV
 cases te:(e != 0) with
 | true=>
  dsimp only[bk0]
  cases hr:ZaD x<;>rw[hr]at hW
  all_goals
   obtain⟨k,n,b,l⟩:=x
   refine AP.ofA (Zam Tryz.func108 U Tryz.ntmps108 U U ?_)
   repeat'(first|(apply Zaa (hW);kernel_rfl;(iterate 4 exact U))|(apply Zai Zab;exact U)|(apply Zag Zab;exact U)|(apply Zau Zab;exact U)|refine Zal U U U Qt ?_|refine Zak U Qt U U ?_|refine Zad U Qt ?_)
   all_goals exact Qe
 | false=>
 cases hr:ZaD x with
 | false=>
  rw[hr]at hW
  replace hW:AP Tryz.prog 112 [itD x] (.tup [.sl .ext [],.int .i64 3]) []:=hW
  obtain⟨k,n,b,l⟩:=x
  dsimp only[bk0]
  refine AP.ofA (Zam Tryz.func108 U Tryz.ntmps108 U U ?_)
  repeat'(first|(apply Zaa (hW);kernel_rfl;(iterate 4 exact U))|(apply Zai Zab;exact U)|(apply Zag Zab;exact U)|(apply Zau Zab;exact U)|refine Zae U U U Qt ?_|refine Zal U U U Qt ?_|refine Zak U Qt U U ?_|refine Zah U Qt U U ?_|refine Zad U Qt ?_)
  all_goals exact Qe
 | true=>
  rw[hr]at hW
  replace hW:AP Tryz.prog 112 [itD x] (.tup [byE (ZaZ x),.int .i64 0]) []:=hW
  generalize ZaZ x=P at *
  obtain⟨k,n,b,l⟩:=x
  dsimp only
  cases hb1:ZaN ⟨kind,ZaK,0,sum,P⟩
  all_goals
   rw[hb1]at hR
   dsimp only[bk0]
   refine AP.ofA (Zam Tryz.func108 U Tryz.ntmps108 U U ?_)
   repeat'(first|(apply Zaa (hW);kernel_rfl;(iterate 4 exact U))|(apply Zaa (hR);kernel_rfl;(iterate 4 exact U))|(apply Zai Zab;exact U)|(apply Zag Zab;exact U)|(apply Zau Zab;exact U)|refine Zae U U U Qt ?_|refine Zah U Qt U U ?_|refine Zad U Qt ?_|refine Zaf U Qt ?_)
   all_goals exact Qe
theorem Zo6 [Known][KnownU8](ZaK:Nat)(sum:Int)(age:Nat)(ha:age<18446744073709551616):AP Tryz.prog 43 [.int .u64 (ZaK:Int),.int .i64 sum,.int .u64 (age:Int)] (ZqN (ofV 7 ZaK sum (.mk 0 age [] []) 0)) []:=by
 have hw:wfI (.mk 0 age [] []):=⟨ha,by simp,by simp,trivial⟩
 have hl:=(ZeW (.mk 0 age [] []) 1 300 (by omega) (by simp[ZbI,Zcn]) ⟨ha,trivial⟩).2.1
 have hg:ZbI (.mk 0 age [] []) 1 300=299:=by simp[ZbI,Zcn]
 have hO:=ZqO 7 ZaK sum (.mk 0 age [] []) 0 hw (by omega)
 have hN:=Zca age
 clear hl hg
 generalize ofV 7 ZaK sum (.mk 0 age [] []) 0=r at *
 obtain⟨⟨a,b,c,d,f⟩,e⟩:=r
 refine AP.ofA (Zam Tryz.func43 U Tryz.ntmps43 U U ?_)
 repeat'(first|(apply Zaa (hN);kernel_rfl;(iterate 4 exact U))|(apply Zaa (hO);kernel_rfl;(iterate 4 exact U))|(apply Zai Zab;exact U)|(apply Zag Zab;exact U))
 all_goals exact Qe
abbrev Zje (n m:Nat):It:=.mk 4 0 [] [.mk 0 n [] [],.mk 0 m [] []]
theorem Znl [Known][KnownU8](ZaK:Nat)(sum:Int)(n m:Nat)(hn:n<18446744073709551616)(hm:m<18446744073709551616):AP Tryz.prog 44 [.int .u64 (ZaK:Int),.int .i64 sum,.int .u64 (n:Int),.int .u64 (m:Int)] (ZqN (ofV 10 ZaK sum (Zje n m) 0)) []:=by
 have hw:wfI (Zje n m):=⟨by decide,by simp,by simp,⟨hn,by simp,by simp,trivial⟩,⟨hm,by simp,by simp,trivial⟩,trivial⟩
 have hg:ZbI (Zje n m) 1 300=297:=by simp[ZbI,Zcn]
 have hl:=(ZeW (Zje n m) 1 300 (by omega) (by omega) ⟨by decide,⟨hn,trivial⟩,⟨hm,trivial⟩,trivial⟩).2.1
 have hO:=ZqO 10 ZaK sum (Zje n m) 0 hw (by omega)
 have hN:=Zgr n m
 clear hl hg
 replace hO:AP Tryz.prog 108 [.int .u64 10,.int .u64 (ZaK:Int),.int .i64 sum,.agg [.int .i64 4,.int .u64 0,.sl .ext [],.sl .ext [nmE n,nmE m]],.int .i64 0] (ZqN (ofV 10 ZaK sum (Zje n m) 0)) []:=hO
 generalize ofV 10 ZaK sum (Zje n m) 0=r at *
 obtain⟨⟨a,b,c,d,f⟩,e⟩:=r
 refine AP.ofA (Zam Tryz.func44 U Tryz.ntmps44 U U ?_)
 repeat'(first|(apply Zaa (hN);kernel_rfl;(iterate 4 exact U))|(apply Zaa (hO);kernel_rfl;(iterate 4 exact U))|(apply Zai Zab;exact U)|(apply Zag Zab;exact U)|refine ZaL Zab U U U U U U U U U U U U ?_)
 all_goals exact Qe
def ZfR (b:BlkV)(kind:Nat):Int:=match((b.ty:Int) != (kind:Int)) with
 | true=>4
 | false=>match ZaN b with
  | false=>3
  | true=>0
theorem ZpT [Known][KnownU8](b:BlkV)(kind:Nat)(hd:b.data.length<=100000):AP Tryz.prog 102 [.agg (bkC b),.int .u64 (kind:Int)] (.int .i64 (ZfR b kind)) []:=by
 have hR:=Zd2 b hd
 unfold ZfR
 cases t1:((b.ty:Int) != (kind:Int)) with
 | true=>
  obtain⟨ty,num,fl,sum,data⟩:=b
  dsimp only at t1
  refine AP.ofA (Zam Tryz.func102 U Tryz.ntmps102 U U ?_)
  repeat'(first|(apply Zag Zab;exact U)|(apply Zau Zab;exact U)|refine Zad U Qt ?_)
  all_goals exact Qe
 | false=>
  cases hr:ZaN b<;>rw[hr]at hR
  all_goals
   obtain⟨ty,num,fl,sum,data⟩:=b
   dsimp only at t1
   refine AP.ofA (Zam Tryz.func102 U Tryz.ntmps102 U U ?_)
   repeat'(first|(apply Zaa (hR);kernel_rfl;(iterate 4 exact U))|(apply Zai Zab;exact U)|(apply Zag Zab;exact U)|(apply Zau Zab;exact U)|refine Zad U Qt ?_|refine Zaf U Qt ?_)
   all_goals exact Qe
theorem ZkK [Known][KnownU8](b:BlkV)(hd:b.data.length<=100000):AP Tryz.prog 35 [.agg (bkC b)] (.tup [.int .u64 ((match ZfR b 7 != 0 with|true=>0|false=>(Zh4 b.data).1:Nat):Int),.int .i64 (ZfR b 7)]) []:=by
 have hA:=ZpT b 7 hd
 have hG:=ZpS b.data hd
 generalize ZfR b 7=q at *
 generalize (Zh4 b.data).1=a at *
 generalize (Zh4 b.data).2=o at *
 obtain⟨ty,num,fl,sum,data⟩:=b
 cases t1:(q != 0) with
 | true=>
  refine AP.ofA (Zam Tryz.func35 U Tryz.ntmps35 U U ?_)
  repeat'(first|(apply Zaa (hA);kernel_rfl;(iterate 4 exact U))|(apply Zai Zab;exact U)|(apply Zag Zab;exact U)|(apply Zau Zab;exact U)|refine Zad U Qt ?_)
  all_goals exact Qe
 | false=>
  have eq0:q=0:=by simpa[bne]using t1
  subst eq0
  refine AP.ofA (Zam Tryz.func35 U Tryz.ntmps35 U U ?_)
  repeat'(first|(apply Zaa (hA);kernel_rfl;(iterate 4 exact U))|(apply Zaa (hG);kernel_rfl;(iterate 4 exact U))|(apply Zai Zab;exact U)|(apply Zag Zab;exact U)|refine Zaf U Qt ?_)
  all_goals exact Qe
theorem Znm [Known][KnownU8](b:BlkV)(hd:b.data.length<=100000):AP Tryz.prog 36 [.agg (bkC b)] (.tup [.int .u64 ((match ZfR b 10 != 0 with|true=>0|false=>(Zdk b.data).1:Nat):Int),.int .u64 ((match ZfR b 10 != 0 with|true=>0|false=>(Zdk b.data).2.1:Nat):Int),.int .i64 (ZfR b 10)]) []:=by
 have hA:=ZpT b 10 hd
 have hG:=Zni b.data hd
 generalize ZfR b 10=q at *
 generalize (Zdk b.data).1=a at *
 generalize (Zdk b.data).2.1=c at *
 generalize (Zdk b.data).2.2=o at *
 obtain⟨ty,num,fl,sum,data⟩:=b
 cases t1:(q != 0) with
 | true=>
  refine AP.ofA (Zam Tryz.func36 U Tryz.ntmps36 U U ?_)
  repeat'(first|(apply Zaa (hA);kernel_rfl;(iterate 4 exact U))|(apply Zai Zab;exact U)|(apply Zag Zab;exact U)|(apply Zau Zab;exact U)|refine Zad U Qt ?_)
  all_goals exact Qe
 | false=>
  have eq0:q=0:=by simpa[bne]using t1
  subst eq0
  refine AP.ofA (Zam Tryz.func36 U Tryz.ntmps36 U U ?_)
  repeat'(first|(apply Zaa (hA);kernel_rfl;(iterate 4 exact U))|(apply Zaa (hG);kernel_rfl;(iterate 4 exact U))|(apply Zai Zab;exact U)|(apply Zag Zab;exact U)|refine Zaf U Qt ?_)
  all_goals exact Qe
theorem Zo7:wfI z0:=⟨by decide,by simp,by simp,trivial⟩
theorem ZqP (s:Nat){l:List It}(hws:wfs l)(hl:l.length<=1000000):wfI (Zhe s l):=by
 refine⟨by decide,by simp,by simp;omega,ZhO hws ⟨⟨by decide,?_,by simp,trivial⟩,trivial⟩⟩
 have:(ZgT s (ZaZ (Za0 s l))).length<=4:=by
  unfold ZgT
  split<;>simp
 omega
theorem Znn {l:List It}(a:Int)(hws:wfs l)(hl:l.length<=1000000):wfI (Zd0 l a).1:=by
 unfold Zd0
 have h0:wfI (.mk 4 0 [] l):=⟨by decide,by simp,by omega,hws⟩
 repeat' split
 all_goals first|exact Zo7|exact h0|exact ZqP _ hws hl
theorem ZkL {b:BlkV}(hfl:b.fl<18446744073709551616)(hd:b.data.length<=3000):wfI (ZbL b).1:=by
 unfold ZbL
 cases h:ZaN b with
 | false=>exact Zo7
 | true=>exact Znn 3 (ZqM h hfl hd) (by simp[Zb3])
def Zck (x:EidV):List UInt8:=[47,47]++x.h++[47]++x.d
theorem Zb9 {x:EidV}(h:ZaH x=true)(hz:isZ x=false)(hi:x.i=true):x.n<=4294967295/\x.s<=4294967295/\x.h=[]/\x.d=[]/\1<=x.n:=by
 rw[ZhL hz hi]at h
 simp only[Bool.and_eq_true,decide_eq_true_eq,beq_iff_eq]at h
 obtain⟨⟨⟨⟨_,_,_,h1,h2,_⟩,h3⟩,h4⟩,h5⟩:=h
 exact⟨by omega,by omega,h1,h2,by omega⟩
theorem ZbJ {x:EidV}(h:ZaH x=true)(hz:isZ x=false)(hi:x.i=false):x.n=0/\x.s=0/\1<=x.h.length/\x.h.length<=16/\x.d.length<=24/\x.h.all (okB 45)=true/\x.d.all (okB 47)=true:=by
 rw[ZhM hz hi]at h
 simp only[Bool.and_eq_true,decide_eq_true_eq,beq_iff_eq]at h
 obtain⟨⟨⟨⟨⟨⟨_,h1,h2,_⟩,h3⟩,h4⟩,h5⟩,h6⟩,h7⟩:=h
 exact⟨by omega,by omega,by omega,by omega,by omega,h6,h7⟩
theorem ZqQ [Known](x:EidV)(h1:x.h.length<=16)(h2:x.d.length<=24):AP Tryz.prog 136 [.agg (eC x)] (.str (Zck x)) []:=by
 have l1:[(47:UInt8),47].length+x.h.length<=maxLen:=by simp;unfold maxLen;omega
 have l2:([(47:UInt8),47]++x.h).length + [(47:UInt8)].length<=maxLen:=by simp;unfold maxLen;omega
 have l3:([(47:UInt8),47]++x.h++[47]).length+x.d.length<=maxLen:=by simp;unfold maxLen;omega
 refine AP.ofA (Zam Tryz.func136 U Tryz.ntmps136 U U ?_)
 repeat'(first|(apply Zfx;exact U;exact U;(first|exact l1|exact l2|exact l3);exact U)|(apply Zai Zab;exact U)|(apply Zag Zab;exact U))
 all_goals exact Qe
def Zbg (x:EidV):It:=
 if isZ x then .mk 4 0 [] [.mk 0 1 [] [],.mk 0 0 [] []]
 else if x.i then .mk 4 0 [] [.mk 0 2 [] [],.mk 4 0 [] [.mk 0 x.n [] [],.mk 0 x.s [] []]]
 else .mk 4 0 [] [.mk 0 1 [] [],.mk 3 0 (Zck x) []]
theorem Ze4 [Known](x:EidV):AP Tryz.prog 81 [.agg (eC x)] (.tup [itD (if ZaH x then Zbg x else .mk 0 0 [] []),.int .i64 (if ZaH x then 0 else 3)]) []:=by
 have hR:=Zc2 x
 cases hr:ZaH x with
 | false=>
  rw[hr]at hR
  refine AP.ofA (Zam Tryz.func81 U Tryz.ntmps81 U U ?_)
  repeat'(first|(apply Zaa (hR);kernel_rfl;(iterate 4 exact U))|(apply Zai Zab;exact U)|(apply Zag Zab;exact U)|(apply Zau Zab;exact U)|refine Zad U Qt ?_)
  all_goals exact Qe
 | true=>
  rw[hr]at hR
  rw[if_pos rfl,if_pos rfl]
  unfold Zbg
  cases hz:isZ x with
  | true=>
   rw[if_pos rfl]
   have n1:=Zca 1
   have n0:=Zca 0
   have hL:=ZdU [.mk 0 1 [] [],.mk 0 0 [] []] (by decide) (by simp[wfI,wfs])
   replace n1:AP Tryz.prog _ [.int .u64 1] (.agg [.int .i64 0,.int .u64 1,.sl .ext [],.sl .ext []]) []:=n1
   replace n0:AP Tryz.prog _ [.int .u64 0] (.agg [.int .i64 0,.int .u64 0,.sl .ext [],.sl .ext []]) []:=n0
   unfold isZ at hz
   refine AP.ofA (Zam Tryz.func81 U Tryz.ntmps81 U U ?_)
   repeat'(first|(apply Zaa (hR);kernel_rfl;(iterate 4 exact U))|(apply Zaa (n1);kernel_rfl;(iterate 4 exact U))|(apply Zaa (n0);kernel_rfl;(iterate 4 exact U))|(apply Zaa (hL);kernel_rfl;(iterate 4 exact U))|(apply Zai Zab;exact U)|(apply Zag Zab;exact U)|(apply Zau Zab;exact U)|refine Zad U Qt ?_|refine Zaf U Qt ?_|refine ZaL Zab U U U U U U U U U U U U ?_|refine Zdr Zab U U U U Qk Qk U U U ?_)
   all_goals exact Qe
  | false=>
   rw[if_neg (by simp)]
   cases hi:x.i with
   | true=>
    obtain⟨b1,b2,_⟩:=Zb9 hr hz hi
    rw[if_pos rfl]
    have n2:=Zca 2
    have nn:=Zca x.n
    have ns:=Zca x.s
    have hL1:=ZdU [.mk 0 x.n [] [],.mk 0 x.s [] []] (by simp) (by simp[wfI,wfs];omega)
    have hL:=ZdU [.mk 0 2 [] [],.mk 4 0 [] [.mk 0 x.n [] [],.mk 0 x.s [] []]] (by simp) (by simp[wfI,wfs];omega)
    replace n2:AP Tryz.prog _ [.int .u64 2] (.agg [.int .i64 0,.int .u64 2,.sl .ext [],.sl .ext []]) []:=n2
    replace nn:AP Tryz.prog _ [.int .u64 (x.n:Int)] (.agg [.int .i64 0,.int .u64 (x.n:Int),.sl .ext [],.sl .ext []]) []:=nn
    replace ns:AP Tryz.prog _ [.int .u64 (x.s:Int)] (.agg [.int .i64 0,.int .u64 (x.s:Int),.sl .ext [],.sl .ext []]) []:=ns
    replace hL1:AP Tryz.prog _ _ (.agg [.int .i64 4,.int .u64 0,.sl .ext [],.sl .ext [.agg [.int .i64 0,.int .u64 (x.n:Int),.sl [],.sl []],.agg [.int .i64 0,.int .u64 (x.s:Int),.sl [],.sl []]]]) []:=hL1
    unfold isZ at hz
    refine AP.ofA (Zam Tryz.func81 U Tryz.ntmps81 U U ?_)
    repeat'(first|(apply Zaa (hR);kernel_rfl;(iterate 4 exact U))|(apply Zaa (n2);kernel_rfl;(iterate 4 exact U))|(apply Zaa (nn);kernel_rfl;(iterate 4 exact U))|(apply Zaa (ns);kernel_rfl;(iterate 4 exact U))|(apply Zaa (hL1);kernel_rfl;(iterate 4 exact U))|(apply Zaa (hL);kernel_rfl;(iterate 4 exact U))|(apply Zai Zab;exact U)|(apply Zag Zab;exact U)|(apply Zau Zab;exact U)|refine Zad U Qt ?_|refine Zaf U Qt ?_|refine ZaL Zab U U U U U U U U U U U U ?_|refine Zdr Zab U U U U Qk Qk U U U ?_|(apply Zao 6 ZaQ;decide +kernel;kernel_rfl;kernel_rfl;kernel_rfl;exact U;exact U)|(apply Zas;(iterate 4 exact U))|exact AE.nil _ _ _ _|(apply Zaw;exact U)|(apply Zay;exact U;exact U;decide +kernel;exact U)|(apply Zaz;exact U)|exact AO.nil _ _ _|(apply Zar;(decide +kernel))|exact AOs.nil|exact ZaJ rfl rfl)
    all_goals exact Qe
   | false=>
    obtain⟨_,_,_,b1,b2,_⟩:=ZbJ hr hz hi
    rw[if_neg (by simp)]
    have n1:=Zca 1
    have hP:=ZqQ x b1 b2
    have hT:=Zqx (Zck x)
    have hpl:(Zck x).length<=1099511627776:=by unfold Zck;simp;omega
    generalize Zck x=p at *
    have hL:=ZdU [.mk 0 1 [] [],.mk 3 0 p []] (by simp) (by simp[wfI,wfs];omega)
    replace n1:AP Tryz.prog _ [.int .u64 1] (.agg [.int .i64 0,.int .u64 1,.sl .ext [],.sl .ext []]) []:=n1
    replace hT:AP Tryz.prog _ [.str p] (.agg [.int .i64 3,.int .u64 0,byE p,.sl .ext []]) []:=hT
    unfold isZ at hz
    refine AP.ofA (Zam Tryz.func81 U Tryz.ntmps81 U U ?_)
    repeat'(first|(apply Zaa (hR);kernel_rfl;(iterate 4 exact U))|(apply Zaa (n1);kernel_rfl;(iterate 4 exact U))|(apply Zaa (hP);kernel_rfl;(iterate 4 exact U))|(apply Zaa (hT);kernel_rfl;(iterate 4 exact U))|(apply Zaa (hL);kernel_rfl;(iterate 4 exact U))|(apply Zai Zab;exact U)|(apply Zag Zab;exact U)|(apply Zau Zab;exact U)|refine Zaf U Qt ?_|refine ZaL Zab U U U U U U U U U U U U ?_|refine Zdr Zab U U U U Qk Qk U U U ?_|(apply Zao 2 ZaQ;decide +kernel;kernel_rfl;kernel_rfl;kernel_rfl;exact U;exact U)|(apply Zas;(iterate 4 exact U))|exact AE.nil _ _ _ _|(apply Zaw;exact U)|(apply Zay;exact U;exact U;decide +kernel;exact U)|(apply Zaz;exact U)|exact AO.nil _ _ _|(apply Zar;(decide +kernel))|exact AOs.nil|exact ZaJ rfl rfl)
    all_goals exact Qe
end Go.Proofs.YtakblclkflnnpaaGreatDoor
end
