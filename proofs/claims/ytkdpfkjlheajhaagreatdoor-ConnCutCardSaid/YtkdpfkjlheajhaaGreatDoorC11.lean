/- Package request: which requests may be. -/
import Derived.Test.YtkdpfkjlheajhaaGreatDoorC10
import Derived.Test.YtkdpfkjlheajhaaGreatDoorC09
import Derived.Lib.AppendZeros
import Derived.Test.YtkdpfkjlheajhaaGreatDoorC07
import Derived.Scope
import Derived.Test.YtkdpfkjlheajhaaGreatDoorC01
set_option linter.unusedVariables false
set_option linter.unusedSimpArgs false
section
open Go.RowKit Go.Pl Go.Av
namespace Go.Proofs.YtkdpfkjlheajhaaGreatDoor
set_option maxHeartbeats 4000000
structure RqV where
 id:Nat
 kd:Int
 ep:EidV
 ds:EidV
 pol:Int
 num:Int
 tik:Int
 pay:List UInt8
 life:Nat
 tok:Nat
 on:Bool
abbrev rqC (x:RqV):List D:=[.int .u64 (x.id:Int),.int .i64 x.kd,.bool x.ep.i,.int .u64 (x.ep.n:Int),.int .u64 (x.ep.s:Int),.str x.ep.h,.str x.ep.d,.bool x.ds.i,.int .u64 (x.ds.n:Int),.int .u64 (x.ds.s:Int),.str x.ds.h,.str x.ds.d,.int .i64 x.pol,.int .i64 x.num,.int .i64 x.tik,byE x.pay,.int .u64 (x.life:Int),.int .u64 (x.tok:Int),.bool x.on]
def UE (x:EidV):Bool:=Yd x && !(isZ x)
theorem Qn [Known](x:EidV):AP Tryz.prog 122 [.agg (eC x)] (.bool (UE x)) []:=by
 have hR:=W9 x
 unfold UE
 cases hr:Yd x with
 | false=>
  rw[hr]at hR
  refine AP.ofA (Zm Tryz.func122 Z Tryz.ntmps122 Z Z ?_)
  repeat'(first|(apply Zc (hR);kernel_rfl;(iterate 4 exact Z))|(apply Zj Za;exact Z)|(apply Zg Za;exact Z)|(apply Zr;(iterate 3 exact Z);(first|with_reducible assumption|decide +kernel|(solve|simp only[bn])))|(apply Zl;exact Z;(first|with_reducible assumption|decide +kernel|(solve|simp only[bn]));exact Z;exact Z))
  all_goals exact Qe
 | true=>
  rw[hr]at hR
  refine AP.ofA (Zm Tryz.func122 Z Tryz.ntmps122 Z Z ?_)
  repeat'(first|(apply Zc (hR);kernel_rfl;(iterate 4 exact Z))|(apply Zj Za;exact Z)|(apply Zg Za;exact Z)|(apply Zi;(iterate 3 exact Z);(first|with_reducible assumption|decide +kernel|(solve|simp only[bn])))|(apply Zk;exact Z;(first|with_reducible assumption|decide +kernel|(solve|simp only[bn]));exact Z;exact Z)|refine WZ Za Z Z Z Z Qk Qk Z Z Z ?_)
  all_goals exact Qe
def Vv (a b:RqV):Bool:=((a.id:Int)==(b.id:Int))&&((a.kd==b.kd)&&(eqE a.ep b.ep&&(eqE a.ds b.ds&&((a.pol==b.pol)&&((a.num==b.num)&&((a.tik==b.tik)&&((a.pay==b.pay)&&(((a.life:Int)==(b.life:Int))&&(((a.tok:Int)==(b.tok:Int))&&(a.on==b.on))))))))))
theorem Wx [Known](a b:RqV):AP Tryz.prog 27 [.agg (rqC a),.agg (rqC b)] (.bool (Vv a b)) []:=by
 have hB:=YB a.pay b.pay
 unfold Vv eqE
 refine AP.ofA (Zm Tryz.func27 Z Tryz.ntmps27 Z Z ?_)
 repeat'(first|(apply Zc (hB);kernel_rfl;(iterate 4 exact Z))|(apply Zj Za;exact Z)|(apply Zg Za;exact Z)|(apply Zi;(iterate 3 exact Z);(first|with_reducible assumption|(solve|simp only[bn])))|(apply Zr;(iterate 3 exact Z);(first|with_reducible assumption|(solve|simp only[bn])))|(apply Wb;exact Z;exact Z;all_goals intro hb)|(apply Zk;exact Z;(first|with_reducible assumption|(solve|simp only[bn]));exact Z;exact Z)|(apply Zl;exact Z;(first|with_reducible assumption|(solve|simp only[bn]));exact Z;exact Z)|refine WZ Za Z Z Z Z Qk Qk Z Z Z ?_)
 all_goals(apply Zu [];(apply Zd Za;exact Z);(iterate 4 exact Z))
 all_goals first|rfl|(simp only[*,Bool.true_and,Bool.false_and];done)
theorem Xr (k:Int):k=1\/k=2\/k=3\/k=4\/k=5\/k=6\/k=7\/k=8\/k=9\/k=10\/k=11\/k=12\/((k==1)=false/\(k==2)=false/\(k==3)=false/\(k==4)=false/\(k==5)=false/\(k==6)=false/\(k==7)=false/\(k==8)=false/\(k==9)=false/\(k==10)=false/\(k==11)=false/\(k==12)=false):=by
 simp only[beq_eq_false_iff_ne];omega
abbrev rqZ (x:RqV):RqV:=⟨x.id,x.kd,ZD,ZD,0,0,0,[],0,0,false⟩
def UF (x:RqV):RqV:=
 if x.kd==1||x.kd==3 then { rqZ x with ep:=x.ep,pol:=x.pol }
 else if x.kd==2||x.kd==6 then { rqZ x with ep:=x.ep }
 else if x.kd==4 then { rqZ x with ep:=x.ep,ds:=x.ds,pay:=x.pay,life:=x.life,on:=x.on }
 else if x.kd==5||(x.kd==8||x.kd==9) then { rqZ x with num:=x.num }
 else if x.kd==7 then { rqZ x with ep:=x.ep,tik:=x.tik }
 else if x.kd==10 then { rqZ x with on:=x.on }
 else if x.kd==12 then { rqZ x with tok:=x.tok }
 else rqZ x
def WJ (x:RqV):Bool:=
 if x.kd==1||x.kd==3 then UE x.ep&&(decide (x.pol ≥ 0)&&decide (x.pol<=2))
 else if x.kd==2||x.kd==6 then UE x.ep
 else if x.kd==4 then UE x.ep&&(UE x.ds&&(decide ((x.pay.length:Int)<=200)&&(decide ((x.life:Int) ≥ 1)&&decide ((x.life:Int)<=1099511627776))))
 else if x.kd==5||(x.kd==8||x.kd==9) then decide (x.num ≥ 1)&&decide (x.num<=1099511627776)
 else if x.kd==7 then UE x.ep&&(decide (x.tik ≥ 1)&&decide (x.tik<=1000))
 else if x.kd==12 then decide ((x.tok:Int) ≥ 1)&&decide ((x.tok:Int)<=2147483648)
 else x.kd==10||x.kd==11
theorem KF [Known](x:RqV):AP Tryz.prog 114 [.agg (rqC x)] (.agg (rqC (UF x))) []:=by
 obtain⟨id,kd,⟨ei,en,es,eh,ed⟩,⟨di,dn,dq,dh,dd⟩,pol,num,tik,pay,life,tok,on⟩:=x
 show AP Tryz.prog _ [.agg [.int .u64 (id:Int),.int .i64 kd,.bool ei,.int .u64 (en:Int),.int .u64 (es:Int),.str eh,.str ed,.bool di,.int .u64 (dn:Int),.int .u64 (dq:Int),.str dh,.str dd,.int .i64 pol,.int .i64 num,.int .i64 tik,.sl .ext (pay.map E.byte),.int .u64 (life:Int),.int .u64 (tok:Int),.bool on]] _ []
 rcases Xr kd with rfl|rfl|rfl|rfl|rfl|rfl|rfl|rfl|rfl|rfl|rfl|rfl|⟨n1,n2,n3,n4,n5,n6,n7,n8,n9,n10,n11,n12⟩
 all_goals
  refine AP.ofA (Zm Tryz.func114 Z Tryz.ntmps114 Z Z ?_)
  repeat'(first|(apply Zj Za;exact Z)|(apply Zg Za;exact Z)|(apply Zq Za;exact Z)|(apply Zf;exact Z;(first|with_reducible assumption|decide +kernel|(solve|simp only[bn])))|(apply Ze;exact Z;(first|with_reducible assumption|decide +kernel|(solve|simp only[bn])))|(apply Zx 6 Z9;decide +kernel;kernel_rfl;kernel_rfl;kernel_rfl;exact Z;exact Z)|(apply Zx 18 Z9;decide +kernel;kernel_rfl;kernel_rfl;kernel_rfl;exact Z;exact Z)|(apply ZB;(iterate 4 exact Z))|exact AE.nil _ _ _ _|(apply ZF;exact Z)|(apply Wf;exact Z)|(apply ZN;exact Z;exact Z;decide +kernel;exact Z)|(apply ZP;exact Z)|(apply W1;exact Z)|exact AO.nil _ _ _|(apply ZA;(decide +kernel))|(apply ZO;(iterate 3 exact Z))|exact AOs.nil|exact ZY rfl rfl|exact Wp rfl)
  all_goals(apply Zu [];(apply Zd Za;exact Z);(iterate 4 exact Z))
  all_goals first|rfl|(unfold UF;dsimp only;simp only[*];rfl)
theorem JR [Known](x:RqV):AP Tryz.prog 113 [.agg (rqC x)] (.bool (WJ x)) []:=by
 have hN:=Qn x.ep
 have hM:=Qn x.ds
 have hbl:(x.pay.map E.byte).length=x.pay.length:=List.length_map ..
 unfold WJ
 obtain⟨id,kd,⟨ei,en,es,eh,ed⟩,⟨di,dn,dq,dh,dd⟩,pol,num,tik,pay,life,tok,on⟩:=x
 dsimp only at hN hM ⊢
 show AP Tryz.prog _ [.agg [.int .u64 (id:Int),.int .i64 kd,.bool ei,.int .u64 (en:Int),.int .u64 (es:Int),.str eh,.str ed,.bool di,.int .u64 (dn:Int),.int .u64 (dq:Int),.str dh,.str dd,.int .i64 pol,.int .i64 num,.int .i64 tik,.sl .ext (pay.map E.byte),.int .u64 (life:Int),.int .u64 (tok:Int),.bool on]] _ []
 generalize UE ⟨ei,en,es,eh,ed⟩=bN at *
 generalize UE ⟨di,dn,dq,dh,dd⟩=bM at *
 rcases Xr kd with rfl|rfl|rfl|rfl|rfl|rfl|rfl|rfl|rfl|rfl|rfl|rfl|⟨n1,n2,n3,n4,n5,n6,n7,n8,n9,n10,n11,n12⟩
 all_goals
  try simp only[n1,n2,n3,n4,n5,n6,n7,n8,n9,n10,n11,n12]
  simp only[Int.reduceBEq,Bool.true_or,Bool.or_true,Bool.or_self,Bool.or_false,Bool.false_or,if_true,if_false,Bool.false_eq_true,hbl]
  refine AP.ofA (Zm Tryz.func113 Z Tryz.ntmps113 Z Z ?_)
  repeat'(first|(apply Zc (hN);kernel_rfl;(iterate 4 exact Z))|(apply Zc (hM);kernel_rfl;(iterate 4 exact Z))|(apply Zj Za;exact Z)|(apply Zg Za;exact Z)|(apply Zq Za;exact Z)|(apply Zi;(iterate 3 exact Z);(first|with_reducible assumption|decide +kernel|(solve|simp only[bn])))|(apply Zr;(iterate 3 exact Z);(first|with_reducible assumption|decide +kernel|(solve|simp only[bn])))|(apply Zz;(iterate 3 exact Z);(first|with_reducible assumption|decide +kernel|(solve|simp only[bn])))|(apply Wb;exact Z;exact Z;all_goals intro hb)|(apply Zk;exact Z;(first|with_reducible assumption|decide +kernel|(solve|simp only[bn]));exact Z;exact Z)|(apply Zl;exact Z;(first|with_reducible assumption|decide +kernel|(solve|simp only[bn]));exact Z;exact Z)|(apply Zf;exact Z;(first|with_reducible assumption|decide +kernel|(solve|simp only[bn])))|(apply Ze;exact Z;(first|with_reducible assumption|decide +kernel|(solve|simp only[bn])))|refine Zp Za Z Z Z Z ?_)
  all_goals(apply Zu [];(apply Zd Za;exact Z);(iterate 4 exact Z))
  all_goals first|rfl|(simp only[*];done)|(simp only[*];rfl)|(clear hN hM;simp_all;done)|(clear hN hM;simp_all;omega)
def ZQ (x:RqV):Bool:=decide ((x.id:Int) ≥ 1)&&(decide ((x.id:Int)<=1099511627776)&&(WJ x&&Vv x (UF x)))
theorem WK [Known](x:RqV):AP Tryz.prog 93 [.agg (rqC x)] (.bool (ZQ x)) []:=by
 have hP:=JR x
 have hO:=KF x
 have hS:=Wx x (UF x)
 unfold ZQ
 generalize WJ x=bP at *
 generalize Vv x (UF x)=bS at *
 generalize UF x=y at *
 obtain⟨id,kd,⟨ei,en,es,eh,ed⟩,⟨di,dn,dq,dh,dd⟩,pol,num,tik,pay,life,tok,on⟩:=x
 obtain⟨yid,ykd,⟨yei,yen,yes,yeh,yed⟩,⟨ydi,ydn,ydq,ydh,ydd⟩,ypol,ynum,ytik,ypay,ylife,ytok,yon⟩:=y
 replace hP:AP Tryz.prog _ [.agg [.int .u64 (id:Int),.int .i64 kd,.bool ei,.int .u64 (en:Int),.int .u64 (es:Int),.str eh,.str ed,.bool di,.int .u64 (dn:Int),.int .u64 (dq:Int),.str dh,.str dd,.int .i64 pol,.int .i64 num,.int .i64 tik,.sl .ext (pay.map E.byte),.int .u64 (life:Int),.int .u64 (tok:Int),.bool on]] _ []:=hP
 replace hO:AP Tryz.prog _ [.agg [.int .u64 (id:Int),.int .i64 kd,.bool ei,.int .u64 (en:Int),.int .u64 (es:Int),.str eh,.str ed,.bool di,.int .u64 (dn:Int),.int .u64 (dq:Int),.str dh,.str dd,.int .i64 pol,.int .i64 num,.int .i64 tik,.sl .ext (pay.map E.byte),.int .u64 (life:Int),.int .u64 (tok:Int),.bool on]] (.agg [.int .u64 (yid:Int),.int .i64 ykd,.bool yei,.int .u64 (yen:Int),.int .u64 (yes:Int),.str yeh,.str yed,.bool ydi,.int .u64 (ydn:Int),.int .u64 (ydq:Int),.str ydh,.str ydd,.int .i64 ypol,.int .i64 ynum,.int .i64 ytik,.sl .ext (ypay.map E.byte),.int .u64 (ylife:Int),.int .u64 (ytok:Int),.bool yon]) []:=hO
 replace hS:AP Tryz.prog _ [.agg [.int .u64 (id:Int),.int .i64 kd,.bool ei,.int .u64 (en:Int),.int .u64 (es:Int),.str eh,.str ed,.bool di,.int .u64 (dn:Int),.int .u64 (dq:Int),.str dh,.str dd,.int .i64 pol,.int .i64 num,.int .i64 tik,.sl .ext (pay.map E.byte),.int .u64 (life:Int),.int .u64 (tok:Int),.bool on],.agg [.int .u64 (yid:Int),.int .i64 ykd,.bool yei,.int .u64 (yen:Int),.int .u64 (yes:Int),.str yeh,.str yed,.bool ydi,.int .u64 (ydn:Int),.int .u64 (ydq:Int),.str ydh,.str ydd,.int .i64 ypol,.int .i64 ynum,.int .i64 ytik,.sl .ext (ypay.map E.byte),.int .u64 (ylife:Int),.int .u64 (ytok:Int),.bool yon]] _ []:=hS
 show AP Tryz.prog _ [.agg [.int .u64 (id:Int),.int .i64 kd,.bool ei,.int .u64 (en:Int),.int .u64 (es:Int),.str eh,.str ed,.bool di,.int .u64 (dn:Int),.int .u64 (dq:Int),.str dh,.str dd,.int .i64 pol,.int .i64 num,.int .i64 tik,.sl .ext (pay.map E.byte),.int .u64 (life:Int),.int .u64 (tok:Int),.bool on]] (.bool (decide ((id:Int) ≥ 1)&&(decide ((id:Int)<=1099511627776)&&(bP&&bS)))) []
 cases t1:decide ((id:Int) ≥ 1) with
 | false=>
  refine AP.ofA (Zm Tryz.func93 Z Tryz.ntmps93 Z Z ?_)
  repeat'(first|(apply Zj Za;exact Z)|(apply Zg Za;exact Z)|(apply Zr;(iterate 3 exact Z);(first|with_reducible assumption|decide +kernel|(solve|simp only[bn])))|(apply Zl;exact Z;(first|with_reducible assumption|decide +kernel|(solve|simp only[bn]));exact Z;exact Z)|(apply Zx 16 Z9;decide +kernel;kernel_rfl;kernel_rfl;kernel_rfl;exact Z;exact Z)|(apply ZB;(iterate 4 exact Z))|exact AE.nil _ _ _ _|(apply ZF;exact Z)|(apply ZN;exact Z;exact Z;decide +kernel;exact Z)|(apply ZP;exact Z)|exact AO.nil _ _ _|(apply ZA;(decide +kernel))|exact AOs.nil|exact ZY rfl rfl)
  all_goals exact Qe
 | true=>
  cases t2:decide ((id:Int)<=1099511627776) with
  | false=>
   refine AP.ofA (Zm Tryz.func93 Z Tryz.ntmps93 Z Z ?_)
   repeat'(first|(apply Zj Za;exact Z)|(apply Zg Za;exact Z)|(apply Zi;(iterate 3 exact Z);(first|with_reducible assumption|decide +kernel|(solve|simp only[bn])))|(apply Zr;(iterate 3 exact Z);(first|with_reducible assumption|decide +kernel|(solve|simp only[bn])))|(apply Zk;exact Z;(first|with_reducible assumption|decide +kernel|(solve|simp only[bn]));exact Z;exact Z)|(apply Zl;exact Z;(first|with_reducible assumption|decide +kernel|(solve|simp only[bn]));exact Z;exact Z)|(apply Zx 16 Z9;decide +kernel;kernel_rfl;kernel_rfl;kernel_rfl;exact Z;exact Z)|(apply ZB;(iterate 4 exact Z))|exact AE.nil _ _ _ _|(apply ZF;exact Z)|(apply ZN;exact Z;exact Z;decide +kernel;exact Z)|(apply ZP;exact Z)|exact AO.nil _ _ _|(apply ZA;(decide +kernel))|exact AOs.nil|exact ZY rfl rfl)
   all_goals exact Qe
  | true=>
   cases bP with
   | false=>
    refine AP.ofA (Zm Tryz.func93 Z Tryz.ntmps93 Z Z ?_)
    repeat'(first|(apply Zc (hP);kernel_rfl;(iterate 4 exact Z))|(apply Zj Za;exact Z)|(apply Zg Za;exact Z)|(apply Zi;(iterate 3 exact Z);(first|with_reducible assumption|decide +kernel|(solve|simp only[bn])))|(apply Zr;(iterate 3 exact Z);(first|with_reducible assumption|decide +kernel|(solve|simp only[bn])))|(apply Zk;exact Z;(first|with_reducible assumption|decide +kernel|(solve|simp only[bn]));exact Z;exact Z)|(apply Zl;exact Z;(first|with_reducible assumption|decide +kernel|(solve|simp only[bn]));exact Z;exact Z)|(apply Zx 16 Z9;decide +kernel;kernel_rfl;kernel_rfl;kernel_rfl;exact Z;exact Z)|(apply ZB;(iterate 4 exact Z))|exact AE.nil _ _ _ _|(apply ZF;exact Z)|(apply ZN;exact Z;exact Z;decide +kernel;exact Z)|(apply ZP;exact Z)|exact AO.nil _ _ _|(apply ZA;(decide +kernel))|exact AOs.nil|exact ZY rfl rfl)
    all_goals exact Qe
   | true=>
    refine AP.ofA (Zm Tryz.func93 Z Tryz.ntmps93 Z Z ?_)
    repeat'(first|(apply Zc (hP);kernel_rfl;(iterate 4 exact Z))|(apply Zc (hO);kernel_rfl;(iterate 4 exact Z))|(apply Zc (hS);kernel_rfl;(iterate 4 exact Z))|(apply Zj Za;exact Z)|(apply Zg Za;exact Z)|(apply Zi;(iterate 3 exact Z);(first|with_reducible assumption|decide +kernel|(solve|simp only[bn])))|(apply Zk;exact Z;(first|with_reducible assumption|decide +kernel|(solve|simp only[bn]));exact Z;exact Z)|(apply Zx 16 Z9;decide +kernel;kernel_rfl;kernel_rfl;kernel_rfl;exact Z;exact Z)|(apply ZB;(iterate 4 exact Z))|exact AE.nil _ _ _ _|(apply ZF;exact Z)|(apply ZN;exact Z;exact Z;decide +kernel;exact Z)|(apply ZP;exact Z)|exact AO.nil _ _ _|(apply ZA;(decide +kernel))|exact AOs.nil|exact ZY rfl rfl)
    all_goals exact Qe
abbrev rqO:List D:=[.int .u64 5,.int .i64 11,.bool false,.int .u64 0,.int .u64 0,.str [],.str [],.bool false,.int .u64 0,.int .u64 0,.str [],.str [],.int .i64 0,.int .i64 0,.int .i64 0,.sl .ext [],.int .u64 0,.int .u64 0,.bool false]
abbrev Gw:List D:=[.int .u64 0,.int .i64 0,.bool false,.int .u64 0,.int .u64 0,.str [],.str [],.bool false,.int .u64 0,.int .u64 0,.str [],.str [],.int .i64 0,.int .i64 0,.int .i64 0,.sl .ext [],.int .u64 0,.int .u64 0,.bool false]
theorem Gx [Known]:AP Tryz.prog 93 [.agg rqO] (.bool true) []:=by
 have h:=WK ⟨5,11,ZD,ZD,0,0,0,[],0,0,false⟩
 rw[show ZQ ⟨5,11,ZD,ZD,0,0,0,[],0,0,false⟩=true by decide +kernel]at h
 exact h
theorem Gy [Known]:AP Tryz.prog 65 [.agg rqO] (.tup [.sl .ext [.int .u8 5,.int .u8 11],.int .i64 0]) []:=by
 have hR:=Gx
 refine AP.ofA (Zm Tryz.func65 Z Tryz.ntmps65 Z Z ?_)
 repeat'(first|(apply Zc (hR);kernel_rfl;(iterate 4 exact Z))|(apply ZR Tryz.func62 Tryz.ntmps62;exact Z;exact Z;kernel_rfl;(iterate 6 exact Z))|(apply ZR Tryz.func63 Tryz.ntmps63;exact Z;exact Z;kernel_rfl;(iterate 6 exact Z))|(apply ZR Tryz.func64 Tryz.ntmps64;exact Z;exact Z;kernel_rfl;(iterate 6 exact Z))|(apply ZR Tryz.func67 Tryz.ntmps67;exact Z;exact Z;kernel_rfl;(iterate 6 exact Z))|(apply ZR Tryz.func77 Tryz.ntmps77;exact Z;exact Z;kernel_rfl;(iterate 6 exact Z))|(apply Y8;(apply Zd Za;exact Z);exact Z)|refine We 80 ?_|refine WI ?_|refine Ks Z Z Z ?_|(apply WH Za;(iterate 5 exact Z);intro b hbn;(have hbn2:=hbn (List.cons_ne_nil _ _));subst hbn2;clear hbn)|refine Vu Za Z Z Z Z Z Z Z Z Z Z Z (Zn rfl) (Zn rfl) (List.cons_ne_nil _ _) Qd Qd Z Z ?_|refine Yf Za Z Z Z Z Z Z (Zn rfl) (List.cons_ne_nil _ _) Z Qd Qd Z Z Z ?_|(apply Zj Za;exact Z)|(apply Zg Za;exact Z)|(apply Zq Za;exact Z)|(apply Zi;(iterate 3 exact Z);(first|with_reducible assumption|decide +kernel|(solve|simp only[bn])))|(apply Zl;exact Z;(first|with_reducible assumption|decide +kernel|(solve|simp only[bn]));exact Z;exact Z)|(apply Ze;exact Z;(first|with_reducible assumption|decide +kernel|(solve|simp only[bn])))|refine Yl Za Z Z Z Z Z Z Z Z Z Z Z Z ?_|(apply Zx 6 Z9;decide +kernel;kernel_rfl;kernel_rfl;kernel_rfl;exact Z;exact Z)|(apply ZB;(iterate 4 exact Z))|exact AE.nil _ _ _ _|(apply ZF;exact Z)|(apply Z8;exact Z)|(apply ZN;exact Z;exact Z;decide +kernel;exact Z)|(apply ZP;exact Z)|(apply Yu;exact Z)|exact AO.nil _ _ _|(apply ZA;(decide +kernel))|(apply ZO;(iterate 3 exact Z))|exact AOs.nil|exact ZY rfl rfl|exact Y2 rfl rfl)
 all_goals exact Qe
theorem IN [Known]:AP Tryz.prog 71 [byE [5,11]] (.tup [.agg rqO,.int .i64 0]) []:=by
 have hW:=Gy
 have hE:=YB [5,11] [5,11]
 rw[show(([5,11]:List UInt8)==[5,11])=true by decide]at hE
 replace hE:AP Tryz.prog _ [.sl .ext [.int .u8 5,.int .u8 11],.sl .ext [.int .u8 5,.int .u8 11]] _ []:=hE
 show AP Tryz.prog _ [.sl .ext [.int .u8 5,.int .u8 11]] _ []
 refine AP.ofA (Zm Tryz.func71 Z Tryz.ntmps71 Z Z ?_)
 repeat'(first|(apply Zc (hW);kernel_rfl;(iterate 4 exact Z))|(apply Zc (hE);kernel_rfl;(iterate 4 exact Z))|(apply ZR Tryz.func68 Tryz.ntmps68;exact Z;exact Z;kernel_rfl;(iterate 6 exact Z))|(apply ZR Tryz.func69 Tryz.ntmps69;exact Z;exact Z;kernel_rfl;(iterate 6 exact Z))|(apply ZR Tryz.func70 Tryz.ntmps70;exact Z;exact Z;kernel_rfl;(iterate 6 exact Z))|(apply ZR Tryz.func98 Tryz.ntmps98;exact Z;exact Z;kernel_rfl;(iterate 6 exact Z))|(apply ZR Tryz.func96 Tryz.ntmps96;exact Z;exact Z;kernel_rfl;(iterate 6 exact Z))|(apply ZR Tryz.func97 Tryz.ntmps97;exact Z;exact Z;kernel_rfl;(iterate 6 exact Z))|(apply ZR Tryz.func73 Tryz.ntmps73;exact Z;exact Z;kernel_rfl;(iterate 6 exact Z))|(apply ZR Tryz.func77 Tryz.ntmps77;exact Z;exact Z;kernel_rfl;(iterate 6 exact Z))|(apply Y8;(apply Zd Za;exact Z);exact Z)|refine We 80 ?_|refine WI ?_|(apply WH Za;(iterate 5 exact Z);intro b hbn;(have hbn2:=hbn (List.cons_ne_nil _ _));subst hbn2;clear hbn)|(apply Zo Za;(iterate 5 exact Z);(first|exact .dft _|exact .lit _ _ _ _ rfl (by decide +kernel));(first|exact .dft _|exact .lit _ _ _ _ rfl (by decide +kernel));decide +kernel;decide +kernel;exact Zn rfl;exact Z)|refine Vu Za Z Z Z Z Z Z Z Z Z Z Z (Zn rfl) (Zn rfl) (List.cons_ne_nil _ _) Qd Qd Z Z ?_|(apply Zj Za;exact Z)|(apply Zg Za;exact Z)|(apply Zq Za;exact Z)|(apply Zi;(iterate 3 exact Z);(first|with_reducible assumption|decide +kernel|(solve|simp only[bn])))|(apply Zr;(iterate 3 exact Z);(first|with_reducible assumption|decide +kernel|(solve|simp only[bn])))|(apply Zk;exact Z;(first|with_reducible assumption|decide +kernel|(solve|simp only[bn]));exact Z;exact Z)|(apply Zl;exact Z;(first|with_reducible assumption|decide +kernel|(solve|simp only[bn]));exact Z;exact Z)|(apply Zf;exact Z;(first|with_reducible assumption|decide +kernel|(solve|simp only[bn])))|(apply Ze;exact Z;(first|with_reducible assumption|decide +kernel|(solve|simp only[bn])))|refine Zp Za Z Z Z Z ?_|refine Yl Za Z Z Z Z Z Z Z Z Z Z Z Z ?_|(apply Zv Za;(iterate 6 exact Z);(first|exact Qt|rotate_left);(first|with_reducible assumption|decide +kernel|exact Z);(first|exact Zn rfl|with_reducible assumption|decide +kernel|rotate_left))|(apply Wd;exact Z;exact Z;(first|exact Qt|rotate_left);exact Z))
 all_goals exact Qe
abbrev rq9:List D:=[.int .u64 9,.int .i64 0,.bool false,.int .u64 0,.int .u64 0,.str [],.str [],.bool false,.int .u64 0,.int .u64 0,.str [],.str [],.int .i64 0,.int .i64 0,.int .i64 0,.sl .ext [],.int .u64 0,.int .u64 0,.bool false]
theorem Gz [Known]:AP Tryz.prog 93 [.agg rq9] (.bool false) []:=by
 have h:=WK ⟨9,0,ZD,ZD,0,0,0,[],0,0,false⟩
 rw[show ZQ ⟨9,0,ZD,ZD,0,0,0,[],0,0,false⟩=false by decide +kernel]at h
 exact h
theorem GA [Known]:AP Tryz.prog 65 [.agg rq9] (.tup [.sl .ext [],.int .i64 3]) []:=by
 have hR:=Gz
 refine AP.ofA (Zm Tryz.func65 Z Tryz.ntmps65 Z Z ?_)
 repeat'(first|(apply Zc (hR);kernel_rfl;(iterate 4 exact Z))|(apply Zj Za;exact Z)|(apply Zg Za;exact Z)|(apply Zq Za;exact Z)|(apply Zf;exact Z;(first|with_reducible assumption|decide +kernel|(solve|simp only[bn]))))
 all_goals exact Qe
theorem IP [Known]:AP Tryz.prog 71 [byE [9]] (.tup [.agg Gw,.int .i64 3]) []:=by
 have hW:=GA
 show AP Tryz.prog _ [.sl .ext [.int .u8 9]] _ []
 refine AP.ofA (Zm Tryz.func71 Z Tryz.ntmps71 Z Z ?_)
 repeat'(first|(apply Zc (hW);kernel_rfl;(iterate 4 exact Z))|(apply ZR Tryz.func68 Tryz.ntmps68;exact Z;exact Z;kernel_rfl;(iterate 6 exact Z))|(apply ZR Tryz.func69 Tryz.ntmps69;exact Z;exact Z;kernel_rfl;(iterate 6 exact Z))|(apply ZR Tryz.func70 Tryz.ntmps70;exact Z;exact Z;kernel_rfl;(iterate 6 exact Z))|(apply ZR Tryz.func98 Tryz.ntmps98;exact Z;exact Z;kernel_rfl;(iterate 6 exact Z))|(apply ZR Tryz.func96 Tryz.ntmps96;exact Z;exact Z;kernel_rfl;(iterate 6 exact Z))|(apply ZR Tryz.func97 Tryz.ntmps97;exact Z;exact Z;kernel_rfl;(iterate 6 exact Z))|(apply ZR Tryz.func73 Tryz.ntmps73;exact Z;exact Z;kernel_rfl;(iterate 6 exact Z))|(apply ZR Tryz.func77 Tryz.ntmps77;exact Z;exact Z;kernel_rfl;(iterate 6 exact Z))|(apply Y8;(apply Zd Za;exact Z);exact Z)|refine We 80 ?_|refine WI ?_|(apply WH Za;(iterate 5 exact Z);intro b hbn;(have hbn2:=hbn (List.cons_ne_nil _ _));subst hbn2;clear hbn)|(apply Zo Za;(iterate 5 exact Z);(first|exact .dft _|exact .lit _ _ _ _ rfl (by decide +kernel));(first|exact .dft _|exact .lit _ _ _ _ rfl (by decide +kernel));decide +kernel;decide +kernel;exact Zn rfl;exact Z)|refine Vu Za Z Z Z Z Z Z Z Z Z Z Z (Zn rfl) (Zn rfl) (List.cons_ne_nil _ _) Qd Qd Z Z ?_|(apply Zj Za;exact Z)|(apply Zg Za;exact Z)|(apply Zq Za;exact Z)|(apply Zi;(iterate 3 exact Z);(first|with_reducible assumption|decide +kernel|(solve|simp only[bn])))|(apply Zr;(iterate 3 exact Z);(first|with_reducible assumption|decide +kernel|(solve|simp only[bn])))|(apply Zz;(iterate 3 exact Z);(first|with_reducible assumption|decide +kernel|(solve|simp only[bn])))|(apply Zk;exact Z;(first|with_reducible assumption|decide +kernel|(solve|simp only[bn]));exact Z;exact Z)|(apply Zl;exact Z;(first|with_reducible assumption|decide +kernel|(solve|simp only[bn]));exact Z;exact Z)|(apply Zf;exact Z;(first|with_reducible assumption|decide +kernel|(solve|simp only[bn])))|(apply Ze;exact Z;(first|with_reducible assumption|decide +kernel|(solve|simp only[bn])))|refine Zp Za Z Z Z Z ?_|refine Yl Za Z Z Z Z Z Z Z Z Z Z Z Z ?_|(apply Zv Za;(iterate 6 exact Z);(first|exact Qt|rotate_left);(first|with_reducible assumption|decide +kernel|exact Z);(first|exact Zn rfl|with_reducible assumption|decide +kernel|rotate_left))|(apply Wd;exact Z;exact Z;(first|exact Qt|rotate_left);exact Z))
 all_goals exact Qe
theorem KG (n:Nat)(w:World)(h0:0<n)(hn:n<=140737488355328) :
  Calls Tryz.prog 101 #[.slice none 0 0,.int .i64 (n:Int)] w fun e w'=>e=.returned (.slice (some ⟨w.heap.size,0,none⟩) 0 (grownCap w n 0 5)) /\
   w'=w.drew.alloc (.cells (Builtin.zeroCells #[.int .u8 0] n++Builtin.zeroCells #[.int .u8 0] (grownCap w n 0 5-n)) 5):=by
 have h1:¬ ((n:Int)<0):=by omega
 have h2:wrap64 ((n:Int)-0)=(n:Int):=by unfold wrap64;omega
 have h3:((n:Int)>0):=by omega
 go_enter Tryz.func101,Tryz.ntmps101
 have tb:Tryz.t5.bytes=1:=rfl
 have h4:¬ (281474976710656<(n:Int)*(Tryz.t5.bytes:Int)):=by rw[tb];omega
 have h5:¬ (281474976710656<Builtin.nextslicecap n 0*Tryz.t5.bytes):=by rw[tb,nextslicecap_zero h0];omega
 rw[tb]at h4 h5
 simp only[Nat.mul_one]at h5
 go_wp2
 go_ret
 exact⟨rfl,rfl⟩
theorem KH [Known]:AP Tryz.prog 101 [.sl .nil [],.int .i64 0] (.sl .nil []) []:=by
 refine⟨fun g w vs hm hl hv=>?_⟩
 obtain⟨v0,v1,rfl⟩:∃ v0 v1,vs=[v0,v1]:=by
  match vs,hl with
  | [v0,v1],_=>exact⟨v0,v1,rfl⟩
 have h0:=hv 0 _ _ rfl rfl
 have h1:=(hv 1 _ _ rfl rfl).int_inv
 subst h1
 obtain⟨a1,a2⟩:=YS h0
 have a2:v0=.slice none 0 0:=a2
 subst a2
 refine((show Calls Tryz.prog 101 #[.slice none 0 0,.int .i64 0] w fun e w'=>e=.returned (.slice none 0 0)/\w'=w from ?_).mono fun e w' ⟨he,hw⟩=>?_)
 ·go_enter Tryz.func101,Tryz.ntmps101
  go_wp2
  go_ret
  exact⟨rfl,rfl⟩
 ·subst he hw
  exact⟨g,[],[],.ret (.sl .nil []),Evo.refl _,hm,⟨_,rfl,h0⟩,rfl,rfl,rfl⟩
theorem KI [Known](n:Nat)(h0:0<n)(hn:n<=140737488351232):AP Tryz.prog 101 [.sl .nil [],.int .i64 (n:Int)] (.sl (.own 0) []) [⟨0,1,5⟩]:=by
 refine⟨fun g w vs hm hl hv=>?_⟩
 obtain⟨v0,v1,rfl⟩:∃ v0 v1,vs=[v0,v1]:=by
  match vs,hl with
  | [v0,v1],_=>exact⟨v0,v1,rfl⟩
 have k0:=hv 0 _ _ rfl rfl
 have h1:=(hv 1 _ _ rfl rfl).int_inv
 subst h1
 obtain⟨a1,a2⟩:=YS k0
 have a2:v0=.slice none 0 0:=a2
 subst a2
 refine(KG n w h0 (by omega)).mono fun e w' ⟨he,hw⟩=>?_
 subst he hw
 have hd:Mem g [] [] w.drew:=hm.drew
 have hge:=grownCap_ge w n 0 5
 have hcm:=grownCap_le_maxLen w n 0 5 (by simp only[maxLen];omega)
 obtain⟨k1,k2,k3⟩:=hd.row (Builtin.zeroCells #[.int .u8 0] n++Builtin.zeroCells #[.int .u8 0] (grownCap w n 0 5-n)).toList [] (grownCap w n 0 5) 1 5 (by decide) (by
  rw[Array.length_toList,Array.size_append,size_zeroCells,size_zeroCells];simp;omega) (Nat.zero_le _) hcm (fun e h=>by simp at h) (fun j x u hx=>by simp at hx)
 exact⟨_,[],_,.ret (.sl (.own 0) []),Evo.drew.trans k1,k2,⟨_,rfl,k3⟩,rfl,rfl,rfl⟩
theorem VR (ls:List (List UInt8)){i:Nat}{x:List UInt8}(h:ls[i]?=some x):(ls.take (i+1)).flatten=(ls.take i).flatten++x:=by
 rw[List.take_add_one,h];simp
theorem UG (ls:List (List UInt8))(i:Nat):(ls.take i).flatten.length<=ls.flatten.length:=by
 conv=>rhs;rw[<- List.take_append_drop i ls,List.flatten_append,List.length_append]
 omega
theorem XT [Known](ls:List (List UInt8))(hl:ls.flatten.length<=1099511627776)(hn:ls.length<=1099511627776):AP Tryz.prog 75 [JP ls] (byE ls.flatten) []:=by
 refine AP.weak (Zm Tryz.func75 Z Tryz.ntmps75 Z Z ?_)
 have hU:=Xp ls
 repeat'(first|(apply Zj Za;exact Z)|(apply Zg Za;exact Z)|refine Zp Za Z Z Z Z ?_)
 refine Z4 (fun k tm bx fr=>∃ i,k+i=ls.length/\tm=[(0,JP ls),(3,.int .i64 (((ls.take i).flatten.length:Nat):Int)),(9,JP ls),(10,.int .i64 (((ls.map E.bys).length:Nat):Int)),(11,.int .i64 (i:Int))]/\bx=[]/\fr=[]) (ls.length+1) (Lands.mk' (m:=ls.length) (Nat.lt_succ_self _) ⟨0,rfl,rfl,rfl,rfl⟩ ?_ rfl rfl rfl rfl rfl rfl) ?_
 ·exact .cons rfl (.cons rfl (.cons rfl (.cons rfl (.cons rfl .nil))))
 rintro k tm bx fr ⟨i,hk,rfl,rfl,rfl⟩
 rcases Nat.lt_or_ge i ls.length with hlt|hge
 ·have hd:decide ((i:Int)<(((ls.map E.bys).length:Nat):Int))=true:=by simp;omega
  obtain⟨x,hx⟩:∃ x,ls[i]?=some x:=⟨_,List.getElem?_eq_getElem hlt⟩
  have hv:(ls.map E.bys)[((i:Nat):Int).toNat]?=some (E.bys x):=by simp[hx]
  have hf:=VR ls hx
  have hle:=UG ls (i+1)
  have e1:IntKind.i64.wrap ((((ls.take i).flatten.length:Nat):Int)+(((x.map E.byte).length:Nat):Int))=(((ls.take (i+1)).flatten.length:Nat):Int):=by
   rw[hf]at hle ⊢
   rw[List.length_append]at hle ⊢
   rw[List.length_map,IntWalk.i64_in _ (by omega)];omega
  have e2:IntKind.i64.wrap ((i:Int)+1)=((i+1:Nat):Int):=by rw[IntWalk.i64_in _ (by omega)];omega
  have hd2:decide ((((ls.take (i+1)).flatten.length:Nat):Int)<0)=false:=decide_eq_false (by omega)
  repeat'(first|rw[e1]|rw[e2]|(apply Zj Za;exact Z)|(apply Zg Za;exact Z)|(apply Zf;exact Z;(first|with_reducible assumption|(solve|simp only[bn])))|(apply Ze;exact Z;(first|with_reducible assumption|(solve|simp only[bn])))|refine Zp Za Z Z Z Z ?_|(apply Zv Za;(iterate 6 exact Z);(first|exact Qb|rotate_left);(first|with_reducible assumption|exact Z);(first|exact Zn rfl|with_reducible assumption|rotate_left)))
  refine Lands.mk' (m:=k-1) (by omega) ⟨i+1,by omega,rfl,rfl,rfl⟩ ?_ rfl rfl rfl rfl rfl rfl
  exact .cons rfl (.cons rfl (.cons rfl (.cons rfl (.cons rfl .nil))))
 ·have hd:decide ((i:Int)<(((ls.map E.bys).length:Nat):Int))=false:=by simp;omega
  have hall:ls.take i=ls:=List.take_of_length_le (by omega)
  rw[hall]
  rcases Nat.eq_zero_or_pos ls.flatten.length with h0|h0
  ·rw[h0]
   have hnil:∀ x ∈ ls,x=[]:=by simpa using List.eq_nil_of_length_eq_zero h0
   repeat'(first|(apply Uv KH;kernel_rfl;(iterate 4 exact Z))|(apply Zj Za;exact Z)|(apply Zg Za;exact Z)|(apply Ze;exact Z;(first|with_reducible assumption|(solve|simp only[bn])))|refine Zp Za Z Z Z Z ?_)
   refine Z4 (fun k tm bx fr=>∃ i,k+i=ls.length/\tm=[(6,.sl .nil []),(25,JP ls),(26,.int .i64 (((ls.map E.bys).length:Nat):Int)),(27,.int .i64 (i:Int))]/\bx=[]/\fr=[]) (ls.length+1) (Lands.mk' (m:=ls.length) (Nat.lt_succ_self _) ⟨0,rfl,rfl,rfl,rfl⟩ ?_ rfl rfl rfl rfl rfl rfl) ?_
   ·exact .cons rfl (.cons rfl (.cons rfl (.cons rfl .nil)))
   rintro k tm bx fr ⟨i,hk,rfl,rfl,rfl⟩
   rcases Nat.lt_or_ge i ls.length with hlt|hge
   ·have hd:decide ((i:Int)<(((ls.map E.bys).length:Nat):Int))=true:=by simp;omega
    obtain⟨x,hx⟩:∃ x,ls[i]?=some x:=⟨_,List.getElem?_eq_getElem hlt⟩
    obtain rfl:=hnil x (List.mem_of_getElem? hx)
    have hv:(ls.map E.bys)[((i:Nat):Int).toNat]?=some (E.bys []):=by simp[hx]
    have e2:IntKind.i64.wrap ((i:Int)+1)=((i+1:Nat):Int):=by rw[IntWalk.i64_in _ (by omega)];omega
    repeat'(first|rw[e2]|(apply Zj Za;exact Z)|(apply Zg Za;exact Z)|(apply Zf;exact Z;(first|with_reducible assumption|(solve|simp only[bn])))|refine Yt Za Z Z Z Z Z Z ?_|(apply Zv Za;(iterate 6 exact Z);(first|exact Qb|rotate_left);(first|with_reducible assumption|exact Z);(first|exact Zn rfl|with_reducible assumption|rotate_left)))
    refine Lands.mk' (m:=k-1) (by omega) ⟨i+1,by omega,rfl,rfl,rfl⟩ ?_ rfl rfl rfl rfl rfl rfl
    exact .cons rfl (.cons rfl (.cons rfl (.cons rfl .nil)))
   ·have hd:decide ((i:Int)<(((ls.map E.bys).length:Nat):Int))=false:=by simp;omega
    repeat'(first|(apply Zg Za;exact Z)|(apply Ze;exact Z;(first|with_reducible assumption|(solve|simp only[bn]))))
    (apply Oh;(apply Zd Za;exact Z);exact Z)
    rw[List.eq_nil_of_length_eq_zero h0];rfl
  ·repeat'(first|(apply Uv (KI ls.flatten.length h0 (by omega));kernel_rfl;(iterate 4 exact Z))|(apply Zj Za;exact Z)|(apply Zg Za;exact Z)|(apply Ze;exact Z;(first|with_reducible assumption|(solve|simp only[bn])))|refine Zp Za Z Z Z Z ?_)
   refine Z4 (fun k tm bx fr=>∃ i c,k+i=ls.length/\c=((ls.take i).flatten.map E.byte).length/\tm=[(6,.sl (.own 0) ((ls.take i).flatten.map E.byte)),(25,JP ls),(26,.int .i64 (((ls.map E.bys).length:Nat):Int)),(27,.int .i64 (i:Int))]/\bx=[]/\fr=[⟨c,1,5⟩]) (ls.length+1) (Lands.mk' (m:=ls.length) (Nat.lt_succ_self _) ⟨0,0,rfl,rfl,rfl,rfl,rfl⟩ ?_ rfl rfl rfl rfl rfl rfl) ?_
   ·exact .cons rfl (.cons rfl (.cons rfl (.cons rfl .nil)))
   rintro k tm bx fr ⟨i,c,hk,hc,rfl,rfl,rfl⟩
   rcases Nat.lt_or_ge i ls.length with hlt|hge
   ·have hd:decide ((i:Int)<(((ls.map E.bys).length:Nat):Int))=true:=by simp;omega
    obtain⟨x,hx⟩:∃ x,ls[i]?=some x:=⟨_,List.getElem?_eq_getElem hlt⟩
    have hv:(ls.map E.bys)[((i:Nat):Int).toNat]?=some (E.bys x):=by simp[hx]
    have e2:IntKind.i64.wrap ((i:Int)+1)=((i+1:Nat):Int):=by rw[IntWalk.i64_in _ (by omega)];omega
    have hf:=VR ls hx
    have hle:=UG ls (i+1)
    have hm:(ls.take (i+1)).flatten.map E.byte=(ls.take i).flatten.map E.byte++x.map E.byte:=by rw[hf,List.map_append]
    have hU1:=ZV (ls.take i).flatten
    have hU2:=ZV x
    rcases List.eq_nil_or_concat x with rfl|⟨x',y,hxy⟩
    ·repeat'(first|rw[e2]|(apply Zj Za;exact Z)|(apply Zg Za;exact Z)|(apply Zf;exact Z;(first|with_reducible assumption|(solve|simp only[bn])))|refine Yt Za Z Z Z Z Z Z ?_|(apply Zv Za;(iterate 6 exact Z);(first|exact Qb|rotate_left);(first|with_reducible assumption|exact Z);(first|exact Zn rfl|with_reducible assumption|rotate_left)))
     refine Lands.mk' (m:=k-1) (by omega) ⟨i+1,c,by omega,by rw[hm,hc];simp,rfl,rfl,rfl⟩ ?_ rfl rfl rfl rfl rfl rfl
     exact .cons (by rw[hm,List.map_nil,List.append_nil];rfl) (.cons rfl (.cons rfl (.cons rfl .nil)))
    ·have hne:x.map E.byte ≠ []:=by rw[hxy];simp
     have hl3:((ls.take i).flatten.map E.byte).length+(x.map E.byte).length<=1099511627776:=by
      rw[<- List.length_append,<- hm,List.length_map];omega
     repeat'(first|rw[e2]|(apply Zj Za;exact Z)|(apply Zg Za;exact Z)|(apply Zf;exact Z;(first|with_reducible assumption|(solve|simp only[bn])))|(apply Z6 Za;(iterate 6 exact Z);(first|with_reducible assumption|exact Z|rotate_left);exact Z;exact Z;(first|exact Zn rfl|with_reducible assumption|rotate_left);(first|exact Zn rfl|with_reducible assumption|rotate_left);(first|exact Qb|rotate_left);(first|exact Qb|rotate_left);(first|exact Qb|rotate_left);exact Z;exact Z)|(apply Zv Za;(iterate 6 exact Z);(first|exact Qb|rotate_left);(first|with_reducible assumption|exact Z);(first|exact Zn rfl|with_reducible assumption|rotate_left)))
     ·refine Lands.mk' (m:=k-1) (by omega) ⟨i+1,_,by omega,(by rw[hm,List.length_append]),rfl,rfl,rfl⟩ ?_ rfl rfl rfl rfl rfl rfl
      exact .cons (by rw[hm];rfl) (.cons rfl (.cons rfl (.cons rfl .nil)))
     ·simp only[maxLen];omega
     ·show _*1<=_
      omega
   ·have hd:decide ((i:Int)<(((ls.map E.bys).length:Nat):Int))=false:=by simp;omega
    repeat'(first|(apply Zg Za;exact Z)|(apply Ze;exact Z;(first|with_reducible assumption|(solve|simp only[bn]))))
    (apply Oh;(apply Zd Za;exact Z);exact Z)
    rw[List.take_of_length_le (by omega)]
abbrev UT (m:Bool)(left:List UInt8)(e:Int):List (List D):=[[.bool m,byE left,.int .i64 e]]
theorem Ih [Known]:AQ Tryz.prog 43 [] [] (.ptr 0 0) (UT true [] 0):=by
 refine AQ.weak (Zm Tryz.func43 Z Tryz.ntmps43 Z Z ?_)
 repeat'(first|(apply Zg Za;exact Z))
 (apply Zu [0];(apply Zd Za;exact Z);(iterate 4 exact Z))
 all_goals rfl
theorem XU [Known](m:Bool)(left:List UInt8)(e:Int):AQ Tryz.prog 74 [.ptr 0 0] (UT m left e) (.int .i64 (if m then e else 6)) (UT m left e):=by
 refine AQ.weak (Zm Tryz.func74 Z Tryz.ntmps74 Z Z ?_)
 cases m
 ·repeat'(first|(apply Zj Za;exact Z)|(apply Zg Za;exact Z)|(apply Zq Za;exact Z)|(apply Zi;(iterate 3 exact Z);(first|with_reducible assumption|(solve|simp only[bn])))|(apply Zl;exact Z;(first|with_reducible assumption|(solve|simp only[bn]));exact Z;exact Z)|(apply Zf;exact Z;(first|with_reducible assumption|(solve|simp only[bn]))))
  (apply Zu [0];(apply Zd Za;exact Z);(iterate 4 exact Z))
  all_goals rfl
 ·repeat'(first|(apply Zj Za;exact Z)|(apply Zg Za;exact Z)|(apply Zq Za;exact Z)|(apply Zi;(iterate 3 exact Z);(first|with_reducible assumption|(solve|simp only[bn])))|(apply Zl;exact Z;(first|with_reducible assumption|(solve|simp only[bn]));exact Z;exact Z)|(apply Ze;exact Z;(first|with_reducible assumption|(solve|simp only[bn]))))
  (apply Zu [0];(apply Zd Za;exact Z);(iterate 4 exact Z))
  all_goals rfl
theorem JS [Known](left:List UInt8)(e:Int):AQ Tryz.prog 74 [.ptr 0 0] (UT true left e) (.int .i64 e) (UT true left e):=XU true left e
theorem Ji [Known](m:Bool)(left:List UInt8)(e f:Int):AQ Tryz.prog 76 [.ptr 0 0,.int .i64 f] (UT m left e) (.tup []) (UT m [] f):=by
 refine AQ.weak (Zm Tryz.func76 Z Tryz.ntmps76 Z Z ?_)
 repeat'(first|(apply Zg Za;exact Z))
 first|(apply Zu [0];(apply Zd Za;exact Z);(iterate 4 exact Z))|(apply ON [0];(apply Zd Za;exact Z);(iterate 4 exact Z))
 all_goals rfl
end Go.Proofs.YtkdpfkjlheajhaaGreatDoor
end
section
open Go.RowKit Go.Pl
namespace Go.Av
theorem Qo [Known][Dfr]{P:Program}{Q:X->St->Prop}{x:X}{S:St}(h:Q x S):unK P Q [] x S:=h
section
variable {P:Program} {Q:X->St->Prop} {n:Nat} {ee:Nat × Nat} {tm:List (Nat × D)} {bx:List (List D)} {fr:List Fr} {T:Tab}
variable {ops:Array Oper} {rest:List Oper} {t ty:Nat} {pos:String} {after:Array Edge}
theorem UH [Known][Dfr](hT:chk P T=true){x lo:Operand}{st e:Nat}{tk:Tok}{l l2:List E}{k1:IntKind}{j:Int}{ti te:Ti}(hx:ev tm x=.sl tk l)(ht:tl T st=some ti)(hk:ti.kd=.slice e)(hte:tl T e=some te)(htd:Nat.blt t n=true)
  (hlo:ev tm lo=.int k1 j) (hU:Uni te.size l) (h0:0<=j) (hle:j.toNat<=l.length) (hd:l.drop j.toNat=l2)
  (kk:AL P ops rest ⟨n,(t,.sl .ext l2)::tm,bx,fr,ee⟩ Q):AL P ops (⟨some t,.slice st x (some lo) none none,ty,pos,after,none⟩::rest) ⟨n,tm,bx,fr,ee⟩ Q:=by
 subst hd
 exact Zo hT hx ht hk hte htd (.lit lo _ k1 j hlo h0) (.dft _) hle (Nat.le_refl _) hU (by rw[List.take_length]) kk
end
end Go.Av
end
section
namespace Go.Proofs.YtkdpfkjlheajhaaGreatDoor
def Z0 (b:List UInt8):Nat:=256*(b.getD 0 0).toNat+(b.getD 1 0).toNat
def ZG (b:List UInt8):List (List UInt8) × List UInt8 × Nat:=
 if b.length<2 then([],b,0)
 else if Z0 b=0 then([],[],3)
 else if Z0 b>1000 then([],[],2)
 else if h:b.length<Z0 b+2 then([],b,0)
 else
  let r:=ZG (b.drop (2+Z0 b))
  ((b.take (2+Z0 b)).drop 2::r.1,r.2)
termination_by b.length
decreasing_by simp;omega
theorem Y3 {b:List UInt8}(h:b.length<2):ZG b=([],b,0):=by rw[ZG,if_pos h]
theorem Vw {b:List UInt8}(h:¬ b.length<2)(h0:Z0 b=0):ZG b=([],[],3):=by rw[ZG,if_neg h,if_pos h0]
theorem Vx {b:List UInt8}(h:¬ b.length<2)(h0:Z0 b>1000):ZG b=([],[],2):=by rw[ZG,if_neg h,if_neg (by omega),if_pos h0]
theorem Vy {b:List UInt8}(h:¬ b.length<2)(h0:Z0 b ≠ 0)(h1:¬ Z0 b>1000)(h2:b.length<Z0 b+2):ZG b=([],b,0):=by rw[ZG,if_neg h,if_neg h0,if_neg h1,dif_pos h2]
theorem Wy {b:List UInt8}(h:¬ b.length<2)(h0:Z0 b ≠ 0)(h1:¬ Z0 b>1000)(h2:¬ b.length<Z0 b+2) :
  ZG b=((b.take (2+Z0 b)).drop 2::(ZG (b.drop (2+Z0 b))).1,(ZG (b.drop (2+Z0 b))).2):=by rw[ZG,if_neg h,if_neg h0,if_neg h1,dif_neg h2]
abbrev Dec:=List UInt8 × Nat
def VS (d:Dec)(b:List UInt8):List (List UInt8) × Dec:=if d.2=0 then ZG (d.1++b) else([],d)
def Ii (b:List UInt8):List UInt8:=UInt8.ofNat (b.length/256)::UInt8.ofNat (b.length % 256)::b
theorem JT (b:List UInt8):(ZG b).2.1.length<=b.length:=by
 fun_induction ZG b with
 | case1 b h=>simp
 | case2 b h h0=>simp
 | case3 b h h0 h1=>simp
 | case4 b h h0 h1 h2=>simp
 | case5 b h h0 h1 h2 r ih=>simp only[List.length_drop]at ih;show(ZG (b.drop (2+Z0 b))).2.1.length<=_;omega
theorem Uh (b:List UInt8):(ZG b).1.length<=b.length:=by
 fun_induction ZG b with
 | case1 b h=>simp
 | case2 b h h0=>simp
 | case3 b h h0 h1=>simp
 | case4 b h h0 h1 h2=>simp
 | case5 b h h0 h1 h2 r ih=>simp only[List.length_drop]at ih;show(_::(ZG (b.drop (2+Z0 b))).1).length<=_;rw[List.length_cons];omega
theorem W2 {x:List UInt8}(y:List UInt8)(h:¬ x.length<2):Z0 (x++y)=Z0 x:=by
 match x,h with
 | a::b::r,_=>rfl
 | [_],h=>simp at h
 | [],h=>simp at h
theorem VT (x y:List UInt8):ZG (x++y)=((ZG x).1++(VS (ZG x).2 y).1,(VS (ZG x).2 y).2):=by
 fun_induction ZG x with
 | case1 x h=>simp[VS]
 | case2 x h h0=>
  rw[Vw (by simp;omega) (by rw[W2 y h];exact h0)]
  simp[VS]
 | case3 x h h0 h1=>
  rw[Vx (by simp;omega) (by rw[W2 y h];exact h1)]
  simp[VS]
 | case4 x h h0 h1 h2=>simp[VS]
 | case5 x h h0 h1 h2 r ih=>
  have hl:=W2 y h
  rw[Wy (by simp;omega) (by rw[hl];exact h0) (by rw[hl];exact h1) (by rw[hl];simp;omega),hl]
  rw[List.take_append_of_le_length (by omega),List.drop_append_of_le_length (by omega),ih]
  rfl
end Go.Proofs.YtkdpfkjlheajhaaGreatDoor
end
