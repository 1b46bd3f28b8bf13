/- Arguments: structs of five fields; names and numbers of bundles. -/
import Derived.Test.YtchlgagdbflkmaaGreatDoorL01
import Derived.Test.YtchlgagdbflkmaaGreatDoorL07
import Derived.Test.YtchlgagdbflkmaaGreatDoorProg
import Derived.Test.YtchlgagdbflkmaaGreatDoorL11
import Derived.Test.YtchlgagdbflkmaaGreatDoorL10
import Derived.Recover
import Derived.Lib.AppendZeros
import Derived.Test.YtchlgagdbflkmaaGreatDoorL08
import Derived.Scope
set_option linter.unusedSimpArgs false
set_option linter.unusedVariables false
section
open Go.RowKit Go.Pl
namespace Go.Pl
variable {P:Program} {t:TypeId}
end Go.Pl
end
section
open Go.RowKit Go.Pl
namespace Go.Proofs.YtchlgagdbflkmaaGreatDoor
end Go.Proofs.YtchlgagdbflkmaaGreatDoor
end
section
open Go.RowKit Go.Pl Go.Av
namespace Go.Proofs.YtchlgagdbflkmaaGreatDoor
set_option maxHeartbeats 4000000
abbrev eqE (a b:EidV):Bool:=a.i==b.i&&((a.n:Int)==(b.n:Int)&&((a.s:Int)==(b.s:Int)&&(a.h==b.h&&(a.d==b.d&&true))))
theorem Kn {a b:EidV}:eqE a b=true ↔ a=b:=by
 obtain⟨i,n,s,h,d⟩:=a
 obtain⟨i',n',s',h',d'⟩:=b
 simp only[eqE,Bool.and_eq_true,beq_iff_eq,EidV.mk.injEq]
 constructor
 ·rintro⟨h1,h2,h3,h4,h5,_⟩
  exact⟨h1,by omega,by omega,h4,h5⟩
 ·rintro⟨h1,h2,h3,h4,h5⟩
  exact⟨h1,by omega,by omega,h4,h5,trivial⟩
abbrev XE:=Bool × Nat × Nat × List UInt8 × List UInt8
def XE.v (x:XE):EidV:=⟨x.1,x.2.1,x.2.2.1,x.2.2.2.1,x.2.2.2.2⟩
end Go.Proofs.YtchlgagdbflkmaaGreatDoor
end
section
open Go.RowKit Go.Pl
namespace Go.Av
section
variable {P:Program} {Q:X->St->Prop} {n:Nat} {ee:Nat × Nat} {tm tm':List (Nat × D)} {bx bx':List (List D)} {fr fr':List Fr} {b0:Bs} {g:G} {w:World} {a:Act} {T:Tab}
variable {ops:Array Oper} {rest:List Oper} {t ty:Nat} {pos:String} {after:Array Edge}
end
end Go.Av
end
section
open Go.RowKit Go.Pl Go.Av
namespace Go.Proofs.YtchlgagdbflkmaaGreatDoor
set_option maxHeartbeats 4000000
structure RqV where
 id:Nat
 kd:Int
 ep:EidV
 ds:EidV
 pol:Int
 num:Int
 tik:Int
 pay:List UInt8
 life:Nat
 tok:Nat
 on:Bool
abbrev rqC (x:RqV):List D:=[.int .u64 (x.id:Int),.int .i64 x.kd,.bool x.ep.i,.int .u64 (x.ep.n:Int),.int .u64 (x.ep.s:Int),.str x.ep.h,.str x.ep.d,.bool x.ds.i,.int .u64 (x.ds.n:Int),.int .u64 (x.ds.s:Int),.str x.ds.h,.str x.ds.d,.int .i64 x.pol,.int .i64 x.num,.int .i64 x.tik,byE x.pay,.int .u64 (x.life:Int),.int .u64 (x.tok:Int),.bool x.on]
def JP (x:EidV):Bool:=ZY x && !(isZ x)
theorem XV [Known](x:EidV):AP Tryz.prog 139 [.agg (eC x)] (.bool (JP x)) []:=by
 have hR:=QA x
 unfold JP
 cases hr:ZY x with
 | false=>
  rw[hr]at hR
  refine AP.ofA (Zp Tryz.func139 Z Tryz.ntmps139 Z Z ?_)
  repeat'(first|(apply Zc (hR);kernel_rfl;(iterate 4 exact Z))|(apply Zl Zb;exact Z)|(apply Zj Zb;exact Z)|(apply Zs;(iterate 3 exact Z);(first|with_reducible assumption|decide +kernel|(solve|simp only[bn])))|(apply Zn;exact Z;(first|with_reducible assumption|decide +kernel|(solve|simp only[bn]));exact Z;exact Z))
  all_goals exact Qe
 | true=>
  rw[hr]at hR
  refine AP.ofA (Zp Tryz.func139 Z Tryz.ntmps139 Z Z ?_)
  repeat'(first|(apply Zc (hR);kernel_rfl;(iterate 4 exact Z))|(apply Zl Zb;exact Z)|(apply Zj Zb;exact Z)|(apply Zi;(iterate 3 exact Z);(first|with_reducible assumption|decide +kernel|(solve|simp only[bn])))|(apply Zo;exact Z;(first|with_reducible assumption|decide +kernel|(solve|simp only[bn]));exact Z;exact Z)|refine We Zb Z Z Z Z Qk Qk Z Z Z ?_)
  all_goals exact Qe
def VF (a b:RqV):Bool:=((a.id:Int)==(b.id:Int))&&((a.kd==b.kd)&&(eqE a.ep b.ep&&(eqE a.ds b.ds&&((a.pol==b.pol)&&((a.num==b.num)&&((a.tik==b.tik)&&((a.pay==b.pay)&&(((a.life:Int)==(b.life:Int))&&(((a.tok:Int)==(b.tok:Int))&&(a.on==b.on))))))))))
theorem Ix [Known](a b:RqV):AP Tryz.prog 84 [.agg (rqC a),.agg (rqC b)] (.bool (VF a b)) []:=by
 have hB:=W8 a.pay b.pay
 unfold VF eqE
 refine AP.ofA (Zp Tryz.func84 Z Tryz.ntmps84 Z Z ?_)
 repeat'(first|(apply Zc (hB);kernel_rfl;(iterate 4 exact Z))|(apply Zl Zb;exact Z)|(apply Zj Zb;exact Z)|(apply Zi;(iterate 3 exact Z);(first|with_reducible assumption|(solve|simp only[bn])))|(apply Zs;(iterate 3 exact Z);(first|with_reducible assumption|(solve|simp only[bn])))|(apply ZZ;exact Z;exact Z;all_goals intro hb)|(apply Zo;exact Z;(first|with_reducible assumption|(solve|simp only[bn]));exact Z;exact Z)|(apply Zn;exact Z;(first|with_reducible assumption|(solve|simp only[bn]));exact Z;exact Z)|refine We Zb Z Z Z Z Qk Qk Z Z Z ?_)
 all_goals(apply Zw [];(apply Zd Zb;exact Z);(iterate 4 exact Z))
 all_goals first|rfl|(simp only[*,Bool.true_and,Bool.false_and];done)
theorem Xe (k:Int):k=1\/k=2\/k=3\/k=4\/k=5\/k=6\/k=7\/k=8\/k=9\/k=10\/k=11\/k=12\/((k==1)=false/\(k==2)=false/\(k==3)=false/\(k==4)=false/\(k==5)=false/\(k==6)=false/\(k==7)=false/\(k==8)=false/\(k==9)=false/\(k==10)=false/\(k==11)=false/\(k==12)=false):=by
 simp only[beq_eq_false_iff_ne];omega
abbrev rqZ (x:RqV):RqV:=⟨x.id,x.kd,Zx,Zx,0,0,0,[],0,0,false⟩
def Jc (x:RqV):RqV:=
 if x.kd==1||x.kd==3 then { rqZ x with ep:=x.ep,pol:=x.pol }
 else if x.kd==2||x.kd==6 then { rqZ x with ep:=x.ep }
 else if x.kd==4 then { rqZ x with ep:=x.ep,ds:=x.ds,pay:=x.pay,life:=x.life,on:=x.on }
 else if x.kd==5||(x.kd==8||x.kd==9) then { rqZ x with num:=x.num }
 else if x.kd==7 then { rqZ x with ep:=x.ep,tik:=x.tik }
 else if x.kd==10 then { rqZ x with on:=x.on }
 else if x.kd==12 then { rqZ x with tok:=x.tok }
 else rqZ x
def VS (x:RqV):Bool:=
 if x.kd==1||x.kd==3 then JP x.ep&&(decide (x.pol ≥ 0)&&decide (x.pol<=2))
 else if x.kd==2||x.kd==6 then JP x.ep
 else if x.kd==4 then JP x.ep&&(JP x.ds&&(decide ((x.pay.length:Int)<=200)&&(decide ((x.life:Int) ≥ 1)&&decide ((x.life:Int)<=1099511627776))))
 else if x.kd==5||(x.kd==8||x.kd==9) then decide (x.num ≥ 1)&&decide (x.num<=1099511627776)
 else if x.kd==7 then JP x.ep&&(decide (x.tik ≥ 1)&&decide (x.tik<=1000))
 else if x.kd==12 then decide ((x.tok:Int) ≥ 1)&&decide ((x.tok:Int)<=2147483648)
 else x.kd==10||x.kd==11
theorem Gg [Known](x:RqV):AP Tryz.prog 122 [.agg (rqC x)] (.agg (rqC (Jc x))) []:=by
 obtain⟨id,kd,⟨ei,en,es,eh,ed⟩,⟨di,dn,dq,dh,dd⟩,pol,num,tik,pay,life,tok,on⟩:=x
 show AP Tryz.prog _ [.agg [.int .u64 (id:Int),.int .i64 kd,.bool ei,.int .u64 (en:Int),.int .u64 (es:Int),.str eh,.str ed,.bool di,.int .u64 (dn:Int),.int .u64 (dq:Int),.str dh,.str dd,.int .i64 pol,.int .i64 num,.int .i64 tik,.sl .ext (pay.map E.byte),.int .u64 (life:Int),.int .u64 (tok:Int),.bool on]] _ []
 rcases Xe kd with rfl|rfl|rfl|rfl|rfl|rfl|rfl|rfl|rfl|rfl|rfl|rfl|⟨n1,n2,n3,n4,n5,n6,n7,n8,n9,n10,n11,n12⟩
 all_goals
  refine AP.ofA (Zp Tryz.func122 Z Tryz.ntmps122 Z Z ?_)
  repeat'(first|(apply Zl Zb;exact Z)|(apply Zj Zb;exact Z)|(apply Zt Zb;exact Z)|(apply Zf;exact Z;(first|with_reducible assumption|decide +kernel|(solve|simp only[bn])))|(apply Zg;exact Z;(first|with_reducible assumption|decide +kernel|(solve|simp only[bn])))|(apply Za 6 Ze;decide +kernel;kernel_rfl;kernel_rfl;kernel_rfl;exact Z;exact Z)|(apply Za 18 Ze;decide +kernel;kernel_rfl;kernel_rfl;kernel_rfl;exact Z;exact Z)|(apply Zv;(iterate 4 exact Z))|exact AE.nil _ _ _ _|(apply ZB;exact Z)|(apply Y3;exact Z)|(apply ZD;exact Z;exact Z;decide +kernel;exact Z)|(apply ZE;exact Z)|(apply WP;exact Z)|exact AO.nil _ _ _|(apply Zu;(decide +kernel))|(apply ZP;(iterate 3 exact Z))|exact AOs.nil|exact ZR rfl rfl|exact Y6 rfl)
  all_goals(apply Zw [];(apply Zd Zb;exact Z);(iterate 4 exact Z))
  all_goals first|rfl|(unfold Jc;dsimp only;simp only[*];rfl)
theorem Oy [Known](x:RqV):AP Tryz.prog 121 [.agg (rqC x)] (.bool (VS x)) []:=by
 have hN:=XV x.ep
 have hM:=XV x.ds
 have hbl:(x.pay.map E.byte).length=x.pay.length:=List.length_map ..
 unfold VS
 obtain⟨id,kd,⟨ei,en,es,eh,ed⟩,⟨di,dn,dq,dh,dd⟩,pol,num,tik,pay,life,tok,on⟩:=x
 dsimp only at hN hM ⊢
 show AP Tryz.prog _ [.agg [.int .u64 (id:Int),.int .i64 kd,.bool ei,.int .u64 (en:Int),.int .u64 (es:Int),.str eh,.str ed,.bool di,.int .u64 (dn:Int),.int .u64 (dq:Int),.str dh,.str dd,.int .i64 pol,.int .i64 num,.int .i64 tik,.sl .ext (pay.map E.byte),.int .u64 (life:Int),.int .u64 (tok:Int),.bool on]] _ []
 generalize JP ⟨ei,en,es,eh,ed⟩=bN at *
 generalize JP ⟨di,dn,dq,dh,dd⟩=bM at *
 rcases Xe kd with rfl|rfl|rfl|rfl|rfl|rfl|rfl|rfl|rfl|rfl|rfl|rfl|⟨n1,n2,n3,n4,n5,n6,n7,n8,n9,n10,n11,n12⟩
 all_goals
  try simp only[n1,n2,n3,n4,n5,n6,n7,n8,n9,n10,n11,n12]
  simp only[Int.reduceBEq,Bool.true_or,Bool.or_true,Bool.or_self,Bool.or_false,Bool.false_or,if_true,if_false,Bool.false_eq_true,hbl]
  refine AP.ofA (Zp Tryz.func121 Z Tryz.ntmps121 Z Z ?_)
  repeat'(first|(apply Zc (hN);kernel_rfl;(iterate 4 exact Z))|(apply Zc (hM);kernel_rfl;(iterate 4 exact Z))|(apply Zl Zb;exact Z)|(apply Zj Zb;exact Z)|(apply Zt Zb;exact Z)|(apply Zi;(iterate 3 exact Z);(first|with_reducible assumption|decide +kernel|(solve|simp only[bn])))|(apply Zs;(iterate 3 exact Z);(first|with_reducible assumption|decide +kernel|(solve|simp only[bn])))|(apply Zq;(iterate 3 exact Z);(first|with_reducible assumption|decide +kernel|(solve|simp only[bn])))|(apply ZZ;exact Z;exact Z;all_goals intro hb)|(apply Zo;exact Z;(first|with_reducible assumption|decide +kernel|(solve|simp only[bn]));exact Z;exact Z)|(apply Zn;exact Z;(first|with_reducible assumption|decide +kernel|(solve|simp only[bn]));exact Z;exact Z)|(apply Zf;exact Z;(first|with_reducible assumption|decide +kernel|(solve|simp only[bn])))|(apply Zg;exact Z;(first|with_reducible assumption|decide +kernel|(solve|simp only[bn])))|refine Zz Zb Z Z Z Z ?_)
  all_goals(apply Zw [];(apply Zd Zb;exact Z);(iterate 4 exact Z))
  all_goals first|rfl|(simp only[*];done)|(simp only[*];rfl)|(clear hN hM;simp_all;done)|(clear hN hM;simp_all;omega)
def ZI (x:RqV):Bool:=decide ((x.id:Int) ≥ 1)&&(decide ((x.id:Int)<=1099511627776)&&(VS x&&VF x (Jc x)))
theorem UU [Known](x:RqV):AP Tryz.prog 99 [.agg (rqC x)] (.bool (ZI x)) []:=by
 have hP:=Oy x
 have hO:=Gg x
 have hS:=Ix x (Jc x)
 unfold ZI
 generalize VS x=bP at *
 generalize VF x (Jc x)=bS at *
 generalize Jc x=y at *
 obtain⟨id,kd,⟨ei,en,es,eh,ed⟩,⟨di,dn,dq,dh,dd⟩,pol,num,tik,pay,life,tok,on⟩:=x
 obtain⟨yid,ykd,⟨yei,yen,yes,yeh,yed⟩,⟨ydi,ydn,ydq,ydh,ydd⟩,ypol,ynum,ytik,ypay,ylife,ytok,yon⟩:=y
 replace hP:AP Tryz.prog _ [.agg [.int .u64 (id:Int),.int .i64 kd,.bool ei,.int .u64 (en:Int),.int .u64 (es:Int),.str eh,.str ed,.bool di,.int .u64 (dn:Int),.int .u64 (dq:Int),.str dh,.str dd,.int .i64 pol,.int .i64 num,.int .i64 tik,.sl .ext (pay.map E.byte),.int .u64 (life:Int),.int .u64 (tok:Int),.bool on]] _ []:=hP
 replace hO:AP Tryz.prog _ [.agg [.int .u64 (id:Int),.int .i64 kd,.bool ei,.int .u64 (en:Int),.int .u64 (es:Int),.str eh,.str ed,.bool di,.int .u64 (dn:Int),.int .u64 (dq:Int),.str dh,.str dd,.int .i64 pol,.int .i64 num,.int .i64 tik,.sl .ext (pay.map E.byte),.int .u64 (life:Int),.int .u64 (tok:Int),.bool on]] (.agg [.int .u64 (yid:Int),.int .i64 ykd,.bool yei,.int .u64 (yen:Int),.int .u64 (yes:Int),.str yeh,.str yed,.bool ydi,.int .u64 (ydn:Int),.int .u64 (ydq:Int),.str ydh,.str ydd,.int .i64 ypol,.int .i64 ynum,.int .i64 ytik,.sl .ext (ypay.map E.byte),.int .u64 (ylife:Int),.int .u64 (ytok:Int),.bool yon]) []:=hO
 replace hS:AP Tryz.prog _ [.agg [.int .u64 (id:Int),.int .i64 kd,.bool ei,.int .u64 (en:Int),.int .u64 (es:Int),.str eh,.str ed,.bool di,.int .u64 (dn:Int),.int .u64 (dq:Int),.str dh,.str dd,.int .i64 pol,.int .i64 num,.int .i64 tik,.sl .ext (pay.map E.byte),.int .u64 (life:Int),.int .u64 (tok:Int),.bool on],.agg [.int .u64 (yid:Int),.int .i64 ykd,.bool yei,.int .u64 (yen:Int),.int .u64 (yes:Int),.str yeh,.str yed,.bool ydi,.int .u64 (ydn:Int),.int .u64 (ydq:Int),.str ydh,.str ydd,.int .i64 ypol,.int .i64 ynum,.int .i64 ytik,.sl .ext (ypay.map E.byte),.int .u64 (ylife:Int),.int .u64 (ytok:Int),.bool yon]] _ []:=hS
 show AP Tryz.prog _ [.agg [.int .u64 (id:Int),.int .i64 kd,.bool ei,.int .u64 (en:Int),.int .u64 (es:Int),.str eh,.str ed,.bool di,.int .u64 (dn:Int),.int .u64 (dq:Int),.str dh,.str dd,.int .i64 pol,.int .i64 num,.int .i64 tik,.sl .ext (pay.map E.byte),.int .u64 (life:Int),.int .u64 (tok:Int),.bool on]] (.bool (decide ((id:Int) ≥ 1)&&(decide ((id:Int)<=1099511627776)&&(bP&&bS)))) []
 cases t1:decide ((id:Int) ≥ 1) with
 | false=>
  refine AP.ofA (Zp Tryz.func99 Z Tryz.ntmps99 Z Z ?_)
  repeat'(first|(apply Zl Zb;exact Z)|(apply Zj Zb;exact Z)|(apply Zs;(iterate 3 exact Z);(first|with_reducible assumption|decide +kernel|(solve|simp only[bn])))|(apply Zn;exact Z;(first|with_reducible assumption|decide +kernel|(solve|simp only[bn]));exact Z;exact Z)|(apply Za 16 Ze;decide +kernel;kernel_rfl;kernel_rfl;kernel_rfl;exact Z;exact Z)|(apply Zv;(iterate 4 exact Z))|exact AE.nil _ _ _ _|(apply ZB;exact Z)|(apply ZD;exact Z;exact Z;decide +kernel;exact Z)|(apply ZE;exact Z)|exact AO.nil _ _ _|(apply Zu;(decide +kernel))|exact AOs.nil|exact ZR rfl rfl)
  all_goals exact Qe
 | true=>
  cases t2:decide ((id:Int)<=1099511627776) with
  | false=>
   refine AP.ofA (Zp Tryz.func99 Z Tryz.ntmps99 Z Z ?_)
   repeat'(first|(apply Zl Zb;exact Z)|(apply Zj Zb;exact Z)|(apply Zi;(iterate 3 exact Z);(first|with_reducible assumption|decide +kernel|(solve|simp only[bn])))|(apply Zs;(iterate 3 exact Z);(first|with_reducible assumption|decide +kernel|(solve|simp only[bn])))|(apply Zo;exact Z;(first|with_reducible assumption|decide +kernel|(solve|simp only[bn]));exact Z;exact Z)|(apply Zn;exact Z;(first|with_reducible assumption|decide +kernel|(solve|simp only[bn]));exact Z;exact Z)|(apply Za 16 Ze;decide +kernel;kernel_rfl;kernel_rfl;kernel_rfl;exact Z;exact Z)|(apply Zv;(iterate 4 exact Z))|exact AE.nil _ _ _ _|(apply ZB;exact Z)|(apply ZD;exact Z;exact Z;decide +kernel;exact Z)|(apply ZE;exact Z)|exact AO.nil _ _ _|(apply Zu;(decide +kernel))|exact AOs.nil|exact ZR rfl rfl)
   all_goals exact Qe
  | true=>
   cases bP with
   | false=>
    refine AP.ofA (Zp Tryz.func99 Z Tryz.ntmps99 Z Z ?_)
    repeat'(first|(apply Zc (hP);kernel_rfl;(iterate 4 exact Z))|(apply Zl Zb;exact Z)|(apply Zj Zb;exact Z)|(apply Zi;(iterate 3 exact Z);(first|with_reducible assumption|decide +kernel|(solve|simp only[bn])))|(apply Zs;(iterate 3 exact Z);(first|with_reducible assumption|decide +kernel|(solve|simp only[bn])))|(apply Zo;exact Z;(first|with_reducible assumption|decide +kernel|(solve|simp only[bn]));exact Z;exact Z)|(apply Zn;exact Z;(first|with_reducible assumption|decide +kernel|(solve|simp only[bn]));exact Z;exact Z)|(apply Za 16 Ze;decide +kernel;kernel_rfl;kernel_rfl;kernel_rfl;exact Z;exact Z)|(apply Zv;(iterate 4 exact Z))|exact AE.nil _ _ _ _|(apply ZB;exact Z)|(apply ZD;exact Z;exact Z;decide +kernel;exact Z)|(apply ZE;exact Z)|exact AO.nil _ _ _|(apply Zu;(decide +kernel))|exact AOs.nil|exact ZR rfl rfl)
    all_goals exact Qe
   | true=>
    refine AP.ofA (Zp Tryz.func99 Z Tryz.ntmps99 Z Z ?_)
    repeat'(first|(apply Zc (hP);kernel_rfl;(iterate 4 exact Z))|(apply Zc (hO);kernel_rfl;(iterate 4 exact Z))|(apply Zc (hS);kernel_rfl;(iterate 4 exact Z))|(apply Zl Zb;exact Z)|(apply Zj Zb;exact Z)|(apply Zi;(iterate 3 exact Z);(first|with_reducible assumption|decide +kernel|(solve|simp only[bn])))|(apply Zo;exact Z;(first|with_reducible assumption|decide +kernel|(solve|simp only[bn]));exact Z;exact Z)|(apply Za 16 Ze;decide +kernel;kernel_rfl;kernel_rfl;kernel_rfl;exact Z;exact Z)|(apply Zv;(iterate 4 exact Z))|exact AE.nil _ _ _ _|(apply ZB;exact Z)|(apply ZD;exact Z;exact Z;decide +kernel;exact Z)|(apply ZE;exact Z)|exact AO.nil _ _ _|(apply Zu;(decide +kernel))|exact AOs.nil|exact ZR rfl rfl)
    all_goals exact Qe
abbrev rqO:List D:=[.int .u64 5,.int .i64 11,.bool false,.int .u64 0,.int .u64 0,.str [],.str [],.bool false,.int .u64 0,.int .u64 0,.str [],.str [],.int .i64 0,.int .i64 0,.int .i64 0,.sl .ext [],.int .u64 0,.int .u64 0,.bool false]
abbrev NL:List D:=[.int .u64 0,.int .i64 0,.bool false,.int .u64 0,.int .u64 0,.str [],.str [],.bool false,.int .u64 0,.int .u64 0,.str [],.str [],.int .i64 0,.int .i64 0,.int .i64 0,.sl .ext [],.int .u64 0,.int .u64 0,.bool false]
theorem NM [Known]:AP Tryz.prog 99 [.agg rqO] (.bool true) []:=by
 have h:=UU ⟨5,11,Zx,Zx,0,0,0,[],0,0,false⟩
 rw[show ZI ⟨5,11,Zx,Zx,0,0,0,[],0,0,false⟩=true by decide +kernel]at h
 exact h
theorem NN [Known]:AP Tryz.prog 67 [.agg rqO] (.tup [.sl .ext [.int .u8 5,.int .u8 11],.int .i64 0]) []:=by
 have hR:=NM
 refine AP.ofA (Zp Tryz.func67 Z Tryz.ntmps67 Z Z ?_)
 repeat'(first|(apply Zc (hR);kernel_rfl;(iterate 4 exact Z))|(apply Zr Tryz.func64 Tryz.ntmps64;exact Z;exact Z;kernel_rfl;(iterate 6 exact Z))|(apply Zr Tryz.func65 Tryz.ntmps65;exact Z;exact Z;kernel_rfl;(iterate 6 exact Z))|(apply Zr Tryz.func66 Tryz.ntmps66;exact Z;exact Z;kernel_rfl;(iterate 6 exact Z))|(apply Zr Tryz.func69 Tryz.ntmps69;exact Z;exact Z;kernel_rfl;(iterate 6 exact Z))|(apply Zr Tryz.func92 Tryz.ntmps92;exact Z;exact Z;kernel_rfl;(iterate 6 exact Z))|(apply Z4;(apply Zd Zb;exact Z);exact Z)|refine Yi 80 ?_|refine YE ?_|refine I5 Z Z Z ?_|(apply Ug Zb;(iterate 5 exact Z);intro b hbn;(have hbn2:=hbn (List.cons_ne_nil _ _));subst hbn2;clear hbn)|refine Yl Zb Z Z Z Z Z Z Z Z Z Z Z (Zk rfl) (Zk rfl) (List.cons_ne_nil _ _) Qd Qd Z Z ?_|refine ZL Zb Z Z Z Z Z Z (Zk rfl) (List.cons_ne_nil _ _) Z Qd Qd Z Z Z ?_|(apply Zl Zb;exact Z)|(apply Zj Zb;exact Z)|(apply Zt Zb;exact Z)|(apply Zi;(iterate 3 exact Z);(first|with_reducible assumption|decide +kernel|(solve|simp only[bn])))|(apply Zn;exact Z;(first|with_reducible assumption|decide +kernel|(solve|simp only[bn]));exact Z;exact Z)|(apply Zg;exact Z;(first|with_reducible assumption|decide +kernel|(solve|simp only[bn])))|refine Z8 Zb Z Z Z Z Z Z Z Z Z Z Z Z ?_|(apply Za 6 Ze;decide +kernel;kernel_rfl;kernel_rfl;kernel_rfl;exact Z;exact Z)|(apply Zv;(iterate 4 exact Z))|exact AE.nil _ _ _ _|(apply ZB;exact Z)|(apply Z1;exact Z)|(apply ZD;exact Z;exact Z;decide +kernel;exact Z)|(apply ZE;exact Z)|(apply Ye;exact Z)|exact AO.nil _ _ _|(apply Zu;(decide +kernel))|(apply ZP;(iterate 3 exact Z))|exact AOs.nil|exact ZR rfl rfl|exact YC rfl rfl)
 all_goals exact Qe
theorem TX [Known]:AP Tryz.prog 73 [byE [5,11]] (.tup [.agg rqO,.int .i64 0]) []:=by
 have hW:=NN
 have hE:=W8 [5,11] [5,11]
 rw[show(([5,11]:List UInt8)==[5,11])=true by decide]at hE
 replace hE:AP Tryz.prog _ [.sl .ext [.int .u8 5,.int .u8 11],.sl .ext [.int .u8 5,.int .u8 11]] _ []:=hE
 show AP Tryz.prog _ [.sl .ext [.int .u8 5,.int .u8 11]] _ []
 refine AP.ofA (Zp Tryz.func73 Z Tryz.ntmps73 Z Z ?_)
 repeat'(first|(apply Zc (hW);kernel_rfl;(iterate 4 exact Z))|(apply Zc (hE);kernel_rfl;(iterate 4 exact Z))|(apply Zr Tryz.func70 Tryz.ntmps70;exact Z;exact Z;kernel_rfl;(iterate 6 exact Z))|(apply Zr Tryz.func71 Tryz.ntmps71;exact Z;exact Z;kernel_rfl;(iterate 6 exact Z))|(apply Zr Tryz.func72 Tryz.ntmps72;exact Z;exact Z;kernel_rfl;(iterate 6 exact Z))|(apply Zr Tryz.func104 Tryz.ntmps104;exact Z;exact Z;kernel_rfl;(iterate 6 exact Z))|(apply Zr Tryz.func102 Tryz.ntmps102;exact Z;exact Z;kernel_rfl;(iterate 6 exact Z))|(apply Zr Tryz.func103 Tryz.ntmps103;exact Z;exact Z;kernel_rfl;(iterate 6 exact Z))|(apply Zr Tryz.func75 Tryz.ntmps75;exact Z;exact Z;kernel_rfl;(iterate 6 exact Z))|(apply Zr Tryz.func92 Tryz.ntmps92;exact Z;exact Z;kernel_rfl;(iterate 6 exact Z))|(apply Z4;(apply Zd Zb;exact Z);exact Z)|refine Yi 80 ?_|refine YE ?_|(apply Ug Zb;(iterate 5 exact Z);intro b hbn;(have hbn2:=hbn (List.cons_ne_nil _ _));subst hbn2;clear hbn)|(apply W9 Zb;(iterate 5 exact Z);(first|exact .dft _|exact .lit _ _ _ _ rfl (by decide +kernel));(first|exact .dft _|exact .lit _ _ _ _ rfl (by decide +kernel));decide +kernel;decide +kernel;exact Zk rfl;exact Z)|refine Yl Zb Z Z Z Z Z Z Z Z Z Z Z (Zk rfl) (Zk rfl) (List.cons_ne_nil _ _) Qd Qd Z Z ?_|(apply Zl Zb;exact Z)|(apply Zj Zb;exact Z)|(apply Zt Zb;exact Z)|(apply Zi;(iterate 3 exact Z);(first|with_reducible assumption|decide +kernel|(solve|simp only[bn])))|(apply Zs;(iterate 3 exact Z);(first|with_reducible assumption|decide +kernel|(solve|simp only[bn])))|(apply Zo;exact Z;(first|with_reducible assumption|decide +kernel|(solve|simp only[bn]));exact Z;exact Z)|(apply Zn;exact Z;(first|with_reducible assumption|decide +kernel|(solve|simp only[bn]));exact Z;exact Z)|(apply Zf;exact Z;(first|with_reducible assumption|decide +kernel|(solve|simp only[bn])))|(apply Zg;exact Z;(first|with_reducible assumption|decide +kernel|(solve|simp only[bn])))|refine Zz Zb Z Z Z Z ?_|refine Z8 Zb Z Z Z Z Z Z Z Z Z Z Z Z ?_|(apply ZF Zb;(iterate 6 exact Z);(first|exact Qt|rotate_left);(first|with_reducible assumption|decide +kernel|exact Z);(first|exact Zk rfl|with_reducible assumption|decide +kernel|rotate_left))|(apply Y0;exact Z;exact Z;(first|exact Qt|rotate_left);exact Z))
 all_goals exact Qe
abbrev rq9:List D:=[.int .u64 9,.int .i64 0,.bool false,.int .u64 0,.int .u64 0,.str [],.str [],.bool false,.int .u64 0,.int .u64 0,.str [],.str [],.int .i64 0,.int .i64 0,.int .i64 0,.sl .ext [],.int .u64 0,.int .u64 0,.bool false]
theorem NO [Known]:AP Tryz.prog 99 [.agg rq9] (.bool false) []:=by
 have h:=UU ⟨9,0,Zx,Zx,0,0,0,[],0,0,false⟩
 rw[show ZI ⟨9,0,Zx,Zx,0,0,0,[],0,0,false⟩=false by decide +kernel]at h
 exact h
theorem NP [Known]:AP Tryz.prog 67 [.agg rq9] (.tup [.sl .ext [],.int .i64 3]) []:=by
 have hR:=NO
 refine AP.ofA (Zp Tryz.func67 Z Tryz.ntmps67 Z Z ?_)
 repeat'(first|(apply Zc (hR);kernel_rfl;(iterate 4 exact Z))|(apply Zl Zb;exact Z)|(apply Zj Zb;exact Z)|(apply Zt Zb;exact Z)|(apply Zf;exact Z;(first|with_reducible assumption|decide +kernel|(solve|simp only[bn]))))
 all_goals exact Qe
theorem TY [Known]:AP Tryz.prog 73 [byE [9]] (.tup [.agg NL,.int .i64 3]) []:=by
 have hW:=NP
 show AP Tryz.prog _ [.sl .ext [.int .u8 9]] _ []
 refine AP.ofA (Zp Tryz.func73 Z Tryz.ntmps73 Z Z ?_)
 repeat'(first|(apply Zc (hW);kernel_rfl;(iterate 4 exact Z))|(apply Zr Tryz.func70 Tryz.ntmps70;exact Z;exact Z;kernel_rfl;(iterate 6 exact Z))|(apply Zr Tryz.func71 Tryz.ntmps71;exact Z;exact Z;kernel_rfl;(iterate 6 exact Z))|(apply Zr Tryz.func72 Tryz.ntmps72;exact Z;exact Z;kernel_rfl;(iterate 6 exact Z))|(apply Zr Tryz.func104 Tryz.ntmps104;exact Z;exact Z;kernel_rfl;(iterate 6 exact Z))|(apply Zr Tryz.func102 Tryz.ntmps102;exact Z;exact Z;kernel_rfl;(iterate 6 exact Z))|(apply Zr Tryz.func103 Tryz.ntmps103;exact Z;exact Z;kernel_rfl;(iterate 6 exact Z))|(apply Zr Tryz.func75 Tryz.ntmps75;exact Z;exact Z;kernel_rfl;(iterate 6 exact Z))|(apply Zr Tryz.func92 Tryz.ntmps92;exact Z;exact Z;kernel_rfl;(iterate 6 exact Z))|(apply Z4;(apply Zd Zb;exact Z);exact Z)|refine Yi 80 ?_|refine YE ?_|(apply Ug Zb;(iterate 5 exact Z);intro b hbn;(have hbn2:=hbn (List.cons_ne_nil _ _));subst hbn2;clear hbn)|(apply W9 Zb;(iterate 5 exact Z);(first|exact .dft _|exact .lit _ _ _ _ rfl (by decide +kernel));(first|exact .dft _|exact .lit _ _ _ _ rfl (by decide +kernel));decide +kernel;decide +kernel;exact Zk rfl;exact Z)|refine Yl Zb Z Z Z Z Z Z Z Z Z Z Z (Zk rfl) (Zk rfl) (List.cons_ne_nil _ _) Qd Qd Z Z ?_|(apply Zl Zb;exact Z)|(apply Zj Zb;exact Z)|(apply Zt Zb;exact Z)|(apply Zi;(iterate 3 exact Z);(first|with_reducible assumption|decide +kernel|(solve|simp only[bn])))|(apply Zs;(iterate 3 exact Z);(first|with_reducible assumption|decide +kernel|(solve|simp only[bn])))|(apply Zq;(iterate 3 exact Z);(first|with_reducible assumption|decide +kernel|(solve|simp only[bn])))|(apply Zo;exact Z;(first|with_reducible assumption|decide +kernel|(solve|simp only[bn]));exact Z;exact Z)|(apply Zn;exact Z;(first|with_reducible assumption|decide +kernel|(solve|simp only[bn]));exact Z;exact Z)|(apply Zf;exact Z;(first|with_reducible assumption|decide +kernel|(solve|simp only[bn])))|(apply Zg;exact Z;(first|with_reducible assumption|decide +kernel|(solve|simp only[bn])))|refine Zz Zb Z Z Z Z ?_|refine Z8 Zb Z Z Z Z Z Z Z Z Z Z Z Z ?_|(apply ZF Zb;(iterate 6 exact Z);(first|exact Qt|rotate_left);(first|with_reducible assumption|decide +kernel|exact Z);(first|exact Zk rfl|with_reducible assumption|decide +kernel|rotate_left))|(apply Y0;exact Z;exact Z;(first|exact Qt|rotate_left);exact Z))
 all_goals exact Qe
theorem Gh (n:Nat)(w:World)(h0:0<n)(hn:n<=140737488355328) :
  Calls Tryz.prog 116 #[.slice none 0 0,.int .i64 (n:Int)] w fun e w'=>e=.returned (.slice (some ⟨w.heap.size,0,none⟩) 0 (grownCap w n 0 5)) /\
   w'=w.drew.alloc (.cells (Builtin.zeroCells #[.int .u8 0] n++Builtin.zeroCells #[.int .u8 0] (grownCap w n 0 5-n)) 5):=by
 have h1:¬ ((n:Int)<0):=by omega
 have h2:wrap64 ((n:Int)-0)=(n:Int):=by unfold wrap64;omega
 have h3:((n:Int)>0):=by omega
 go_enter Tryz.func116,Tryz.ntmps116
 have tb:Tryz.t5.bytes=1:=rfl
 have h4:¬ (281474976710656<(n:Int)*(Tryz.t5.bytes:Int)):=by rw[tb];omega
 have h5:¬ (281474976710656<Builtin.nextslicecap n 0*Tryz.t5.bytes):=by rw[tb,nextslicecap_zero h0];omega
 rw[tb]at h4 h5
 simp only[Nat.mul_one]at h5
 go_wp2
 go_ret
 exact⟨rfl,rfl⟩
theorem Gi [Known]:AP Tryz.prog 116 [.sl .nil [],.int .i64 0] (.sl .nil []) []:=by
 refine⟨fun g w vs hm hl hv=>?_⟩
 obtain⟨v0,v1,rfl⟩:∃ v0 v1,vs=[v0,v1]:=by
  match vs,hl with
  | [v0,v1],_=>exact⟨v0,v1,rfl⟩
 have h0:=hv 0 _ _ rfl rfl
 have h1:=(hv 1 _ _ rfl rfl).int_inv
 subst h1
 obtain⟨a1,a2⟩:=WO h0
 have a2:v0=.slice none 0 0:=a2
 subst a2
 refine((show Calls Tryz.prog 116 #[.slice none 0 0,.int .i64 0] w fun e w'=>e=.returned (.slice none 0 0)/\w'=w from ?_).mono fun e w' ⟨he,hw⟩=>?_)
 ·go_enter Tryz.func116,Tryz.ntmps116
  go_wp2
  go_ret
  exact⟨rfl,rfl⟩
 ·subst he hw
  exact⟨g,[],[],.ret (.sl .nil []),Evo.refl _,hm,⟨_,rfl,h0⟩,rfl,rfl,rfl⟩
theorem Gj [Known](n:Nat)(h0:0<n)(hn:n<=140737488351232):AP Tryz.prog 116 [.sl .nil [],.int .i64 (n:Int)] (.sl (.own 0) []) [⟨0,1,5⟩]:=by
 refine⟨fun g w vs hm hl hv=>?_⟩
 obtain⟨v0,v1,rfl⟩:∃ v0 v1,vs=[v0,v1]:=by
  match vs,hl with
  | [v0,v1],_=>exact⟨v0,v1,rfl⟩
 have k0:=hv 0 _ _ rfl rfl
 have h1:=(hv 1 _ _ rfl rfl).int_inv
 subst h1
 obtain⟨a1,a2⟩:=WO k0
 have a2:v0=.slice none 0 0:=a2
 subst a2
 refine(Gh n w h0 (by omega)).mono fun e w' ⟨he,hw⟩=>?_
 subst he hw
 have hd:Mem g [] [] w.drew:=hm.drew
 have hge:=grownCap_ge w n 0 5
 have hcm:=grownCap_le_maxLen w n 0 5 (by simp only[maxLen];omega)
 obtain⟨k1,k2,k3⟩:=hd.row (Builtin.zeroCells #[.int .u8 0] n++Builtin.zeroCells #[.int .u8 0] (grownCap w n 0 5-n)).toList [] (grownCap w n 0 5) 1 5 (by decide) (by
  rw[Array.length_toList,Array.size_append,size_zeroCells,size_zeroCells];simp;omega) (Nat.zero_le _) hcm (fun e h=>by simp at h) (fun j x u hx=>by simp at hx)
 exact⟨_,[],_,.ret (.sl (.own 0) []),Evo.drew.trans k1,k2,⟨_,rfl,k3⟩,rfl,rfl,rfl⟩
theorem Jd (ls:List (List UInt8)){i:Nat}{x:List UInt8}(h:ls[i]?=some x):(ls.take (i+1)).flatten=(ls.take i).flatten++x:=by
 rw[List.take_add_one,h];simp
theorem Xf (ls:List (List UInt8))(i:Nat):(ls.take i).flatten.length<=ls.flatten.length:=by
 conv=>rhs;rw[<- List.take_append_drop i ls,List.flatten_append,List.length_append]
 omega
theorem Iy [Known](ls:List (List UInt8))(hl:ls.flatten.length<=1099511627776)(hn:ls.length<=1099511627776):AP Tryz.prog 90 [XA ls] (byE ls.flatten) []:=by
 refine AP.weak (Zp Tryz.func90 Z Tryz.ntmps90 Z Z ?_)
 have hU:=KL ls
 repeat'(first|(apply Zl Zb;exact Z)|(apply Zj Zb;exact Z)|refine Zz Zb Z Z Z Z ?_)
 refine Yr (fun k tm bx fr=>∃ i,k+i=ls.length/\tm=[(0,XA ls),(3,.int .i64 (((ls.take i).flatten.length:Nat):Int)),(9,XA ls),(10,.int .i64 (((ls.map E.bys).length:Nat):Int)),(11,.int .i64 (i:Int))]/\bx=[]/\fr=[]) (ls.length+1) (Lands.mk' (m:=ls.length) (Nat.lt_succ_self _) ⟨0,rfl,rfl,rfl,rfl⟩ ?_ rfl rfl rfl rfl rfl rfl) ?_
 ·exact .cons rfl (.cons rfl (.cons rfl (.cons rfl (.cons rfl .nil))))
 rintro k tm bx fr ⟨i,hk,rfl,rfl,rfl⟩
 rcases Nat.lt_or_ge i ls.length with hlt|hge
 ·have hd:decide ((i:Int)<(((ls.map E.bys).length:Nat):Int))=true:=by simp;omega
  obtain⟨x,hx⟩:∃ x,ls[i]?=some x:=⟨_,List.getElem?_eq_getElem hlt⟩
  have hv:(ls.map E.bys)[((i:Nat):Int).toNat]?=some (E.bys x):=by simp[hx]
  have hf:=Jd ls hx
  have hle:=Xf ls (i+1)
  have e1:IntKind.i64.wrap ((((ls.take i).flatten.length:Nat):Int)+(((x.map E.byte).length:Nat):Int))=(((ls.take (i+1)).flatten.length:Nat):Int):=by
   rw[hf]at hle ⊢
   rw[List.length_append]at hle ⊢
   rw[List.length_map,IntWalk.i64_in _ (by omega)];omega
  have e2:IntKind.i64.wrap ((i:Int)+1)=((i+1:Nat):Int):=by rw[IntWalk.i64_in _ (by omega)];omega
  have hd2:decide ((((ls.take (i+1)).flatten.length:Nat):Int)<0)=false:=decide_eq_false (by omega)
  repeat'(first|rw[e1]|rw[e2]|(apply Zl Zb;exact Z)|(apply Zj Zb;exact Z)|(apply Zf;exact Z;(first|with_reducible assumption|(solve|simp only[bn])))|(apply Zg;exact Z;(first|with_reducible assumption|(solve|simp only[bn])))|refine Zz Zb Z Z Z Z ?_|(apply ZF Zb;(iterate 6 exact Z);(first|exact Qb|rotate_left);(first|with_reducible assumption|exact Z);(first|exact Zk rfl|with_reducible assumption|rotate_left)))
  refine Lands.mk' (m:=k-1) (by omega) ⟨i+1,by omega,rfl,rfl,rfl⟩ ?_ rfl rfl rfl rfl rfl rfl
  exact .cons rfl (.cons rfl (.cons rfl (.cons rfl (.cons rfl .nil))))
 ·have hd:decide ((i:Int)<(((ls.map E.bys).length:Nat):Int))=false:=by simp;omega
  have hall:ls.take i=ls:=List.take_of_length_le (by omega)
  rw[hall]
  rcases Nat.eq_zero_or_pos ls.flatten.length with h0|h0
  ·rw[h0]
   have hnil:∀ x ∈ ls,x=[]:=by simpa using List.eq_nil_of_length_eq_zero h0
   repeat'(first|(apply J5 Gi;kernel_rfl;(iterate 4 exact Z))|(apply Zl Zb;exact Z)|(apply Zj Zb;exact Z)|(apply Zg;exact Z;(first|with_reducible assumption|(solve|simp only[bn])))|refine Zz Zb Z Z Z Z ?_)
   refine Yr (fun k tm bx fr=>∃ i,k+i=ls.length/\tm=[(6,.sl .nil []),(25,XA ls),(26,.int .i64 (((ls.map E.bys).length:Nat):Int)),(27,.int .i64 (i:Int))]/\bx=[]/\fr=[]) (ls.length+1) (Lands.mk' (m:=ls.length) (Nat.lt_succ_self _) ⟨0,rfl,rfl,rfl,rfl⟩ ?_ rfl rfl rfl rfl rfl rfl) ?_
   ·exact .cons rfl (.cons rfl (.cons rfl (.cons rfl .nil)))
   rintro k tm bx fr ⟨i,hk,rfl,rfl,rfl⟩
   rcases Nat.lt_or_ge i ls.length with hlt|hge
   ·have hd:decide ((i:Int)<(((ls.map E.bys).length:Nat):Int))=true:=by simp;omega
    obtain⟨x,hx⟩:∃ x,ls[i]?=some x:=⟨_,List.getElem?_eq_getElem hlt⟩
    obtain rfl:=hnil x (List.mem_of_getElem? hx)
    have hv:(ls.map E.bys)[((i:Nat):Int).toNat]?=some (E.bys []):=by simp[hx]
    have e2:IntKind.i64.wrap ((i:Int)+1)=((i+1:Nat):Int):=by rw[IntWalk.i64_in _ (by omega)];omega
    repeat'(first|rw[e2]|(apply Zl Zb;exact Z)|(apply Zj Zb;exact Z)|(apply Zf;exact Z;(first|with_reducible assumption|(solve|simp only[bn])))|refine ZN Zb Z Z Z Z Z Z ?_|(apply ZF Zb;(iterate 6 exact Z);(first|exact Qb|rotate_left);(first|with_reducible assumption|exact Z);(first|exact Zk rfl|with_reducible assumption|rotate_left)))
    refine Lands.mk' (m:=k-1) (by omega) ⟨i+1,by omega,rfl,rfl,rfl⟩ ?_ rfl rfl rfl rfl rfl rfl
    exact .cons rfl (.cons rfl (.cons rfl (.cons rfl .nil)))
   ·have hd:decide ((i:Int)<(((ls.map E.bys).length:Nat):Int))=false:=by simp;omega
    repeat'(first|(apply Zj Zb;exact Z)|(apply Zg;exact Z;(first|with_reducible assumption|(solve|simp only[bn]))))
    (apply KG;(apply Zd Zb;exact Z);exact Z)
    rw[List.eq_nil_of_length_eq_zero h0];rfl
  ·repeat'(first|(apply J5 (Gj ls.flatten.length h0 (by omega));kernel_rfl;(iterate 4 exact Z))|(apply Zl Zb;exact Z)|(apply Zj Zb;exact Z)|(apply Zg;exact Z;(first|with_reducible assumption|(solve|simp only[bn])))|refine Zz Zb Z Z Z Z ?_)
   refine Yr (fun k tm bx fr=>∃ i c,k+i=ls.length/\c=((ls.take i).flatten.map E.byte).length/\tm=[(6,.sl (.own 0) ((ls.take i).flatten.map E.byte)),(25,XA ls),(26,.int .i64 (((ls.map E.bys).length:Nat):Int)),(27,.int .i64 (i:Int))]/\bx=[]/\fr=[⟨c,1,5⟩]) (ls.length+1) (Lands.mk' (m:=ls.length) (Nat.lt_succ_self _) ⟨0,0,rfl,rfl,rfl,rfl,rfl⟩ ?_ rfl rfl rfl rfl rfl rfl) ?_
   ·exact .cons rfl (.cons rfl (.cons rfl (.cons rfl .nil)))
   rintro k tm bx fr ⟨i,c,hk,hc,rfl,rfl,rfl⟩
   rcases Nat.lt_or_ge i ls.length with hlt|hge
   ·have hd:decide ((i:Int)<(((ls.map E.bys).length:Nat):Int))=true:=by simp;omega
    obtain⟨x,hx⟩:∃ x,ls[i]?=some x:=⟨_,List.getElem?_eq_getElem hlt⟩
    have hv:(ls.map E.bys)[((i:Nat):Int).toNat]?=some (E.bys x):=by simp[hx]
    have e2:IntKind.i64.wrap ((i:Int)+1)=((i+1:Nat):Int):=by rw[IntWalk.i64_in _ (by omega)];omega
    have hf:=Jd ls hx
    have hle:=Xf ls (i+1)
    have hm:(ls.take (i+1)).flatten.map E.byte=(ls.take i).flatten.map E.byte++x.map E.byte:=by rw[hf,List.map_append]
    have hU1:=YD (ls.take i).flatten
    have hU2:=YD x
    rcases List.eq_nil_or_concat x with rfl|⟨x',y,hxy⟩
    ·repeat'(first|rw[e2]|(apply Zl Zb;exact Z)|(apply Zj Zb;exact Z)|(apply Zf;exact Z;(first|with_reducible assumption|(solve|simp only[bn])))|refine ZN Zb Z Z Z Z Z Z ?_|(apply ZF Zb;(iterate 6 exact Z);(first|exact Qb|rotate_left);(first|with_reducible assumption|exact Z);(first|exact Zk rfl|with_reducible assumption|rotate_left)))
     refine Lands.mk' (m:=k-1) (by omega) ⟨i+1,c,by omega,by rw[hm,hc];simp,rfl,rfl,rfl⟩ ?_ rfl rfl rfl rfl rfl rfl
     exact .cons (by rw[hm,List.map_nil,List.append_nil];rfl) (.cons rfl (.cons rfl (.cons rfl .nil)))
    ·have hne:x.map E.byte ≠ []:=by rw[hxy];simp
     have hl3:((ls.take i).flatten.map E.byte).length+(x.map E.byte).length<=1099511627776:=by
      rw[<- List.length_append,<- hm,List.length_map];omega
     repeat'(first|rw[e2]|(apply Zl Zb;exact Z)|(apply Zj Zb;exact Z)|(apply Zf;exact Z;(first|with_reducible assumption|(solve|simp only[bn])))|(apply ZJ Zb;(iterate 6 exact Z);(first|with_reducible assumption|exact Z|rotate_left);exact Z;exact Z;(first|exact Zk rfl|with_reducible assumption|rotate_left);(first|exact Zk rfl|with_reducible assumption|rotate_left);(first|exact Qb|rotate_left);(first|exact Qb|rotate_left);(first|exact Qb|rotate_left);exact Z;exact Z)|(apply ZF Zb;(iterate 6 exact Z);(first|exact Qb|rotate_left);(first|with_reducible assumption|exact Z);(first|exact Zk rfl|with_reducible assumption|rotate_left)))
     ·refine Lands.mk' (m:=k-1) (by omega) ⟨i+1,_,by omega,(by rw[hm,List.length_append]),rfl,rfl,rfl⟩ ?_ rfl rfl rfl rfl rfl rfl
      exact .cons (by rw[hm];rfl) (.cons rfl (.cons rfl (.cons rfl .nil)))
     ·simp only[maxLen];omega
     ·show _*1<=_
      omega
   ·have hd:decide ((i:Int)<(((ls.map E.bys).length:Nat):Int))=false:=by simp;omega
    repeat'(first|(apply Zj Zb;exact Z)|(apply Zg;exact Z;(first|with_reducible assumption|(solve|simp only[bn]))))
    (apply KG;(apply Zd Zb;exact Z);exact Z)
    rw[List.take_of_length_le (by omega)]
abbrev XB (m:Bool)(left:List UInt8)(e:Int):List (List D):=[[.bool m,byE left,.int .i64 e]]
theorem Th [Known]:AQ Tryz.prog 47 [] [] (.ptr 0 0) (XB true [] 0):=by
 refine AQ.weak (Zp Tryz.func47 Z Tryz.ntmps47 Z Z ?_)
 repeat'(first|(apply Zj Zb;exact Z))
 (apply Zw [0];(apply Zd Zb;exact Z);(iterate 4 exact Z))
 all_goals rfl
theorem Iz [Known](m:Bool)(left:List UInt8)(e:Int):AQ Tryz.prog 89 [.ptr 0 0] (XB m left e) (.int .i64 (if m then e else 6)) (XB m left e):=by
 refine AQ.weak (Zp Tryz.func89 Z Tryz.ntmps89 Z Z ?_)
 cases m
 ·repeat'(first|(apply Zl Zb;exact Z)|(apply Zj Zb;exact Z)|(apply Zt Zb;exact Z)|(apply Zi;(iterate 3 exact Z);(first|with_reducible assumption|(solve|simp only[bn])))|(apply Zn;exact Z;(first|with_reducible assumption|(solve|simp only[bn]));exact Z;exact Z)|(apply Zf;exact Z;(first|with_reducible assumption|(solve|simp only[bn]))))
  (apply Zw [0];(apply Zd Zb;exact Z);(iterate 4 exact Z))
  all_goals rfl
 ·repeat'(first|(apply Zl Zb;exact Z)|(apply Zj Zb;exact Z)|(apply Zt Zb;exact Z)|(apply Zi;(iterate 3 exact Z);(first|with_reducible assumption|(solve|simp only[bn])))|(apply Zn;exact Z;(first|with_reducible assumption|(solve|simp only[bn]));exact Z;exact Z)|(apply Zg;exact Z;(first|with_reducible assumption|(solve|simp only[bn]))))
  (apply Zw [0];(apply Zd Zb;exact Z);(iterate 4 exact Z))
  all_goals rfl
theorem Oz [Known](left:List UInt8)(e:Int):AQ Tryz.prog 89 [.ptr 0 0] (XB true left e) (.int .i64 e) (XB true left e):=Iz true left e
theorem KO [Known](m:Bool)(left:List UInt8)(e f:Int):AQ Tryz.prog 91 [.ptr 0 0,.int .i64 f] (XB m left e) (.tup []) (XB m [] f):=by
 refine AQ.weak (Zp Tryz.func91 Z Tryz.ntmps91 Z Z ?_)
 repeat'(first|(apply Zj Zb;exact Z))
 first|(apply Zw [0];(apply Zd Zb;exact Z);(iterate 4 exact Z))|(apply HY [0];(apply Zd Zb;exact Z);(iterate 4 exact Z))
 all_goals rfl
end Go.Proofs.YtchlgagdbflkmaaGreatDoor
end
section
open Go.RowKit Go.Pl
namespace Go.Av
theorem UA [Known][Dfr]{P:Program}{Q:X->St->Prop}{x:X}{S:St}(h:Q x S):unK P Q [] x S:=h
section
variable {P:Program} {Q:X->St->Prop} {n:Nat} {ee:Nat × Nat} {tm:List (Nat × D)} {bx:List (List D)} {fr:List Fr} {T:Tab}
variable {ops:Array Oper} {rest:List Oper} {t ty:Nat} {pos:String} {after:Array Edge}
theorem KP [Known][Dfr](hT:chk P T=true){x lo:Operand}{st e:Nat}{tk:Tok}{l l2:List E}{k1:IntKind}{j:Int}{ti te:Ti}(hx:ev tm x=.sl tk l)(ht:tl T st=some ti)(hk:ti.kd=.slice e)(hte:tl T e=some te)(htd:Nat.blt t n=true)
  (hlo:ev tm lo=.int k1 j) (hU:Uni te.size l) (h0:0<=j) (hle:j.toNat<=l.length) (hd:l.drop j.toNat=l2)
  (kk:AL P ops rest ⟨n,(t,.sl .ext l2)::tm,bx,fr,ee⟩ Q):AL P ops (⟨some t,.slice st x (some lo) none none,ty,pos,after,none⟩::rest) ⟨n,tm,bx,fr,ee⟩ Q:=by
 subst hd
 exact W9 hT hx ht hk hte htd (.lit lo _ k1 j hlo h0) (.dft _) hle (Nat.le_refl _) hU (by rw[List.take_length]) kk
end
end Go.Av
end
