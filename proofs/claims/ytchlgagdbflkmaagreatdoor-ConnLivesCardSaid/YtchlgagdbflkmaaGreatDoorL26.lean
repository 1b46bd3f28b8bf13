/- ConnLives: rounds that do nothing; bytes come; what is bound (cwgen.py). -/
import Derived.Test.YtchlgagdbflkmaaGreatDoorL25
import Derived.Test.YtchlgagdbflkmaaGreatDoorL16
set_option linter.unusedVariables false
set_option linter.unusedSimpArgs false
section
open Go.RowKit Go.Pl Go.Av
namespace Go.Proofs.YtchlgagdbflkmaaGreatDoor
set_option maxHeartbeats 4000000
set_option maxRecDepth 10000 in
theorem HF [Known][KnownSc][KnownPow](p left:List UInt8)(tk:Nat)(w:List RqV)(s:Int)(o:List UInt8)(e:Nat)(br:Int)(ops:List CoV)(i k:Nat)(kd n:Int)(b:List UInt8)(id:Nat)(err num cnt:Int)(tok:Nat)(data:List UInt8)(hk:k+i=60)(hlt:i<ops.length/\i<60)(hx:ops[i]?=some ⟨kd,n,b,⟨id,err,num,cnt,tok,data⟩⟩)(g1:decide (((b.map E.byte).length:Int)>1500)=false)(g2:decide (((p.map E.byte).length:Int)>9000)=false)(g3:decide (((data.map E.byte).length:Int)>1000)=false)(hok:Qg p left tk w e br)(hol2:o.length<=700*i)(q0:(kd==0)=false)(q1:(kd==1)=false)(q2:(kd==2)=false)(q3:(kd==3)=false)(q4:(kd==4)=false)(q5:(kd==5)=false)(Q:X->St->Prop) :
  AW Tryz.prog (WJ (Tryz.f3.body.getD .skip)) ⟨227,cwT ops i,cwB p left tk w s o e br,cwF p w o,(([]:List (List D)).length,([]:List Fr).length)⟩ (X.then (LandV (CwJ ops) 227 (([]:List (List D)).length,([]:List Fr).length) k) Q):=by
 conv=>enter [3];whnf
 have hol:(ops.map coE).length=ops.length:=List.length_map ..
 have hUo:=V8 ops
 have hd1:decide ((i:Int)<((ops.map coE).length:Int))=true:=decide_eq_true (by rw[hol];omega)
 have hd2:decide ((i:Int)<60)=true:=decide_eq_true (by omega)
 have ei:IntKind.i64.wrap ((i:Int)+1)=((i+1:Nat):Int):=by rw[IntWalk.i64_in _ (by omega)];omega
 have hxe:(ops.map coE)[((i:Nat):Int).toNat]?=some (coE ⟨kd,n,b,⟨id,err,num,cnt,tok,data⟩⟩):=by rw[Int.toNat_natCast,List.getElem?_map,hx];rfl
 replace hxe:(ops.map coE)[((i:Nat):Int).toNat]?=some (.agg [.int .i64 kd,.int .i64 n,.sl (b.map E.byte),.int .u64 (id:Int),.int .i64 err,.int .i64 num,.int .i64 cnt,.int .u64 (tok:Int),.sl (data.map E.byte)]):=hxe
 have hbl:b.length<=1500:=by rw[List.length_map]at g1;have:=of_decide_eq_false g1;omega
 have hpl:p.length<=9000:=by rw[List.length_map]at g2;have:=of_decide_eq_false g2;omega
 have zz:∀ x:Int,(x != x)=false:=fun x=>by simp
 have zy:∀ x:Int,(x==x)=true:=fun x=>by simp
 have zw:∀ x:Int,(!(x==x))=false:=fun x=>by simp
 have z1:=zz ((w.map rqE).length:Int)
 have z2:=zz s
 have z3:=zz (e:Int)
 repeat'(first|rw[ei]|refine ZF Zb Z Z Z Z Z Z (Int.natCast_nonneg _) hxe hUo ?_|(apply Zr Tryz.func23 Tryz.ntmps23;exact Z;exact Z;kernel_rfl;(iterate 6 exact Z))|(apply Zr Tryz.func24 Tryz.ntmps24;exact Z;exact Z;kernel_rfl;(iterate 6 exact Z))|(apply Zr Tryz.func25 Tryz.ntmps25;exact Z;exact Z;kernel_rfl;(iterate 6 exact Z))|(apply Zr Tryz.func54 Tryz.ntmps54;exact Z;exact Z;kernel_rfl;(iterate 6 exact Z))|(apply Z4;(apply Zd Zb;exact Z);exact Z)|(apply Zl Zb;exact Z)|(apply Zj Zb;exact Z)|(apply Zt Zb;exact Z)|(apply Zi;(iterate 3 exact Z);(first|with_reducible assumption|decide +kernel|(solve|simp only[bn])))|(apply Zo;exact Z;(first|with_reducible assumption|decide +kernel|(solve|simp only[bn]));exact Z;exact Z)|(apply Zn;exact Z;(first|with_reducible assumption|decide +kernel|(solve|simp only[bn]));exact Z;exact Z)|(apply Zf;exact Z;(first|with_reducible assumption|decide +kernel|(solve|simp only[bn])))|(apply Zg;exact Z;(first|with_reducible assumption|decide +kernel|(solve|simp only[bn])))|refine Zz Zb Z Z Z Z ?_|(apply Za 28 Ze;decide +kernel;kernel_rfl;kernel_rfl;kernel_rfl;exact Z;exact Z)|(apply Zv;(iterate 4 exact Z))|exact AE.nil _ _ _ _|(apply ZB;exact Z)|(apply ZD;exact Z;exact Z;decide +kernel;exact Z)|(apply ZE;exact Z)|exact AO.nil _ _ _|(apply Zu;(decide +kernel))|exact AOs.nil|exact ZR rfl rfl)
 refine LandV.of ?_
 refine LandS.mk' (m:=k-1) (tm1:=cwT ops (i+1)) (bx:=cwB p left tk w s o e br) (fr:=cwF p w o) [0,1,2] [0,1,2,3,4] (by omega) ⟨i+1,p,left,tk,w,s,o,e,br,by omega,hok,by omega,by omega,rfl,rfl,rfl⟩ rfl rfl rfl rfl ?_ rfl rfl rfl
 exact .cons rfl (.cons rfl (.cons rfl (.cons rfl .nil)))
set_option maxRecDepth 10000 in
theorem TC [Known][KnownSc][KnownPow](p left:List UInt8)(tk:Nat)(w:List RqV)(s:Int)(o:List UInt8)(e:Nat)(br:Int)(ops:List CoV)(i k:Nat)(kd n:Int)(b:List UInt8)(id:Nat)(err num cnt:Int)(tok:Nat)(data:List UInt8)(hk:k+i=60)(hlt:i<ops.length/\i<60)(hx:ops[i]?=some ⟨kd,n,b,⟨id,err,num,cnt,tok,data⟩⟩)(g1:decide (((b.map E.byte).length:Int)>1500)=false)(g2:decide (((p.map E.byte).length:Int)>9000)=false)(g3:decide (((data.map E.byte).length:Int)>1000)=false)(hok:Qg p left tk w e br)(hol2:o.length<=700*i)(q5:kd=5)(hn:n<0)(Q:X->St->Prop) :
  AW Tryz.prog (WJ (Tryz.f3.body.getD .skip)) ⟨227,cwT ops i,cwB p left tk w s o e br,cwF p w o,(([]:List (List D)).length,([]:List Fr).length)⟩ (X.then (LandV (CwJ ops) 227 (([]:List (List D)).length,([]:List Fr).length) k) Q):=by
 conv=>enter [3];whnf
 have hol:(ops.map coE).length=ops.length:=List.length_map ..
 have hUo:=V8 ops
 have hd1:decide ((i:Int)<((ops.map coE).length:Int))=true:=decide_eq_true (by rw[hol];omega)
 have hd2:decide ((i:Int)<60)=true:=decide_eq_true (by omega)
 have ei:IntKind.i64.wrap ((i:Int)+1)=((i+1:Nat):Int):=by rw[IntWalk.i64_in _ (by omega)];omega
 have hxe:(ops.map coE)[((i:Nat):Int).toNat]?=some (coE ⟨kd,n,b,⟨id,err,num,cnt,tok,data⟩⟩):=by rw[Int.toNat_natCast,List.getElem?_map,hx];rfl
 replace hxe:(ops.map coE)[((i:Nat):Int).toNat]?=some (.agg [.int .i64 kd,.int .i64 n,.sl (b.map E.byte),.int .u64 (id:Int),.int .i64 err,.int .i64 num,.int .i64 cnt,.int .u64 (tok:Int),.sl (data.map E.byte)]):=hxe
 have hbl:b.length<=1500:=by rw[List.length_map]at g1;have:=of_decide_eq_false g1;omega
 have hpl:p.length<=9000:=by rw[List.length_map]at g2;have:=of_decide_eq_false g2;omega
 have zz:∀ x:Int,(x != x)=false:=fun x=>by simp
 have zy:∀ x:Int,(x==x)=true:=fun x=>by simp
 have zw:∀ x:Int,(!(x==x))=false:=fun x=>by simp
 subst q5
 have dn:decide (n ≥ 0)=false:=decide_eq_false (by omega)
 have z1:=zz ((w.map rqE).length:Int)
 have z2:=zz s
 have z3:=zz (e:Int)
 repeat'(first|rw[ei]|refine ZF Zb Z Z Z Z Z Z (Int.natCast_nonneg _) hxe hUo ?_|(apply Zr Tryz.func23 Tryz.ntmps23;exact Z;exact Z;kernel_rfl;(iterate 6 exact Z))|(apply Zr Tryz.func24 Tryz.ntmps24;exact Z;exact Z;kernel_rfl;(iterate 6 exact Z))|(apply Zr Tryz.func25 Tryz.ntmps25;exact Z;exact Z;kernel_rfl;(iterate 6 exact Z))|(apply Zr Tryz.func54 Tryz.ntmps54;exact Z;exact Z;kernel_rfl;(iterate 6 exact Z))|(apply Z4;(apply Zd Zb;exact Z);exact Z)|(apply Zl Zb;exact Z)|(apply Zj Zb;exact Z)|(apply Zt Zb;exact Z)|(apply Zi;(iterate 3 exact Z);(first|with_reducible assumption|decide +kernel|(solve|simp only[bn])))|(apply Zo;exact Z;(first|with_reducible assumption|decide +kernel|(solve|simp only[bn]));exact Z;exact Z)|(apply Zn;exact Z;(first|with_reducible assumption|decide +kernel|(solve|simp only[bn]));exact Z;exact Z)|(apply Zf;exact Z;(first|with_reducible assumption|decide +kernel|(solve|simp only[bn])))|(apply Zg;exact Z;(first|with_reducible assumption|decide +kernel|(solve|simp only[bn])))|refine Zz Zb Z Z Z Z ?_|(apply Za 28 Ze;decide +kernel;kernel_rfl;kernel_rfl;kernel_rfl;exact Z;exact Z)|(apply Zv;(iterate 4 exact Z))|exact AE.nil _ _ _ _|(apply ZB;exact Z)|(apply ZD;exact Z;exact Z;decide +kernel;exact Z)|(apply ZE;exact Z)|exact AO.nil _ _ _|(apply Zu;(decide +kernel))|exact AOs.nil|exact ZR rfl rfl)
 refine LandV.of ?_
 refine LandS.mk' (m:=k-1) (tm1:=cwT ops (i+1)) (bx:=cwB p left tk w s o e br) (fr:=cwF p w o) [0,1,2] [0,1,2,3,4] (by omega) ⟨i+1,p,left,tk,w,s,o,e,br,by omega,hok,by omega,by omega,rfl,rfl,rfl⟩ rfl rfl rfl rfl ?_ rfl rfl rfl
 exact .cons rfl (.cons rfl (.cons rfl (.cons rfl .nil)))
set_option maxRecDepth 10000 in
theorem HG [Known][KnownSc][KnownPow](p left:List UInt8)(tk:Nat)(w:List RqV)(s:Int)(o:List UInt8)(e:Nat)(br:Int)(ops:List CoV)(i k:Nat)(kd n:Int)(b:List UInt8)(id:Nat)(err num cnt:Int)(tok:Nat)(data:List UInt8)(hk:k+i=60)(hlt:i<ops.length/\i<60)(hx:ops[i]?=some ⟨kd,n,b,⟨id,err,num,cnt,tok,data⟩⟩)(g1:decide (((b.map E.byte).length:Int)>1500)=false)(g2:decide (((p.map E.byte).length:Int)>9000)=false)(g3:decide (((data.map E.byte).length:Int)>1000)=false)(hok:Qg p left tk w e br)(hol2:o.length<=700*i)(q2:kd=2)(Q:X->St->Prop) :
  AW Tryz.prog (WJ (Tryz.f3.body.getD .skip)) ⟨227,cwT ops i,cwB p left tk w s o e br,cwF p w o,(([]:List (List D)).length,([]:List Fr).length)⟩ (X.then (LandV (CwJ ops) 227 (([]:List (List D)).length,([]:List Fr).length) k) Q):=by
 conv=>enter [3];whnf
 have hol:(ops.map coE).length=ops.length:=List.length_map ..
 have hUo:=V8 ops
 have hd1:decide ((i:Int)<((ops.map coE).length:Int))=true:=decide_eq_true (by rw[hol];omega)
 have hd2:decide ((i:Int)<60)=true:=decide_eq_true (by omega)
 have ei:IntKind.i64.wrap ((i:Int)+1)=((i+1:Nat):Int):=by rw[IntWalk.i64_in _ (by omega)];omega
 have hxe:(ops.map coE)[((i:Nat):Int).toNat]?=some (coE ⟨kd,n,b,⟨id,err,num,cnt,tok,data⟩⟩):=by rw[Int.toNat_natCast,List.getElem?_map,hx];rfl
 replace hxe:(ops.map coE)[((i:Nat):Int).toNat]?=some (.agg [.int .i64 kd,.int .i64 n,.sl (b.map E.byte),.int .u64 (id:Int),.int .i64 err,.int .i64 num,.int .i64 cnt,.int .u64 (tok:Int),.sl (data.map E.byte)]):=hxe
 have hbl:b.length<=1500:=by rw[List.length_map]at g1;have:=of_decide_eq_false g1;omega
 have hpl:p.length<=9000:=by rw[List.length_map]at g2;have:=of_decide_eq_false g2;omega
 have zz:∀ x:Int,(x != x)=false:=fun x=>by simp
 have zy:∀ x:Int,(x==x)=true:=fun x=>by simp
 have zw:∀ x:Int,(!(x==x))=false:=fun x=>by simp
 subst q2
 have hk1:=MD n s e (w.map rqE) (o.map E.byte) w.length o.length left br
 have hk2:=MB n s e (p.map E.byte) (w.map rqE) (o.map E.byte) p.length w.length o.length (tk:Int)
 generalize ON n s e=q at *
 have z0:=zy q.1
 have z4:=zw q.1
 have z1:=zz ((w.map rqE).length:Int)
 have z2:=zz q.2
 have z3:=zz (e:Int)
 repeat'(first|rw[ei]|refine ZF Zb Z Z Z Z Z Z (Int.natCast_nonneg _) hxe hUo ?_|(apply Zm [0,1] [0,1] (hk1);kernel_rfl;(iterate 10 exact Z))|(apply Zm [2] [2,3,4] (hk2);kernel_rfl;(iterate 10 exact Z))|(apply Zr Tryz.func23 Tryz.ntmps23;exact Z;exact Z;kernel_rfl;(iterate 6 exact Z))|(apply Zr Tryz.func24 Tryz.ntmps24;exact Z;exact Z;kernel_rfl;(iterate 6 exact Z))|(apply Zr Tryz.func25 Tryz.ntmps25;exact Z;exact Z;kernel_rfl;(iterate 6 exact Z))|(apply Zr Tryz.func54 Tryz.ntmps54;exact Z;exact Z;kernel_rfl;(iterate 6 exact Z))|(apply Z4;(apply Zd Zb;exact Z);exact Z)|(apply Zl Zb;exact Z)|(apply Zj Zb;exact Z)|(apply Zt Zb;exact Z)|(apply Zi;(iterate 3 exact Z);(first|with_reducible assumption|decide +kernel|(solve|simp only[bn])))|(apply Zo;exact Z;(first|with_reducible assumption|decide +kernel|(solve|simp only[bn]));exact Z;exact Z)|(apply Zn;exact Z;(first|with_reducible assumption|decide +kernel|(solve|simp only[bn]));exact Z;exact Z)|(apply Zf;exact Z;(first|with_reducible assumption|decide +kernel|(solve|simp only[bn])))|(apply Zg;exact Z;(first|with_reducible assumption|decide +kernel|(solve|simp only[bn])))|refine Zz Zb Z Z Z Z ?_|(apply Za 7 Ze;decide +kernel;kernel_rfl;kernel_rfl;kernel_rfl;exact Z;exact Z)|(apply Za 28 Ze;decide +kernel;kernel_rfl;kernel_rfl;kernel_rfl;exact Z;exact Z)|(apply Zv;(iterate 4 exact Z))|exact AE.nil _ _ _ _|(apply ZB;exact Z)|(apply Z1;exact Z)|(apply ZD;exact Z;exact Z;decide +kernel;exact Z)|(apply ZE;exact Z)|(apply Ye;exact Z)|exact AO.nil _ _ _|(apply Zu;(decide +kernel))|(apply ZP;(iterate 3 exact Z))|exact AOs.nil|exact ZR rfl rfl|exact YC rfl rfl)
 refine LandV.of ?_
 refine LandS.mk' (m:=k-1) (tm1:=cwT ops (i+1)) (bx:=cwB p left tk w q.2 o e br) (fr:=cwF p w o) [0,1,2] [0,1,2,3,4] (by omega) ⟨i+1,p,left,tk,w,q.2,o,e,br,by omega,hok,by omega,by omega,rfl,rfl,rfl⟩ rfl rfl rfl rfl ?_ rfl rfl rfl
 exact .cons rfl (.cons rfl (.cons rfl (.cons rfl .nil)))
def VM (k:Int):List UInt8:=
 if k==1||k==3 then [101,112] else if k==2||k==6 then [101] else if k==4 then [101,100,98,108,111] else if k==5||(k==8||k==9) then [110]
 else if k==7 then [101,116] else if k==10 then [111] else if k==11 then [] else if k==12 then [107] else [63]
def rfR (fe fd fp fn ft fl fk fb fo:Bool)(k1 k2:Int)(x:RqV):Bool:=
 (decide ((x.id:Int) ≥ 1)&&decide ((x.id:Int)<=1099511627776)) &&
 (!((fe&&decide (k1<1))||(!fe && !(isZ x.ep))) &&
 (!((fd&&decide (k2<1))||(!fd && !(isZ x.ds))) &&
 (!(decide (x.pol<0)||(decide (x.pol>2)||((!fp&&(x.pol != 0))||(decide (x.num<0)||decide (x.tik<0))))) &&
 (!((fn != decide (x.num>0))||(decide (x.num>1099511627776)||((ft != decide (x.tik>0))||decide (x.tik>1000)))) &&
 (!((fl != decide ((x.life:Int)>0))||(decide ((x.life:Int)>1099511627776)||((fk != decide ((x.tok:Int)>0))||decide ((x.tok:Int)>2147483648)))) &&
 (decide ((x.pay.length:Int)<=200)&&((fb||((x.pay.length:Int)==0))&&(fo || !x.on))))))))
def rfF (x:RqV):Bool:=rfR ((VM x.kd).contains 101) ((VM x.kd).contains 100) ((VM x.kd).contains 112) ((VM x.kd).contains 110) ((VM x.kd).contains 116) ((VM x.kd).contains 108) ((VM x.kd).contains 107) ((VM x.kd).contains 98) ((VM x.kd).contains 111) (W5 x.ep) (W5 x.ds) x
theorem eqZ (x:EidV):eqE x Zx=isZ x:=rfl
theorem eqS (x:EidV):eqE x x=true:=Kn.2 rfl
theorem Xw (x:RqV)(hk:x.kd=1\/x.kd=2\/x.kd=3\/x.kd=4\/x.kd=5\/x.kd=6\/x.kd=7\/x.kd=8\/x.kd=9\/x.kd=10\/x.kd=11\/x.kd=12):rfF x=ZI x:=by
 obtain⟨id,kd,ep,ds,pol,num,tik,pay,life,tok,on⟩:=x
 dsimp only at hk
 unfold rfF rfR ZI VS VF Jc JP
 rw[Qc,Qc]
 have hp0:((pay.length:Int)==0)=(pay==[]):=by cases pay<;>simp;omega
 rcases hk with rfl|rfl|rfl|rfl|rfl|rfl|rfl|rfl|rfl|rfl|rfl|rfl
 all_goals
  simp only[VM,Int.reduceBEq,Bool.true_or,Bool.or_true,Bool.or_self,Bool.or_false,Bool.false_or,if_true,if_false,Bool.false_eq_true,List.contains_cons,List.contains_nil]
  try simp only[show((101:UInt8)==101)=true from rfl,show((101:UInt8)==112)=false from rfl]
  simp only[eqZ,eqS,<- hp0,beq_self_eq_true]
  clear hp0
  generalize pay.length=pl
  rw[Bool.eq_iff_iff]
  cases ZY ep<;>cases isZ ep<;>cases ZY ds<;>cases isZ ds<;>cases on
  all_goals
   simp
   try omega
theorem WD [Known](k:Int):AP Tryz.prog 93 [.int .i64 k] (.str (VM k)) []:=by
 rcases Xe k with rfl|rfl|rfl|rfl|rfl|rfl|rfl|rfl|rfl|rfl|rfl|rfl|⟨n1,n2,n3,n4,n5,n6,n7,n8,n9,n10,n11,n12⟩
 all_goals
  refine AP.ofA (Zp Tryz.func93 Z Tryz.ntmps93 Z Z ?_)
  repeat'(first|(apply Zj Zb;exact Z)|(apply Zt Zb;exact Z)|(apply Zf;exact Z;(first|with_reducible assumption|decide +kernel|(solve|simp only[bn])))|(apply Zg;exact Z;(first|with_reducible assumption|decide +kernel|(solve|simp only[bn]))))
  all_goals(apply Zw [];(apply Zd Zb;exact Z);(iterate 4 exact Z))
  all_goals first|rfl|(unfold VM;simp only[*];rfl)
theorem TD [Known](s:List UInt8)(c:UInt8)(hs:s.length<=1000):AP Tryz.prog 111 [.str s,.int .u8 (c.toNat:Int)] (.bool (s.contains c)) []:=by
 refine AP.ofA (Zp Tryz.func111 Z Tryz.ntmps111 Z Z ?_)
 repeat'(first|(apply Zj Zb;exact Z))
 refine Yr (fun k tm bx fr=>∃ i:Nat,k+i=s.length/\c ∉ s.take i/\tm=[(0,.str s),(1,.int .u8 (c.toNat:Int)),(4,.bool false),(5,.int .i64 (i:Int))]/\bx=[]/\fr=[]) (s.length+1) (Lands.mk' (m:=s.length) (Nat.lt_succ_self _) ⟨0,rfl,by simp,rfl,rfl,rfl⟩ ?_ rfl rfl rfl rfl rfl rfl) ?_
 ·exact .cons rfl (.cons rfl (.cons rfl (.cons rfl .nil)))
 rintro k tm bx fr ⟨i,hk,hn,rfl,rfl,rfl⟩
 rcases Nat.lt_or_ge i s.length with hlt|hge
 ·have t1:decide ((i:Int)<(s.length:Int))=true:=decide_eq_true (by omega)
  obtain⟨d,hd⟩:∃ d,s[i]?=some d:=⟨_,List.getElem?_eq_getElem hlt⟩
  have hidx:s[((i:Nat):Int).toNat]?=some d:=by simpa using hd
  have ei:IntKind.i64.wrap ((i:Int)+1)=((i+1:Nat):Int):=by rw[IntWalk.i64_in _ (by omega)];omega
  by_cases he:d=c
  ·subst he
   have t2:((d.toNat:Int)==(d.toNat:Int))=true:=beq_self_eq_true _
   repeat'(first|refine Yo Zb Z Z Z Z Z (Int.natCast_nonneg _) hidx ?_|(apply Zl Zb;exact Z)|(apply Zj Zb;exact Z)|(apply Zt Zb;exact Z)|(apply Zf;exact Z;(first|with_reducible assumption|decide +kernel|(solve|simp only[bn])))|refine Yu ?_|refine ZG Zb Z Z Z Z ?_)
   all_goals(apply Zw [];(apply Zd Zb;exact Z);(iterate 4 exact Z))
   all_goals first|rfl|(rw[List.contains_iff_mem.2 (List.mem_of_getElem? hd)])
  ·have t2:((d.toNat:Int)==(c.toNat:Int))=false:=by
    rw[beq_eq_false_iff_ne]
    intro h
    exact he (UInt8.toNat_inj.1 (by omega))
   repeat'(first|rw[ei]|refine Yo Zb Z Z Z Z Z (Int.natCast_nonneg _) hidx ?_|(apply Zl Zb;exact Z)|(apply Zj Zb;exact Z)|(apply Zt Zb;exact Z)|(apply Zf;exact Z;(first|with_reducible assumption|decide +kernel|(solve|simp only[bn])))|(apply Zg;exact Z;(first|with_reducible assumption|decide +kernel|(solve|simp only[bn])))|refine ZG Zb Z Z Z Z ?_)
   refine Lands.mk' (m:=k-1) (by omega) ⟨i+1,by omega,?_,rfl,rfl,rfl⟩ ?_ rfl rfl rfl rfl rfl rfl
   ·rw[List.take_add_one,hd]
    intro h
    rcases List.mem_append.1 h with h|h
    ·exact hn h
    ·simp at h;exact he h.symm
   ·exact .cons rfl (.cons rfl (.cons rfl (.cons rfl .nil)))
 ·have t1:decide ((i:Int)<(s.length:Int))=false:=decide_eq_false (by omega)
  rw[List.take_of_length_le hge]at hn
  have hc:s.contains c=false:=by
   cases h:s.contains c with
   | false=>rfl
   | true=>exact absurd (List.contains_iff_mem.1 h) hn
  repeat'(first|(apply Zl Zb;exact Z)|(apply Zj Zb;exact Z)|(apply Zt Zb;exact Z)|(apply Zg;exact Z;(first|with_reducible assumption|decide +kernel|(solve|simp only[bn])))|refine ZG Zb Z Z Z Z ?_)
  all_goals(apply Zw [];(apply Zd Zb;exact Z);(iterate 4 exact Z))
  all_goals first|rfl|(rw[hc])
theorem IJ [Known](n m:Nat):AP Tryz.prog 110 [.int .u64 (n:Int),.int .u64 (m:Int)] (.bool (decide ((n:Int) ≥ 1)&&decide ((n:Int)<=(m:Int)))) []:=by
 refine AP.ofA (Zp Tryz.func110 Z Tryz.ntmps110 Z Z ?_)
 repeat'(first|(apply Zl Zb;exact Z)|(apply Zj Zb;exact Z)|(apply Zi;(iterate 3 exact Z);(first|with_reducible assumption|(solve|simp only[bn])))|(apply Zs;(iterate 3 exact Z);(first|with_reducible assumption|(solve|simp only[bn])))|(apply ZZ;exact Z;exact Z;all_goals intro hb)|(apply Zo;exact Z;(first|with_reducible assumption|(solve|simp only[bn]));exact Z;exact Z)|(apply Zn;exact Z;(first|with_reducible assumption|(solve|simp only[bn]));exact Z;exact Z))
 all_goals(apply Zw [];(apply Zd Zb;exact Z);(iterate 4 exact Z))
 all_goals first|rfl|(simp only[*];done)|(simp only[*];rfl)
end Go.Proofs.YtchlgagdbflkmaaGreatDoor
end
