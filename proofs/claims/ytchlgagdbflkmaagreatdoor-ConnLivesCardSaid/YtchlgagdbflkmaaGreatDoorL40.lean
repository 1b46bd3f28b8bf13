/- ConnLives: rounds: closed (cwgen.py). -/
import Derived.Test.YtchlgagdbflkmaaGreatDoorL25
import Derived.Test.YtchlgagdbflkmaaGreatDoorL26
import Derived.Test.YtchlgagdbflkmaaGreatDoorL36
import Derived.Test.YtchlgagdbflkmaaGreatDoorL37
import Derived.Test.YtchlgagdbflkmaaGreatDoorL38
import Derived.Test.YtchlgagdbflkmaaGreatDoorL39
import Derived.Test.YtchlgagdbflkmaaGreatDoorL01
import Derived.Test.YtchlgagdbflkmaaGreatDoorL07
import Derived.Test.YtchlgagdbflkmaaGreatDoorL11
import Derived.Test.YtchlgagdbflkmaaGreatDoorProg
import Derived.Lib.LaidU8
import Derived.Test.YtchlgagdbflkmaaGreatDoorL15
import Derived.Stop.LaidErr
set_option linter.unusedVariables false
set_option linter.unusedSimpArgs false
section
open Go.RowKit Go.Pl Go.Av
namespace Go.Proofs.YtchlgagdbflkmaaGreatDoor
set_option maxHeartbeats 4000000
set_option maxRecDepth 10000 in
theorem IL [Known][KnownSc][KnownPow](p left:List UInt8)(tk:Nat)(w:List RqV)(s:Int)(o:List UInt8)(e:Nat)(br:Int)(ops:List CoV)(i k:Nat)(kd n:Int)(b:List UInt8)(id:Nat)(err num cnt:Int)(tok:Nat)(data:List UInt8)(hk:k+i=60)(hlt:i<ops.length/\i<60)(hx:ops[i]?=some ⟨kd,n,b,⟨id,err,num,cnt,tok,data⟩⟩)(g1:decide (((b.map E.byte).length:Int)>1500)=false)(g2:decide (((p.map E.byte).length:Int)>9000)=false)(g3:decide (((data.map E.byte).length:Int)>1000)=false)(hok:Qg p left tk w e br)(hol2:o.length<=700*i)(m:Nat)(q5:kd=5)(hn:n=(m:Int))(he:e ≠ 0)(Q:X->St->Prop) :
  AW Tryz.prog (WJ (Tryz.f3.body.getD .skip)) ⟨227,cwT ops i,cwB p left tk w s o e br,cwF p w o,(([]:List (List D)).length,([]:List Fr).length)⟩ (X.then (LandV (CwJ ops) 227 (([]:List (List D)).length,([]:List Fr).length) k) Q):=by
 conv=>enter [3];whnf
 have hol:(ops.map coE).length=ops.length:=List.length_map ..
 have hUo:=V8 ops
 have hd1:decide ((i:Int)<((ops.map coE).length:Int))=true:=decide_eq_true (by rw[hol];omega)
 have hd2:decide ((i:Int)<60)=true:=decide_eq_true (by omega)
 have ei:IntKind.i64.wrap ((i:Int)+1)=((i+1:Nat):Int):=by rw[IntWalk.i64_in _ (by omega)];omega
 have hxe:(ops.map coE)[((i:Nat):Int).toNat]?=some (coE ⟨kd,n,b,⟨id,err,num,cnt,tok,data⟩⟩):=by rw[Int.toNat_natCast,List.getElem?_map,hx];rfl
 replace hxe:(ops.map coE)[((i:Nat):Int).toNat]?=some (.agg [.int .i64 kd,.int .i64 n,.sl (b.map E.byte),.int .u64 (id:Int),.int .i64 err,.int .i64 num,.int .i64 cnt,.int .u64 (tok:Int),.sl (data.map E.byte)]):=hxe
 have hbl:b.length<=1500:=by rw[List.length_map]at g1;have:=of_decide_eq_false g1;omega
 have hpl:p.length<=9000:=by rw[List.length_map]at g2;have:=of_decide_eq_false g2;omega
 have zz:∀ x:Int,(x != x)=false:=fun x=>by simp
 have zy:∀ x:Int,(x==x)=true:=fun x=>by simp
 have zw:∀ x:Int,(!(x==x))=false:=fun x=>by simp
 subst q5 hn
 have dn:decide ((m:Int) ≥ 0)=true:=decide_eq_true (Int.natCast_nonneg _)
 have em:((m:Int)).tmod 100=((m % 100:Nat):Int):=by rw[Int.tmod_eq_emod_of_nonneg (Int.natCast_nonneg _)];omega
 have hk1:=kcX e (m % 100) he (w.map rqE) (o.map E.byte) w.length o.length s left br
 have hk2:=dcX e (m % 100) he (p.map E.byte) (w.map rqE) (o.map E.byte) p.length w.length o.length (tk:Int) s
 have z1:=zz ((w.map rqE).length:Int)
 have z2:=zz s
 have z3:=zz (e:Int)
 repeat'(first|rw[ei]|refine ZF Zb Z Z Z Z Z Z (Int.natCast_nonneg _) hxe hUo ?_|rw[em]|(apply Zm [0,1] [0,1] (hk1);kernel_rfl;(iterate 10 exact Z))|(apply Zm [2] [2,3,4] (hk2);kernel_rfl;(iterate 10 exact Z))|(apply Zr Tryz.func23 Tryz.ntmps23;exact Z;exact Z;kernel_rfl;(iterate 6 exact Z))|(apply Zr Tryz.func24 Tryz.ntmps24;exact Z;exact Z;kernel_rfl;(iterate 6 exact Z))|(apply Zr Tryz.func25 Tryz.ntmps25;exact Z;exact Z;kernel_rfl;(iterate 6 exact Z))|(apply Zr Tryz.func54 Tryz.ntmps54;exact Z;exact Z;kernel_rfl;(iterate 6 exact Z))|(apply Z4;(apply Zd Zb;exact Z);exact Z)|(apply Zl Zb;exact Z)|(apply Zj Zb;exact Z)|(apply Zt Zb;exact Z)|(apply Zi;(iterate 3 exact Z);(first|with_reducible assumption|decide +kernel|(solve|simp only[bn])))|(apply Zo;exact Z;(first|with_reducible assumption|decide +kernel|(solve|simp only[bn]));exact Z;exact Z)|(apply Zn;exact Z;(first|with_reducible assumption|decide +kernel|(solve|simp only[bn]));exact Z;exact Z)|(apply Zf;exact Z;(first|with_reducible assumption|decide +kernel|(solve|simp only[bn])))|(apply Zg;exact Z;(first|with_reducible assumption|decide +kernel|(solve|simp only[bn])))|refine Zz Zb Z Z Z Z ?_|(apply Za 28 Ze;decide +kernel;kernel_rfl;kernel_rfl;kernel_rfl;exact Z;exact Z)|(apply Zv;(iterate 4 exact Z))|exact AE.nil _ _ _ _|(apply ZB;exact Z)|(apply ZD;exact Z;exact Z;decide +kernel;exact Z)|(apply ZE;exact Z)|exact AO.nil _ _ _|(apply Zu;(decide +kernel))|exact AOs.nil|exact ZR rfl rfl|(apply YK;exact Z;exact Z;(first|exact Qt|rotate_left);exact Z))
 refine LandV.of ?_
 refine LandS.mk' (m:=k-1) (tm1:=cwT ops (i+1)) (bx:=cwB p left tk w s o e br) (fr:=cwF p w o) [0,1,2] [0,1,2,3,4] (by omega) ⟨i+1,p,left,tk,w,s,o,e,br,by omega,hok,by omega,by omega,rfl,rfl,rfl⟩ rfl rfl rfl rfl ?_ rfl rfl rfl
 exact .cons rfl (.cons rfl (.cons rfl (.cons rfl .nil)))
set_option maxRecDepth 10000 in
theorem IM [Known][KnownSc][KnownPow](p left:List UInt8)(tk:Nat)(w:List RqV)(s:Int)(o:List UInt8)(e:Nat)(br:Int)(ops:List CoV)(i k:Nat)(kd n:Int)(b:List UInt8)(id:Nat)(err num cnt:Int)(tok:Nat)(data:List UInt8)(hk:k+i=60)(hlt:i<ops.length/\i<60)(hx:ops[i]?=some ⟨kd,n,b,⟨id,err,num,cnt,tok,data⟩⟩)(g1:decide (((b.map E.byte).length:Int)>1500)=false)(g2:decide (((p.map E.byte).length:Int)>9000)=false)(g3:decide (((data.map E.byte).length:Int)>1000)=false)(hok:Qg p left tk w e br)(hol2:o.length<=700*i)(m:Nat)(q5:kd=5)(hn:n=(m:Int))(he:e=0)(hm:m % 100=0)(Q:X->St->Prop) :
  AW Tryz.prog (WJ (Tryz.f3.body.getD .skip)) ⟨227,cwT ops i,cwB p left tk w s o e br,cwF p w o,(([]:List (List D)).length,([]:List Fr).length)⟩ (X.then (LandV (CwJ ops) 227 (([]:List (List D)).length,([]:List Fr).length) k) Q):=by
 conv=>enter [3];whnf
 have hol:(ops.map coE).length=ops.length:=List.length_map ..
 have hUo:=V8 ops
 have hd1:decide ((i:Int)<((ops.map coE).length:Int))=true:=decide_eq_true (by rw[hol];omega)
 have hd2:decide ((i:Int)<60)=true:=decide_eq_true (by omega)
 have ei:IntKind.i64.wrap ((i:Int)+1)=((i+1:Nat):Int):=by rw[IntWalk.i64_in _ (by omega)];omega
 have hxe:(ops.map coE)[((i:Nat):Int).toNat]?=some (coE ⟨kd,n,b,⟨id,err,num,cnt,tok,data⟩⟩):=by rw[Int.toNat_natCast,List.getElem?_map,hx];rfl
 replace hxe:(ops.map coE)[((i:Nat):Int).toNat]?=some (.agg [.int .i64 kd,.int .i64 n,.sl (b.map E.byte),.int .u64 (id:Int),.int .i64 err,.int .i64 num,.int .i64 cnt,.int .u64 (tok:Int),.sl (data.map E.byte)]):=hxe
 have hbl:b.length<=1500:=by rw[List.length_map]at g1;have:=of_decide_eq_false g1;omega
 have hpl:p.length<=9000:=by rw[List.length_map]at g2;have:=of_decide_eq_false g2;omega
 have zz:∀ x:Int,(x != x)=false:=fun x=>by simp
 have zy:∀ x:Int,(x==x)=true:=fun x=>by simp
 have zw:∀ x:Int,(!(x==x))=false:=fun x=>by simp
 subst q5 hn
 have dn:decide ((m:Int) ≥ 0)=true:=decide_eq_true (Int.natCast_nonneg _)
 have em:((m:Int)).tmod 100=((m % 100:Nat):Int):=by rw[Int.tmod_eq_emod_of_nonneg (Int.natCast_nonneg _)];omega
 subst he
 rw[hm]at em
 have hk1:=kc0 (w.map rqE) (o.map E.byte) w.length o.length s left br
 have hk2:=dc0 (p.map E.byte) (w.map rqE) (o.map E.byte) p.length w.length o.length (tk:Int) s
 have z1:=zz (([]:List E).length:Int)
 have z2:=zz s
 repeat'(first|rw[ei]|refine ZF Zb Z Z Z Z Z Z (Int.natCast_nonneg _) hxe hUo ?_|rw[em]|(apply Zm [0,1] [0,1] (hk1);kernel_rfl;(iterate 10 exact Z))|(apply Zm [2] [2,3,4] (hk2);kernel_rfl;(iterate 10 exact Z))|(apply Zr Tryz.func23 Tryz.ntmps23;exact Z;exact Z;kernel_rfl;(iterate 6 exact Z))|(apply Zr Tryz.func24 Tryz.ntmps24;exact Z;exact Z;kernel_rfl;(iterate 6 exact Z))|(apply Zr Tryz.func25 Tryz.ntmps25;exact Z;exact Z;kernel_rfl;(iterate 6 exact Z))|(apply Zr Tryz.func54 Tryz.ntmps54;exact Z;exact Z;kernel_rfl;(iterate 6 exact Z))|(apply Z4;(apply Zd Zb;exact Z);exact Z)|(apply Zl Zb;exact Z)|(apply Zj Zb;exact Z)|(apply Zt Zb;exact Z)|(apply Zi;(iterate 3 exact Z);(first|with_reducible assumption|decide +kernel|(solve|simp only[bn])))|(apply Zo;exact Z;(first|with_reducible assumption|decide +kernel|(solve|simp only[bn]));exact Z;exact Z)|(apply Zn;exact Z;(first|with_reducible assumption|decide +kernel|(solve|simp only[bn]));exact Z;exact Z)|(apply Zf;exact Z;(first|with_reducible assumption|decide +kernel|(solve|simp only[bn])))|(apply Zg;exact Z;(first|with_reducible assumption|decide +kernel|(solve|simp only[bn])))|refine Zz Zb Z Z Z Z ?_|(apply Za 28 Ze;decide +kernel;kernel_rfl;kernel_rfl;kernel_rfl;exact Z;exact Z)|(apply Zv;(iterate 4 exact Z))|exact AE.nil _ _ _ _|(apply ZB;exact Z)|(apply ZD;exact Z;exact Z;decide +kernel;exact Z)|(apply ZE;exact Z)|exact AO.nil _ _ _|(apply Zu;(decide +kernel))|exact AOs.nil|exact ZR rfl rfl|(apply YK;exact Z;exact Z;(first|exact Qt|rotate_left);exact Z))
 apply LandV.mk' [⟨0,19,41⟩,⟨0,19,46⟩]
 ·rfl
 ·apply Cvb.same;apply Cvb.cons;exact(.cons (.same _) (.cons (.nil 5 rfl rfl) (.cons (.same _) (.cons (.same _) (.cons (.same _) (.nil))))));exact Z;exact Z;apply Cvb.cons;exact(.cons (.same _) (.cons (.same _) (.cons (.nil 6 rfl rfl) (.cons (.same _) (.cons (.same _) (.cons (.same _) (.nil)))))));exact Z;exact Z;repeat (first|exact .nil|apply Cvb.same)
 refine LandS.mk' (m:=k-1) (tm1:=cwT ops (i+1)) (bx:=cwB p left tk [] s o 16 br) (fr:=cwF p [] o) [0,1,2] [5,1,2,6,4] (by omega) ⟨i+1,p,left,tk,[],s,o,16,br,by omega,⟨by simp,fun h=>by first|cases h|exact(hm h).elim,fun _=>rfl⟩,by omega,by omega,rfl,rfl,rfl⟩ rfl rfl rfl rfl ?_ rfl rfl rfl
 exact .cons rfl (.cons rfl (.cons rfl (.cons rfl .nil)))
set_option maxRecDepth 10000 in
theorem GX [Known][KnownSc][KnownPow](p left:List UInt8)(tk:Nat)(w:List RqV)(s:Int)(o:List UInt8)(e:Nat)(br:Int)(ops:List CoV)(i k:Nat)(kd n:Int)(b:List UInt8)(id:Nat)(err num cnt:Int)(tok:Nat)(data:List UInt8)(hk:k+i=60)(hlt:i<ops.length/\i<60)(hx:ops[i]?=some ⟨kd,n,b,⟨id,err,num,cnt,tok,data⟩⟩)(g1:decide (((b.map E.byte).length:Int)>1500)=false)(g2:decide (((p.map E.byte).length:Int)>9000)=false)(g3:decide (((data.map E.byte).length:Int)>1000)=false)(hok:Qg p left tk w e br)(hol2:o.length<=700*i)(m:Nat)(q5:kd=5)(hn:n=(m:Int))(he:e=0)(hm:m % 100 ≠ 0)(Q:X->St->Prop) :
  AW Tryz.prog (WJ (Tryz.f3.body.getD .skip)) ⟨227,cwT ops i,cwB p left tk w s o e br,cwF p w o,(([]:List (List D)).length,([]:List Fr).length)⟩ (X.then (LandV (CwJ ops) 227 (([]:List (List D)).length,([]:List Fr).length) k) Q):=by
 conv=>enter [3];whnf
 have hol:(ops.map coE).length=ops.length:=List.length_map ..
 have hUo:=V8 ops
 have hd1:decide ((i:Int)<((ops.map coE).length:Int))=true:=decide_eq_true (by rw[hol];omega)
 have hd2:decide ((i:Int)<60)=true:=decide_eq_true (by omega)
 have ei:IntKind.i64.wrap ((i:Int)+1)=((i+1:Nat):Int):=by rw[IntWalk.i64_in _ (by omega)];omega
 have hxe:(ops.map coE)[((i:Nat):Int).toNat]?=some (coE ⟨kd,n,b,⟨id,err,num,cnt,tok,data⟩⟩):=by rw[Int.toNat_natCast,List.getElem?_map,hx];rfl
 replace hxe:(ops.map coE)[((i:Nat):Int).toNat]?=some (.agg [.int .i64 kd,.int .i64 n,.sl (b.map E.byte),.int .u64 (id:Int),.int .i64 err,.int .i64 num,.int .i64 cnt,.int .u64 (tok:Int),.sl (data.map E.byte)]):=hxe
 have hbl:b.length<=1500:=by rw[List.length_map]at g1;have:=of_decide_eq_false g1;omega
 have hpl:p.length<=9000:=by rw[List.length_map]at g2;have:=of_decide_eq_false g2;omega
 have zz:∀ x:Int,(x != x)=false:=fun x=>by simp
 have zy:∀ x:Int,(x==x)=true:=fun x=>by simp
 have zw:∀ x:Int,(!(x==x))=false:=fun x=>by simp
 subst q5 hn
 have dn:decide ((m:Int) ≥ 0)=true:=decide_eq_true (Int.natCast_nonneg _)
 have em:((m:Int)).tmod 100=((m % 100:Nat):Int):=by rw[Int.tmod_eq_emod_of_nonneg (Int.natCast_nonneg _)];omega
 subst he
 have hk1:=kc (m % 100) hm (w.map rqE) (o.map E.byte) w.length o.length s left br
 have hk2:=dc (m % 100) hm (p.map E.byte) (w.map rqE) (o.map E.byte) p.length w.length o.length (tk:Int) s
 have z1:=zz (([]:List E).length:Int)
 have z2:=zz s
 have z3:=zz ((m % 100:Nat):Int)
 repeat'(first|rw[ei]|refine ZF Zb Z Z Z Z Z Z (Int.natCast_nonneg _) hxe hUo ?_|rw[em]|(apply Zm [0,1] [0,1] (hk1);kernel_rfl;(iterate 10 exact Z))|(apply Zm [2] [2,3,4] (hk2);kernel_rfl;(iterate 10 exact Z))|(apply Zr Tryz.func23 Tryz.ntmps23;exact Z;exact Z;kernel_rfl;(iterate 6 exact Z))|(apply Zr Tryz.func24 Tryz.ntmps24;exact Z;exact Z;kernel_rfl;(iterate 6 exact Z))|(apply Zr Tryz.func25 Tryz.ntmps25;exact Z;exact Z;kernel_rfl;(iterate 6 exact Z))|(apply Zr Tryz.func54 Tryz.ntmps54;exact Z;exact Z;kernel_rfl;(iterate 6 exact Z))|(apply Z4;(apply Zd Zb;exact Z);exact Z)|(apply Zl Zb;exact Z)|(apply Zj Zb;exact Z)|(apply Zt Zb;exact Z)|(apply Zi;(iterate 3 exact Z);(first|with_reducible assumption|decide +kernel|(solve|simp only[bn])))|(apply Zo;exact Z;(first|with_reducible assumption|decide +kernel|(solve|simp only[bn]));exact Z;exact Z)|(apply Zn;exact Z;(first|with_reducible assumption|decide +kernel|(solve|simp only[bn]));exact Z;exact Z)|(apply Zf;exact Z;(first|with_reducible assumption|decide +kernel|(solve|simp only[bn])))|(apply Zg;exact Z;(first|with_reducible assumption|decide +kernel|(solve|simp only[bn])))|refine Zz Zb Z Z Z Z ?_|(apply Za 28 Ze;decide +kernel;kernel_rfl;kernel_rfl;kernel_rfl;exact Z;exact Z)|(apply Zv;(iterate 4 exact Z))|exact AE.nil _ _ _ _|(apply ZB;exact Z)|(apply ZD;exact Z;exact Z;decide +kernel;exact Z)|(apply ZE;exact Z)|exact AO.nil _ _ _|(apply Zu;(decide +kernel))|exact AOs.nil|exact ZR rfl rfl|(apply YK;exact Z;exact Z;(first|exact Qt|rotate_left);exact Z))
 apply LandV.mk' [⟨0,19,41⟩,⟨0,19,46⟩]
 ·rfl
 ·apply Cvb.same;apply Cvb.cons;exact(.cons (.same _) (.cons (.nil 5 rfl rfl) (.cons (.same _) (.cons (.same _) (.cons (.same _) (.nil))))));exact Z;exact Z;apply Cvb.cons;exact(.cons (.same _) (.cons (.same _) (.cons (.nil 6 rfl rfl) (.cons (.same _) (.cons (.same _) (.cons (.same _) (.nil)))))));exact Z;exact Z;repeat (first|exact .nil|apply Cvb.same)
 refine LandS.mk' (m:=k-1) (tm1:=cwT ops (i+1)) (bx:=cwB p left tk [] s o (m % 100) br) (fr:=cwF p [] o) [0,1,2] [5,1,2,6,4] (by omega) ⟨i+1,p,left,tk,[],s,o,(m % 100),br,by omega,⟨by simp,fun h=>by first|cases h|exact(hm h).elim,fun _=>rfl⟩,by omega,by omega,rfl,rfl,rfl⟩ rfl rfl rfl rfl ?_ rfl rfl rfl
 exact .cons rfl (.cons rfl (.cons rfl (.cons rfl .nil)))
theorem GY [Known][KnownSc][KnownPow](p left:List UInt8)(tk:Nat)(w:List RqV)(s:Int)(o:List UInt8)(e:Nat)(br:Int)(ops:List CoV)(i k:Nat)(kd n:Int)(b:List UInt8)(id:Nat)(err num cnt:Int)(tok:Nat)(data:List UInt8)(hk:k+i=60)(hlt:i<ops.length/\i<60)(hx:ops[i]?=some ⟨kd,n,b,⟨id,err,num,cnt,tok,data⟩⟩)(g1:decide (((b.map E.byte).length:Int)>1500)=false)(g2:decide (((p.map E.byte).length:Int)>9000)=false)(g3:decide (((data.map E.byte).length:Int)>1000)=false)(hok:Qg p left tk w e br)(hol2:o.length<=700*i)(Q:X->St->Prop) :
  AW Tryz.prog (WJ (Tryz.f3.body.getD .skip)) ⟨227,cwT ops i,cwB p left tk w s o e br,cwF p w o,(([]:List (List D)).length,([]:List Fr).length)⟩ (X.then (LandV (CwJ ops) 227 (([]:List (List D)).length,([]:List Fr).length) k) Q):=by
 by_cases q0:kd=0
 ·by_cases he:e=0
  ·by_cases h0:(Ul left w b).2.2.1=0
   ·exact GT p left tk w s o e br ops i k kd n b id err num cnt tok data hk hlt hx g1 g2 g3 hok hol2 q0 he h0 Q
   ·exact GU p left tk w s o e br ops i k kd n b id err num cnt tok data hk hlt hx g1 g2 g3 hok hol2 q0 he h0 Q
  ·exact GS p left tk w s o e br ops i k kd n b id err num cnt tok data hk hlt hx g1 g2 g3 hok hol2 q0 he Q
 by_cases q1:kd=1
 ·match w,hok with
  | [],hok=>exact GV p left tk [] s o e br ops i k kd n b id err num cnt tok data hk hlt hx g1 g2 g3 hok hol2 q1 rfl Q
  | x::L,hok=>exact GW p left tk (x::L) s o e br ops i k kd n b id err num cnt tok data hk hlt hx g1 g2 g3 hok hol2 x L q1 rfl Q
 by_cases q2:kd=2
 ·exact HG p left tk w s o e br ops i k kd n b id err num cnt tok data hk hlt hx g1 g2 g3 hok hol2 q2 Q
 by_cases q3:kd=3
 ·cases hR:Y5 ⟨id,err,num,cnt,tok,data⟩ with
  | false=>exact HM p left tk w s o e br ops i k kd n b id err num cnt tok data hk hlt hx g1 g2 g3 hok hol2 q3 hR Q
  | true=>exact HN p left tk w s o e br ops i k kd n b id err num cnt tok data hk hlt hx g1 g2 g3 hok hol2 q3 hR Q
 by_cases q4:kd=4
 ·exact TM p left tk w s o e br ops i k kd n b id err num cnt tok data hk hlt hx g1 g2 g3 hok hol2 q4 Q
 by_cases q5:kd=5
 ·by_cases hn:n<0
  ·exact TC p left tk w s o e br ops i k kd n b id err num cnt tok data hk hlt hx g1 g2 g3 hok hol2 q5 hn Q
  ·obtain⟨m,hm⟩:=Int.eq_ofNat_of_zero_le (show 0<=n by omega)
   by_cases he:e=0
   ·by_cases hm0:m % 100=0
    ·exact IM p left tk w s o e br ops i k kd n b id err num cnt tok data hk hlt hx g1 g2 g3 hok hol2 m q5 hm he hm0 Q
    ·exact GX p left tk w s o e br ops i k kd n b id err num cnt tok data hk hlt hx g1 g2 g3 hok hol2 m q5 hm he hm0 Q
   ·exact IL p left tk w s o e br ops i k kd n b id err num cnt tok data hk hlt hx g1 g2 g3 hok hol2 m q5 hm he Q
 exact HF p left tk w s o e br ops i k kd n b id err num cnt tok data hk hlt hx g1 g2 g3 hok hol2 (by simp;exact q0) (by simp;exact q1) (by simp;exact q2) (by simp;exact q3) (by simp;exact q4) (by simp;exact q5) Q
abbrev zcS:List (List D):=[[.nilp,.sl .nil [],.int .i64 0,.sl .nil [],.int .i64 0]]
abbrev ryZ:List D:=[.int .u64 0,.int .i64 0,.int .i64 0,.int .i64 0,.int .u64 0,.sl .nil []]
theorem GZ [Known]:AP Tryz.prog 21 [.nilp,.int .i64 0] (.tup []) []:=by
 refine Zp Tryz.func21 rfl Tryz.ntmps21 rfl rfl ?_
 repeat'(first|(apply Zr Tryz.func54 Tryz.ntmps54;exact Z;exact Z;kernel_rfl;(iterate 6 exact Z))|(apply Zr Tryz.func25 Tryz.ntmps25;exact Z;exact Z;kernel_rfl;(iterate 6 exact Z))|(apply Zr Tryz.func23 Tryz.ntmps23;exact Z;exact Z;kernel_rfl;(iterate 6 exact Z))|(apply Z4;(apply Zd Zb;exact Z);exact Z)|(apply Zl Zb;exact Z)|(apply Zj Zb;exact Z)|(apply Zt Zb;exact Z)|(apply Zs;(iterate 3 exact Z);(first|with_reducible assumption|decide +kernel|(solve|simp only[bn])))|(apply Zn;exact Z;(first|with_reducible assumption|decide +kernel|(solve|simp only[bn]));exact Z;exact Z)|(apply Zf;exact Z;(first|with_reducible assumption|decide +kernel|(solve|simp only[bn]))))
 all_goals first|(apply Yc [] [];(apply Zd Zb;exact Z);(iterate 7 exact Z))|(apply Vh [] [];(apply Zd Zb;exact Z);(iterate 7 exact Z))
 all_goals rfl
theorem G0 [Known]:AT Tryz.prog 21 [.ptr 0 0,.int .i64 0] zcS [] (.tup []) zcS []:=by
 refine Zp Tryz.func21 rfl Tryz.ntmps21 rfl rfl ?_
 repeat'(first|(apply Zr Tryz.func54 Tryz.ntmps54;exact Z;exact Z;kernel_rfl;(iterate 6 exact Z))|(apply Zr Tryz.func25 Tryz.ntmps25;exact Z;exact Z;kernel_rfl;(iterate 6 exact Z))|(apply Zr Tryz.func23 Tryz.ntmps23;exact Z;exact Z;kernel_rfl;(iterate 6 exact Z))|(apply Z4;(apply Zd Zb;exact Z);exact Z)|(apply Zl Zb;exact Z)|(apply Zj Zb;exact Z)|(apply Zt Zb;exact Z)|(apply Zi;(iterate 3 exact Z);(first|with_reducible assumption|decide +kernel|(solve|simp only[bn])))|(apply Zo;exact Z;(first|with_reducible assumption|decide +kernel|(solve|simp only[bn]));exact Z;exact Z)|(apply Zf;exact Z;(first|with_reducible assumption|decide +kernel|(solve|simp only[bn]))))
 all_goals first|(apply Yc [0] [];(apply Zd Zb;exact Z);(iterate 7 exact Z))|(apply Vh [0] [];(apply Zd Zb;exact Z);(iterate 7 exact Z))
 all_goals rfl
theorem HO [Known]:AP Tryz.prog 11 [.nilp] (.tup [.agg GF,.bool false]) []:=by
 refine Zp Tryz.func11 rfl Tryz.ntmps11 rfl rfl ?_
 repeat'(first|(apply Zr Tryz.func54 Tryz.ntmps54;exact Z;exact Z;kernel_rfl;(iterate 6 exact Z))|(apply Zr Tryz.func25 Tryz.ntmps25;exact Z;exact Z;kernel_rfl;(iterate 6 exact Z))|(apply Zr Tryz.func23 Tryz.ntmps23;exact Z;exact Z;kernel_rfl;(iterate 6 exact Z))|(apply Z4;(apply Zd Zb;exact Z);exact Z)|(apply Zl Zb;exact Z)|(apply Zj Zb;exact Z)|(apply Zt Zb;exact Z)|(apply Zf;exact Z;(first|with_reducible assumption|decide +kernel|(solve|simp only[bn]))))
 all_goals first|(apply Yc [] [];(apply Zd Zb;exact Z);(iterate 7 exact Z))|(apply Vh [] [];(apply Zd Zb;exact Z);(iterate 7 exact Z))
 all_goals rfl
theorem HP [Known]:AT Tryz.prog 11 [.ptr 0 0] zcS [] (.tup [.agg GF,.bool false]) zcS []:=by
 refine Zp Tryz.func11 rfl Tryz.ntmps11 rfl rfl ?_
 repeat'(first|(apply Zr Tryz.func54 Tryz.ntmps54;exact Z;exact Z;kernel_rfl;(iterate 6 exact Z))|(apply Zr Tryz.func25 Tryz.ntmps25;exact Z;exact Z;kernel_rfl;(iterate 6 exact Z))|(apply Zr Tryz.func23 Tryz.ntmps23;exact Z;exact Z;kernel_rfl;(iterate 6 exact Z))|(apply Z4;(apply Zd Zb;exact Z);exact Z)|(apply Zl Zb;exact Z)|(apply Zj Zb;exact Z)|(apply Zt Zb;exact Z)|(apply Zf;exact Z;(first|with_reducible assumption|decide +kernel|(solve|simp only[bn])))|(apply Zg;exact Z;(first|with_reducible assumption|decide +kernel|(solve|simp only[bn])))|refine Zz Zb Z Z Z Z ?_)
 all_goals first|(apply Yc [0] [];(apply Zd Zb;exact Z);(iterate 7 exact Z))|(apply Vh [0] [];(apply Zd Zb;exact Z);(iterate 7 exact Z))
 all_goals rfl
theorem HQ [Known]:AP Tryz.prog 9 [.nilp,.sl .ext []] (.int .i64 6) []:=by
 refine Zp Tryz.func9 rfl Tryz.ntmps9 rfl rfl ?_
 repeat'(first|(apply Zr Tryz.func54 Tryz.ntmps54;exact Z;exact Z;kernel_rfl;(iterate 6 exact Z))|(apply Zr Tryz.func25 Tryz.ntmps25;exact Z;exact Z;kernel_rfl;(iterate 6 exact Z))|(apply Zr Tryz.func23 Tryz.ntmps23;exact Z;exact Z;kernel_rfl;(iterate 6 exact Z))|(apply Z4;(apply Zd Zb;exact Z);exact Z)|(apply Zl Zb;exact Z)|(apply Zj Zb;exact Z)|(apply Zt Zb;exact Z)|(apply Zs;(iterate 3 exact Z);(first|with_reducible assumption|decide +kernel|(solve|simp only[bn])))|(apply Zn;exact Z;(first|with_reducible assumption|decide +kernel|(solve|simp only[bn]));exact Z;exact Z)|(apply Zf;exact Z;(first|with_reducible assumption|decide +kernel|(solve|simp only[bn]))))
 all_goals first|(apply Yc [] [];(apply Zd Zb;exact Z);(iterate 7 exact Z))|(apply Vh [] [];(apply Zd Zb;exact Z);(iterate 7 exact Z))
 all_goals rfl
theorem HR [Known]:AT Tryz.prog 9 [.ptr 0 0,.sl .nil []] zcS [] (.int .i64 6) zcS []:=by
 refine Zp Tryz.func9 rfl Tryz.ntmps9 rfl rfl ?_
 repeat'(first|(apply Zr Tryz.func54 Tryz.ntmps54;exact Z;exact Z;kernel_rfl;(iterate 6 exact Z))|(apply Zr Tryz.func25 Tryz.ntmps25;exact Z;exact Z;kernel_rfl;(iterate 6 exact Z))|(apply Zr Tryz.func23 Tryz.ntmps23;exact Z;exact Z;kernel_rfl;(iterate 6 exact Z))|(apply Z4;(apply Zd Zb;exact Z);exact Z)|(apply Zl Zb;exact Z)|(apply Zj Zb;exact Z)|(apply Zt Zb;exact Z)|(apply Zi;(iterate 3 exact Z);(first|with_reducible assumption|decide +kernel|(solve|simp only[bn])))|(apply Zo;exact Z;(first|with_reducible assumption|decide +kernel|(solve|simp only[bn]));exact Z;exact Z)|(apply Zf;exact Z;(first|with_reducible assumption|decide +kernel|(solve|simp only[bn]))))
 all_goals first|(apply Yc [0] [];(apply Zd Zb;exact Z);(iterate 7 exact Z))|(apply Vh [0] [];(apply Zd Zb;exact Z);(iterate 7 exact Z))
 all_goals rfl
theorem HS [Known]:AP Tryz.prog 15 [.nilp,.int .i64 1] (.int .i64 6) []:=by
 refine Zp Tryz.func15 rfl Tryz.ntmps15 rfl rfl ?_
 repeat'(first|(apply Zr Tryz.func54 Tryz.ntmps54;exact Z;exact Z;kernel_rfl;(iterate 6 exact Z))|(apply Zr Tryz.func25 Tryz.ntmps25;exact Z;exact Z;kernel_rfl;(iterate 6 exact Z))|(apply Zr Tryz.func23 Tryz.ntmps23;exact Z;exact Z;kernel_rfl;(iterate 6 exact Z))|(apply Z4;(apply Zd Zb;exact Z);exact Z)|(apply Zl Zb;exact Z)|(apply Zj Zb;exact Z)|(apply Zt Zb;exact Z)|(apply Zs;(iterate 3 exact Z);(first|with_reducible assumption|decide +kernel|(solve|simp only[bn])))|(apply Zn;exact Z;(first|with_reducible assumption|decide +kernel|(solve|simp only[bn]));exact Z;exact Z)|(apply Zf;exact Z;(first|with_reducible assumption|decide +kernel|(solve|simp only[bn]))))
 all_goals first|(apply Yc [] [];(apply Zd Zb;exact Z);(iterate 7 exact Z))|(apply Vh [] [];(apply Zd Zb;exact Z);(iterate 7 exact Z))
 all_goals rfl
theorem TN [Known]:AT Tryz.prog 17 [.ptr 0 0,.agg ryZ] zcS [] (.int .i64 6) zcS []:=by
 refine Zp Tryz.func17 rfl Tryz.ntmps17 rfl rfl ?_
 repeat'(first|(apply Zr Tryz.func54 Tryz.ntmps54;exact Z;exact Z;kernel_rfl;(iterate 6 exact Z))|(apply Zr Tryz.func25 Tryz.ntmps25;exact Z;exact Z;kernel_rfl;(iterate 6 exact Z))|(apply Zr Tryz.func23 Tryz.ntmps23;exact Z;exact Z;kernel_rfl;(iterate 6 exact Z))|(apply Z4;(apply Zd Zb;exact Z);exact Z)|(apply Zl Zb;exact Z)|(apply Zj Zb;exact Z)|(apply Zt Zb;exact Z)|(apply Zi;(iterate 3 exact Z);(first|with_reducible assumption|decide +kernel|(solve|simp only[bn])))|(apply Zo;exact Z;(first|with_reducible assumption|decide +kernel|(solve|simp only[bn]));exact Z;exact Z)|(apply Zf;exact Z;(first|with_reducible assumption|decide +kernel|(solve|simp only[bn]))))
 all_goals first|(apply Yc [0] [];(apply Zd Zb;exact Z);(iterate 7 exact Z))|(apply Vh [0] [];(apply Zd Zb;exact Z);(iterate 7 exact Z))
 all_goals rfl
theorem IN [Known]:AP Tryz.prog 25 [.nilp] (.int .i64 6) []:=by
 refine Zp Tryz.func25 rfl Tryz.ntmps25 rfl rfl ?_
 repeat'(first|(apply Zr Tryz.func54 Tryz.ntmps54;exact Z;exact Z;kernel_rfl;(iterate 6 exact Z))|(apply Zr Tryz.func25 Tryz.ntmps25;exact Z;exact Z;kernel_rfl;(iterate 6 exact Z))|(apply Zr Tryz.func23 Tryz.ntmps23;exact Z;exact Z;kernel_rfl;(iterate 6 exact Z))|(apply Z4;(apply Zd Zb;exact Z);exact Z)|(apply Zl Zb;exact Z)|(apply Zj Zb;exact Z)|(apply Zt Zb;exact Z)|(apply Zs;(iterate 3 exact Z);(first|with_reducible assumption|decide +kernel|(solve|simp only[bn])))|(apply Zn;exact Z;(first|with_reducible assumption|decide +kernel|(solve|simp only[bn]));exact Z;exact Z)|(apply Zf;exact Z;(first|with_reducible assumption|decide +kernel|(solve|simp only[bn]))))
 all_goals first|(apply Yc [] [];(apply Zd Zb;exact Z);(iterate 7 exact Z))|(apply Vh [] [];(apply Zd Zb;exact Z);(iterate 7 exact Z))
 all_goals rfl
theorem G1 [Known]:AP Tryz.prog 23 [.nilp] (.int .i64 0) []:=by
 refine Zp Tryz.func23 rfl Tryz.ntmps23 rfl rfl ?_
 repeat'(first|(apply Zj Zb;exact Z)|(apply Zt Zb;exact Z)|(apply Zf;exact Z;(first|with_reducible assumption|decide +kernel|(solve|simp only[bn]))))
 all_goals first|(apply Yc [] [];(apply Zd Zb;exact Z);(iterate 7 exact Z))|(apply Vh [] [];(apply Zd Zb;exact Z);(iterate 7 exact Z))
 all_goals rfl
theorem HT [Known]:AT Tryz.prog 24 [.ptr 0 0] zcS [] (.int .i64 0) zcS []:=by
 refine Zp Tryz.func24 rfl Tryz.ntmps24 rfl rfl ?_
 repeat'(first|(apply Zj Zb;exact Z)|(apply Zg;exact Z;(first|with_reducible assumption|decide +kernel|(solve|simp only[bn]))))
 all_goals first|(apply Yc [0] [];(apply Zd Zb;exact Z);(iterate 7 exact Z))|(apply Vh [0] [];(apply Zd Zb;exact Z);(iterate 7 exact Z))
 all_goals rfl
theorem TO [Known]:AP Tryz.prog 20 [.nilp] (.sl .nil []) []:=by
 refine Zp Tryz.func20 rfl Tryz.ntmps20 rfl rfl ?_
 repeat'(first|(apply Zj Zb;exact Z)|(apply Zt Zb;exact Z)|(apply Zf;exact Z;(first|with_reducible assumption|decide +kernel|(solve|simp only[bn]))))
 all_goals first|(apply Yc [] [];(apply Zd Zb;exact Z);(iterate 7 exact Z))|(apply Vh [] [];(apply Zd Zb;exact Z);(iterate 7 exact Z))
 all_goals rfl
theorem Ku [Known][KnownSc][KnownPow](ops:List CoV):AP Tryz.prog 3 [.sl .ext (ops.map coE)] (.bool true) []:=by
 have hol:(ops.map coE).length=ops.length:=List.length_map ..
 have hUo:=V8 ops
 have t0:ZS []=([],[],0):=Vi (by decide)
 refine AP.ofA (Zp Tryz.func3 Z Tryz.ntmps3 Z Z ?_)
 repeat'(first|(apply Zm [] [] (T5);kernel_rfl;(iterate 10 exact Z))|(apply Zl Zb;exact Z)|(apply Zj Zb;exact Z))
 refine GA (CwJ ops) 61 ?_ ?_
 ·apply LandV.mk' [⟨0,19,41⟩,⟨0,1,5⟩,⟨0,1,5⟩,⟨0,19,46⟩,⟨0,1,5⟩]
  ·rfl
  ·apply Cvb.same;apply Cvb.cons;exact(.cons (.same _) (.cons (.nil 0 rfl rfl) (.cons (.same _) (.cons (.nil 1 rfl rfl) (.cons (.same _) (.nil))))));exact Z;exact Z;apply Cvb.cons;exact(.cons (.nil 2 rfl rfl) (.cons (.same _) (.cons (.nil 3 rfl rfl) (.cons (.same _) (.cons (.nil 4 rfl rfl) (.cons (.same _) (.nil)))))));exact Z;exact Z;repeat (first|exact .nil|apply Cvb.same)
  refine LandS.mk' (m:=60) (tm1:=cwT ops 0) (bx:=cwB [] [] 0 [] 0 [] 0 0) (fr:=cwF [] [] []) [0,1,2] [0,1,2,3,4] (by omega) ⟨0,[],[],0,[],0,[],0,0,rfl,⟨Nat.zero_le _,fun _=>by rw[t0];exact⟨rfl,rfl,rfl,rfl⟩,fun _=>rfl⟩,Nat.zero_le _,Nat.zero_le _,rfl,rfl,rfl⟩ rfl rfl rfl rfl ?_ rfl rfl rfl
  exact .cons rfl (.cons rfl (.cons rfl (.cons rfl .nil)))
 rintro k tm bx fr ⟨i,p,left,tk,w,s,o,e,br,hk,hok,hpl,hol2,rfl,rfl,rfl⟩
 by_cases hlt:i<ops.length/\i<60
 ·obtain⟨⟨kd,n,b,⟨id,err,num,cnt,tok,data⟩⟩,hx⟩:∃ o,ops[i]?=some o:=⟨_,List.getElem?_eq_getElem hlt.1⟩
  have hd1:decide ((i:Int)<((ops.map coE).length:Int))=true:=decide_eq_true (by rw[hol];omega)
  have hd2:decide ((i:Int)<60)=true:=decide_eq_true (by omega)
  have hxe:(ops.map coE)[((i:Nat):Int).toNat]?=some (coE ⟨kd,n,b,⟨id,err,num,cnt,tok,data⟩⟩):=by rw[Int.toNat_natCast,List.getElem?_map,hx];rfl
  replace hxe:(ops.map coE)[((i:Nat):Int).toNat]?=some (.agg [.int .i64 kd,.int .i64 n,.sl (b.map E.byte),.int .u64 (id:Int),.int .i64 err,.int .i64 num,.int .i64 cnt,.int .u64 (tok:Int),.sl (data.map E.byte)]):=hxe
  have stop:decide (((b.map E.byte).length:Int)>1500)=true\/(decide (((b.map E.byte).length:Int)>1500)=false/\decide (((p.map E.byte).length:Int)>9000)=true)\/(decide (((b.map E.byte).length:Int)>1500)=false/\decide (((p.map E.byte).length:Int)>9000)=false/\decide (((data.map E.byte).length:Int)>1000)=true)\/(decide (((b.map E.byte).length:Int)>1500)=false/\decide (((p.map E.byte).length:Int)>9000)=false/\decide (((data.map E.byte).length:Int)>1000)=false):=by
   cases decide (((b.map E.byte).length:Int)>1500)<;>cases decide (((p.map E.byte).length:Int)>9000)<;>cases decide (((data.map E.byte).length:Int)>1000)<;>simp
  rcases stop with g1|⟨g1,g2⟩ | ⟨g1,g2,g3⟩ | ⟨g1,g2,g3⟩
  rotate_right
  ·exact GY p left tk w s o e br ops i k kd n b id err num cnt tok data hk hlt hx g1 g2 g3 hok hol2 _
  all_goals
   repeat'(first|(apply Zc (Xm);kernel_rfl;(iterate 4 exact Z))|refine ZF Zb Z Z Z Z Z Z (Int.natCast_nonneg _) hxe hUo ?_|(apply Zl Zb;exact Z)|(apply Zj Zb;exact Z)|(apply Zt Zb;exact Z)|(apply Zi;(iterate 3 exact Z);(first|with_reducible assumption|decide +kernel|(solve|simp only[bn])))|(apply Zq;(iterate 3 exact Z);(first|with_reducible assumption|decide +kernel|(solve|simp only[bn])))|(apply Zo;exact Z;(first|with_reducible assumption|decide +kernel|(solve|simp only[bn]));exact Z;exact Z)|(apply Zn;exact Z;(first|with_reducible assumption|decide +kernel|(solve|simp only[bn]));exact Z;exact Z)|(apply Zf;exact Z;(first|with_reducible assumption|decide +kernel|(solve|simp only[bn])))|refine Zz Zb Z Z Z Z ?_)
   all_goals exact Qe
 ·have hd:(decide ((i:Int)<((ops.map coE).length:Int))=false)\/(decide ((i:Int)<((ops.map coE).length:Int))=true/\decide ((i:Int)<60)=false):=by
   rcases Nat.lt_or_ge i ops.length with h|h
   ·exact .inr ⟨decide_eq_true (by rw[hol];omega),decide_eq_false (by omega)⟩
   ·exact .inl (decide_eq_false (by rw[hol];omega))
  clear hlt
  rcases hd with hd1|⟨hd1,hd2⟩
  all_goals
   repeat'(first|(apply Zc (Xm);kernel_rfl;(iterate 4 exact Z))|(apply Zc (GZ);kernel_rfl;(iterate 4 exact Z))|(apply Zm [3] [] (G0);kernel_rfl;(iterate 10 exact Z))|(apply Zc (HO);kernel_rfl;(iterate 4 exact Z))|(apply Zm [3] [] (HP);kernel_rfl;(iterate 10 exact Z))|(apply Zc (HQ);kernel_rfl;(iterate 4 exact Z))|(apply Zm [3] [] (HR);kernel_rfl;(iterate 10 exact Z))|(apply Zc (HS);kernel_rfl;(iterate 4 exact Z))|(apply Zm [3] [] (TN);kernel_rfl;(iterate 10 exact Z))|(apply Zc (IN);kernel_rfl;(iterate 4 exact Z))|(apply Zc (G1);kernel_rfl;(iterate 4 exact Z))|(apply Zm [3] [] (HT);kernel_rfl;(iterate 10 exact Z))|(apply Zc (TO);kernel_rfl;(iterate 4 exact Z))|(apply Zl Zb;exact Z)|(apply Zj Zb;exact Z)|(apply Zt Zb;exact Z)|(apply Zi;(iterate 3 exact Z);(first|with_reducible assumption|decide +kernel|(solve|simp only[bn])))|(apply Zs;(iterate 3 exact Z);(first|with_reducible assumption|decide +kernel|(solve|simp only[bn])))|(apply Zo;exact Z;(first|with_reducible assumption|decide +kernel|(solve|simp only[bn]));exact Z;exact Z)|(apply Zn;exact Z;(first|with_reducible assumption|decide +kernel|(solve|simp only[bn]));exact Z;exact Z)|(apply Zg;exact Z;(first|with_reducible assumption|decide +kernel|(solve|simp only[bn])))|refine Zz Zb Z Z Z Z ?_)
   all_goals exact Qe
end Go.Proofs.YtchlgagdbflkmaaGreatDoor
end
section
open Go.RowKit Go.Pl Go.Av Go.Lib
namespace Go.Proofs.YtchlgagdbflkmaaGreatDoor
theorem Kb (k:IntKind):∀ zs:List Int,G6 (zs.map fun z=>.lit (.int k z))=zs.map fun z=>Value.int k z
 | []=>rfl
 | z::zs=>by rw[List.map_cons,List.map_cons,G6,Kb k zs];rfl
theorem G2 {P:Program}{W:World}{n:String}{g:Nat}{t:TypeId}{d:DataW Unit}(hg:P.globalNamed n=some g)(ht:(P.globals[g]?).map (·.type)=some t)(h:VarReads P W n d)
  (key:∀(fuel:Nat) (cs:List Value) (p:List MemPlace),DataW.trod (fun _=>()) P W 0 (fun _=>true) false fuel t cs=some (d,p)->∀(j:Nat) (v:Value),(dcs d)[j]?=some v->cs[j]?=some v) :
  ∀(j:Nat) (v:Value),(dcs d)[j]?=some v->(g0 W).C g j/\W.cell? ⟨g,j,none⟩=some v:=by
 obtain⟨g',t',cs,fuel,p,h1,h2,h3,h4⟩:=h
 obtain rfl:=Option.some.inj (hg.symm.trans h1)
 obtain rfl:=Option.some.inj (ht.symm.trans h2)
 intro j v hv
 have hc:=key fuel cs.toList p h4 j v hv
 have hcell:W.cell? ⟨g,j,none⟩=some v:=by
  rw[World.var?_cell hg h3 j,<- Array.getElem?_toList];exact hc
 exact⟨World.block_lt_of_cell? W _ hcell,hcell⟩
theorem HU {P:Program}{W:World}{t e:TypeId}{n:Nat}{k:IntKind}{d:DataW Unit}(zs:List Int)(hd:d=tabData k zs)(ht:P.underlying t=some (.array n e))(he:P.underlying e=some (.int k))(hce:P.cellsOf e=1)(hct:P.cellsOf t=n) :
  ∀(fuel:Nat) (cs:List Value) (p:List MemPlace),DataW.trod (fun _=>()) P W 0 (fun _=>true) false fuel t cs=some (d,p)->∀(j:Nat) (v:Value),(dcs d)[j]?=some v->cs[j]?=some v:=by
 subst hd
 intro fuel cs p h j v hv
 rw[cells_of_tab ht he hce hct h]
 rw[tabData,dcs,Kb]at hv
 exact hv
theorem G3 : "*" ++ "errors.errorString" = "*errors.errorString" := by decide
theorem NH (u:TypeId)(h:Tryz.prog.typeName? 3 u=some "*errors.errorString"):u=379:=
 typeName_ptr_named (nm := "errors.errorString") (by rw[G3];kernel_rfl) (by kernel_rfl) (by decide) u (by rw[G3];exact h)
theorem G4:Tryz.prog.underlying 264=some (.interface (Tryz.prog.methodsAt 264)):=by kernel_rfl
theorem Ik {W:World}{n:String}{g:Nat}{text:List UInt8}{r:List (String × DataW Unit)}(hg:Tryz.prog.globalNamed n=some g)(ht:(Tryz.prog.globals[g]?).map (·.type)=some 264)(h:laidMet Tryz.prog ((n,.iface "*errors.errorString" (.ptr (.agg [.lit (.string text)])))::r) W) :
  (g0 W).C g 0/\∃ v,W.cell? ⟨g,0,none⟩=some (.iface 379 v):=by
 obtain⟨a,s,hv,_⟩:=laid_sentinel h hg ht G4 NH (Tryz.underlying379) (Tryz.underlying381) rfl rfl Tryz.underlying9 (by kernel_rfl) (by kernel_rfl)
 have hc:W.cell? ⟨g,0,none⟩=some (.iface 379 (.pointer (some a))):=by
  rw[World.var?_cell hg hv 0];rfl
 exact⟨World.block_lt_of_cell? W _ hc,_,hc⟩
abbrev VU:Known:=⟨[0,2,3]⟩
theorem OQ : @KnownSc VU:=@KnownSc.mk VU (List.mem_cons_of_mem _ (List.mem_cons_of_mem _ (List.mem_cons_self ..))) (List.mem_cons_of_mem _ (List.mem_cons_self ..))
theorem Oh : @KnownPow VU:=@KnownPow.mk VU (List.mem_cons_self ..)
def M3:List Int:=(List.range 20).map fun i=>((10 ^ i:Nat):Int)
theorem TP {W:World}{laid r1 r2:List (String × DataW Unit)}(h1:("internal/strconv.uint64pow10",Rows.laid_internal_strconv_uint64pow10) ∈ laid)(h:laidMet Tryz.prog laid W)(hR:laidMet Tryz.prog (("strconv.ErrRange",Rows.laid_strconv_ErrRange)::r1) W)(hS:laidMet Tryz.prog (("strconv.ErrSyntax",Rows.laid_strconv_ErrSyntax)::r2) W) : @Gls VU (g0 W).C W:=by
 have r1':=laidMet.reads h h1
 have c1:=G2 (P:=Tryz.prog) (g:=0) (t:=339) (by kernel_rfl) (by kernel_rfl) r1' (HU M3 (by kernel_rfl) (n:=20) (by kernel_rfl) Tryz.underlying31 (by kernel_rfl) (by kernel_rfl))
 have eR:=Ik (W:=W) (g:=3) (by kernel_rfl) (by kernel_rfl) hR
 have eS:=Ik (W:=W) (g:=2) (by kernel_rfl) (by kernel_rfl) hS
 refine⟨fun k cs hk=>?_,fun k t hk=>?_⟩
 ·obtain⟨hk,hm⟩:=hk
  simp only[G7,List.mem_cons,List.not_mem_nil,or_false,Prod.mk.injEq]at hm
  have hk:k ∈ [0,2,3]:=hk
  simp only[List.mem_cons,List.not_mem_nil,or_false]at hk
  clear r1' h1 h hR hS eR eS
  rcases hk with rfl|rfl|rfl
  all_goals repeat'(refine Or.elim hm (fun hm=>?_) (fun hm=>?_))
  all_goals first
   | (obtain⟨h,rfl⟩:=hm;exact c1)
   | (obtain⟨h,_⟩:=hm;exact absurd h (by decide))
 ·obtain⟨hk,hm⟩:=hk
  have hk:k ∈ [0,2,3]:=hk
  simp only[List.mem_cons,List.not_mem_nil,or_false]at hk
  simp only[Il,List.mem_cons,List.not_mem_nil,or_false,Prod.mk.injEq]at hm
  clear r1' h1 h hR hS c1
  rcases hk with rfl|rfl|rfl
  all_goals repeat'(refine Or.elim hm (fun hm=>?_) (fun hm=>?_))
  all_goals first
   | (obtain⟨h,_⟩:=hm;exact absurd h (by decide))
   | (obtain⟨_,rfl⟩:=hm;exact eS)
   | (obtain⟨_,rfl⟩:=hm;exact eR)
end Go.Proofs.YtchlgagdbflkmaaGreatDoor
end
section
open Go.RowKit Go.Pl Go.Av
namespace Go.Proofs.YtchlgagdbflkmaaGreatDoor
abbrev RCo:Rep (Int × Int × List UInt8 × Nat × Int × Int × Int × Nat × List UInt8):=Rep.i64.prod (Rep.i64.prod ((Rep.slice Rep.byte (by decide)).prod RY))
theorem TQ:Uq Tryz.prog 35 RCo:=
 Jg Tryz.underlying35 (by kernel_rfl) (Wx rfl rfl (by kernel_rfl) (Ur Tryz.underlying3) (Wx rfl rfl (by kernel_rfl) (Ur Tryz.underlying3) (Wx rfl rfl (by kernel_rfl) (Qn (R:=Rep.byte) (by decide) Tryz.underlying26 (by kernel_rfl) (J2 Tryz.underlying5)) (Xv rfl rfl (by kernel_rfl) TB))))
abbrev XCo:=Int × Int × List UInt8 × Nat × Int × Int × Int × Nat × List UInt8
def XCo.v (x:XCo):CoV:=⟨x.1,x.2.1,x.2.2.1,⟨x.2.2.2.1,x.2.2.2.2.1,x.2.2.2.2.2.1,x.2.2.2.2.2.2.1,x.2.2.2.2.2.2.2.1,x.2.2.2.2.2.2.2.2⟩⟩
theorem TR:ToE RCo (fun x=>coE (XCo.v x)):=ToE.i64.prod (ToE.i64.prod ((ToE.byte.slice (by decide)).prod (ToE.u64.prod (ToE.i64.prod (ToE.i64.prod (ToE.i64.prod (ToE.u64.prod (ToE.byte.slice (by decide)))))))))
theorem NI [Known]{W:World}{v:Value}{l:List XCo}(hs:Sl RCo W (· < W.heap.size) v l):V W (g0 W) [] (.sl .ext ((l.map XCo.v).map coE)) v:=by
 have h:=V.ofE (w:=W) (g:=g0 W) (fr:=[]) (e:=.sl (l.map fun x=>coE (XCo.v x))) (TR.sl (C:=(g0 W).C) (fun k hk o=>hk) hs)
 have e:(l.map XCo.v).map coE=l.map fun x=>coE (XCo.v x):=List.map_map ..
 rw[e]
 exact h
theorem Xy (v0:Value)(x0:List XCo)(W:World)(h0:Sl RCo W (· < W.heap.size) v0 x0)(hl:laidMet Tryz.prog Rows.connLivesRow.laid W) :
  Calls Tryz.prog 3 #[v0] W fun e w'=>e=.returned (.bool true)/\Below W.heap.size W w':=by
 have hg:=TP (laid:=Rows.connLivesRow.laid) (by unfold Rows.connLivesRow;repeat (first|exact List.mem_cons_self .. | apply List.mem_cons_of_mem)) hl hl.tail.tail.tail hl.tail.tail.tail.tail
 have h:=@Ku VU OQ Oh (x0.map XCo.v)
 refine @NK VU Tryz.prog 3 _ (@AC.mono VU _ _ _ _ _ _ _ h fun r b t h=>h.1) W [v0] hg rfl ?_
 intro j d v hd hv
 match j,hd,hv with
 | 0,hd,hv=>cases hd;cases hv;exact @NI VU _ _ _ h0
 | j+1,hd,hv=>cases hd
end Go.Proofs.YtchlgagdbflkmaaGreatDoor
end
