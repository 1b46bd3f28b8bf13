/- ConnLives: rounds: bytes come (cwgen.py). -/
import Derived.Test.YtchlgagdbflkmaaGreatDoorL25
import Derived.Test.YtchlgagdbflkmaaGreatDoorL35
set_option linter.unusedVariables false
set_option linter.unusedSimpArgs false
section
open Go.RowKit Go.Pl Go.Av
namespace Go.Proofs.YtchlgagdbflkmaaGreatDoor
set_option maxHeartbeats 4000000
set_option maxRecDepth 10000 in
theorem GS [Known][KnownSc][KnownPow](p left:List UInt8)(tk:Nat)(w:List RqV)(s:Int)(o:List UInt8)(e:Nat)(br:Int)(ops:List CoV)(i k:Nat)(kd n:Int)(b:List UInt8)(id:Nat)(err num cnt:Int)(tok:Nat)(data:List UInt8)(hk:k+i=60)(hlt:i<ops.length/\i<60)(hx:ops[i]?=some ⟨kd,n,b,⟨id,err,num,cnt,tok,data⟩⟩)(g1:decide (((b.map E.byte).length:Int)>1500)=false)(g2:decide (((p.map E.byte).length:Int)>9000)=false)(g3:decide (((data.map E.byte).length:Int)>1000)=false)(hok:Qg p left tk w e br)(hol2:o.length<=700*i)(q0:kd=0)(he:e ≠ 0)(Q:X->St->Prop) :
  AW Tryz.prog (WJ (Tryz.f3.body.getD .skip)) ⟨227,cwT ops i,cwB p left tk w s o e br,cwF p w o,(([]:List (List D)).length,([]:List Fr).length)⟩ (X.then (LandV (CwJ ops) 227 (([]:List (List D)).length,([]:List Fr).length) k) Q):=by
 conv=>enter [3];whnf
 have hol:(ops.map coE).length=ops.length:=List.length_map ..
 have hUo:=V8 ops
 have hd1:decide ((i:Int)<((ops.map coE).length:Int))=true:=decide_eq_true (by rw[hol];omega)
 have hd2:decide ((i:Int)<60)=true:=decide_eq_true (by omega)
 have ei:IntKind.i64.wrap ((i:Int)+1)=((i+1:Nat):Int):=by rw[IntWalk.i64_in _ (by omega)];omega
 have hxe:(ops.map coE)[((i:Nat):Int).toNat]?=some (coE ⟨kd,n,b,⟨id,err,num,cnt,tok,data⟩⟩):=by rw[Int.toNat_natCast,List.getElem?_map,hx];rfl
 replace hxe:(ops.map coE)[((i:Nat):Int).toNat]?=some (.agg [.int .i64 kd,.int .i64 n,.sl (b.map E.byte),.int .u64 (id:Int),.int .i64 err,.int .i64 num,.int .i64 cnt,.int .u64 (tok:Int),.sl (data.map E.byte)]):=hxe
 have hbl:b.length<=1500:=by rw[List.length_map]at g1;have:=of_decide_eq_false g1;omega
 have hpl:p.length<=9000:=by rw[List.length_map]at g2;have:=of_decide_eq_false g2;omega
 have zz:∀ x:Int,(x != x)=false:=fun x=>by simp
 have zy:∀ x:Int,(x==x)=true:=fun x=>by simp
 have zw:∀ x:Int,(!(x==x))=false:=fun x=>by simp
 subst q0
 have hk1:=kfX b e he (w.map rqE) (o.map E.byte) w.length o.length s left br
 have hk2:=dfX b e he (p.map E.byte) (w.map rqE) (o.map E.byte) p.length w.length o.length (tk:Int) s
 have z0:=zy (e:Int)
 have z4:=zw (e:Int)
 have z1:=zz ((w.map rqE).length:Int)
 have z2:=zz s
 have z3:=zz (e:Int)
 repeat'(first|rw[ei]|refine ZF Zb Z Z Z Z Z Z (Int.natCast_nonneg _) hxe hUo ?_|(apply Zm [0,1] [0,1] (hk1);kernel_rfl;(iterate 10 exact Z))|(apply Zm [2] [2,3,4] (hk2);kernel_rfl;(iterate 10 exact Z))|(apply Zr Tryz.func23 Tryz.ntmps23;exact Z;exact Z;kernel_rfl;(iterate 6 exact Z))|(apply Zr Tryz.func24 Tryz.ntmps24;exact Z;exact Z;kernel_rfl;(iterate 6 exact Z))|(apply Zr Tryz.func25 Tryz.ntmps25;exact Z;exact Z;kernel_rfl;(iterate 6 exact Z))|(apply Zr Tryz.func54 Tryz.ntmps54;exact Z;exact Z;kernel_rfl;(iterate 6 exact Z))|(apply Z4;(apply Zd Zb;exact Z);exact Z)|(apply Zl Zb;exact Z)|(apply Zj Zb;exact Z)|(apply Zt Zb;exact Z)|(apply Zi;(iterate 3 exact Z);(first|with_reducible assumption|decide +kernel|(solve|simp only[bn])))|(apply Zo;exact Z;(first|with_reducible assumption|decide +kernel|(solve|simp only[bn]));exact Z;exact Z)|(apply Zn;exact Z;(first|with_reducible assumption|decide +kernel|(solve|simp only[bn]));exact Z;exact Z)|(apply Zf;exact Z;(first|with_reducible assumption|decide +kernel|(solve|simp only[bn])))|(apply Zg;exact Z;(first|with_reducible assumption|decide +kernel|(solve|simp only[bn])))|refine Zz Zb Z Z Z Z ?_|(apply Za 7 Ze;decide +kernel;kernel_rfl;kernel_rfl;kernel_rfl;exact Z;exact Z)|(apply Za 28 Ze;decide +kernel;kernel_rfl;kernel_rfl;kernel_rfl;exact Z;exact Z)|(apply Zv;(iterate 4 exact Z))|exact AE.nil _ _ _ _|(apply ZB;exact Z)|(apply ZD;exact Z;exact Z;decide +kernel;exact Z)|(apply ZE;exact Z)|exact AO.nil _ _ _|(apply Zu;(decide +kernel))|exact AOs.nil|exact ZR rfl rfl)
 refine LandV.of ?_
 refine LandS.mk' (m:=k-1) (tm1:=cwT ops (i+1)) (bx:=cwB p left tk w s o e br) (fr:=cwF p w o) [0,1,2] [0,1,2,3,4] (by omega) ⟨i+1,p,left,tk,w,s,o,e,br,by omega,hok,by omega,by omega,rfl,rfl,rfl⟩ rfl rfl rfl rfl ?_ rfl rfl rfl
 exact .cons rfl (.cons rfl (.cons rfl (.cons rfl .nil)))
set_option maxRecDepth 10000 in
theorem GT [Known][KnownSc][KnownPow](p left:List UInt8)(tk:Nat)(w:List RqV)(s:Int)(o:List UInt8)(e:Nat)(br:Int)(ops:List CoV)(i k:Nat)(kd n:Int)(b:List UInt8)(id:Nat)(err num cnt:Int)(tok:Nat)(data:List UInt8)(hk:k+i=60)(hlt:i<ops.length/\i<60)(hx:ops[i]?=some ⟨kd,n,b,⟨id,err,num,cnt,tok,data⟩⟩)(g1:decide (((b.map E.byte).length:Int)>1500)=false)(g2:decide (((p.map E.byte).length:Int)>9000)=false)(g3:decide (((data.map E.byte).length:Int)>1000)=false)(hok:Qg p left tk w e br)(hol2:o.length<=700*i)(q0:kd=0)(he:e=0)(h0:(Ul left w b).2.2.1=0)(Q:X->St->Prop) :
  AW Tryz.prog (WJ (Tryz.f3.body.getD .skip)) ⟨227,cwT ops i,cwB p left tk w s o e br,cwF p w o,(([]:List (List D)).length,([]:List Fr).length)⟩ (X.then (LandV (CwJ ops) 227 (([]:List (List D)).length,([]:List Fr).length) k) Q):=by
 conv=>enter [3];whnf
 have hol:(ops.map coE).length=ops.length:=List.length_map ..
 have hUo:=V8 ops
 have hd1:decide ((i:Int)<((ops.map coE).length:Int))=true:=decide_eq_true (by rw[hol];omega)
 have hd2:decide ((i:Int)<60)=true:=decide_eq_true (by omega)
 have ei:IntKind.i64.wrap ((i:Int)+1)=((i+1:Nat):Int):=by rw[IntWalk.i64_in _ (by omega)];omega
 have hxe:(ops.map coE)[((i:Nat):Int).toNat]?=some (coE ⟨kd,n,b,⟨id,err,num,cnt,tok,data⟩⟩):=by rw[Int.toNat_natCast,List.getElem?_map,hx];rfl
 replace hxe:(ops.map coE)[((i:Nat):Int).toNat]?=some (.agg [.int .i64 kd,.int .i64 n,.sl (b.map E.byte),.int .u64 (id:Int),.int .i64 err,.int .i64 num,.int .i64 cnt,.int .u64 (tok:Int),.sl (data.map E.byte)]):=hxe
 have hbl:b.length<=1500:=by rw[List.length_map]at g1;have:=of_decide_eq_false g1;omega
 have hpl:p.length<=9000:=by rw[List.length_map]at g2;have:=of_decide_eq_false g2;omega
 have zz:∀ x:Int,(x != x)=false:=fun x=>by simp
 have zy:∀ x:Int,(x==x)=true:=fun x=>by simp
 have zw:∀ x:Int,(!(x==x))=false:=fun x=>by simp
 subst q0 he
 obtain⟨hw8,hop,_⟩:=hok
 obtain⟨h2,hL,hT,hbr⟩:=hop rfl
 subst hbr
 have hll:=Xh p
 rw[hL]at hll
 obtain⟨r,hr⟩:∃ r,r=Ul left w b:=⟨_,rfl⟩
 have hr8:r.2.1.length<=8:=by rw[hr];exact Xs _ _ _ hw8
 obtain⟨hn1,hn2,hn3⟩:=IH (b:=b) h2 hL h0
 rw[<- hr]at h0 hn2 hn3
 have hk1:=kfO left b w hw8 (by omega) (o.map E.byte) o.length s _ r hr (.inr ⟨h0,rfl⟩)
 obtain⟨tq,htq,hk2⟩:=dfO p b left tk w hw8 (by omega) h2 hL hT (o.map E.byte) o.length s _ r hr (.inr ⟨h0,rfl⟩)
 have htq:=htq h0
 rw[h0]at hk1 hk2
 rw[hn3]at hk1
 have hok2:Qg (p++b) r.1 tq r.2.1 0 0:=⟨hr8,fun _=>⟨hn1,hn2,htq.symm,rfl⟩,fun h=>(h rfl).elim⟩
 have z0:=zy ((0:Nat):Int)
 have z4:=zw ((0:Nat):Int)
 have z1:=zz ((r.2.1.map rqE).length:Int)
 have z2:=zz s
 have z3:=zz ((0:Nat):Int)
 clear hr hop htq hn1 hn2 hn3 h0
 repeat'(first|rw[ei]|refine ZF Zb Z Z Z Z Z Z (Int.natCast_nonneg _) hxe hUo ?_|(apply Zm [0,1] [0,1] (hk1);kernel_rfl;(iterate 10 exact Z))|(apply Zm [2] [2,3,4] (hk2);kernel_rfl;(iterate 10 exact Z))|(apply Zr Tryz.func23 Tryz.ntmps23;exact Z;exact Z;kernel_rfl;(iterate 6 exact Z))|(apply Zr Tryz.func24 Tryz.ntmps24;exact Z;exact Z;kernel_rfl;(iterate 6 exact Z))|(apply Zr Tryz.func25 Tryz.ntmps25;exact Z;exact Z;kernel_rfl;(iterate 6 exact Z))|(apply Zr Tryz.func54 Tryz.ntmps54;exact Z;exact Z;kernel_rfl;(iterate 6 exact Z))|(apply Z4;(apply Zd Zb;exact Z);exact Z)|(apply Zl Zb;exact Z)|(apply Zj Zb;exact Z)|(apply Zt Zb;exact Z)|(apply Zi;(iterate 3 exact Z);(first|with_reducible assumption|decide +kernel|(solve|simp only[bn])))|(apply Zo;exact Z;(first|with_reducible assumption|decide +kernel|(solve|simp only[bn]));exact Z;exact Z)|(apply Zn;exact Z;(first|with_reducible assumption|decide +kernel|(solve|simp only[bn]));exact Z;exact Z)|(apply Zf;exact Z;(first|with_reducible assumption|decide +kernel|(solve|simp only[bn])))|(apply Zg;exact Z;(first|with_reducible assumption|decide +kernel|(solve|simp only[bn])))|refine Zz Zb Z Z Z Z ?_|(apply Za 7 Ze;decide +kernel;kernel_rfl;kernel_rfl;kernel_rfl;exact Z;exact Z)|(apply Za 28 Ze;decide +kernel;kernel_rfl;kernel_rfl;kernel_rfl;exact Z;exact Z)|(apply Zv;(iterate 4 exact Z))|exact AE.nil _ _ _ _|(apply ZB;exact Z)|(apply Z1;exact Z)|(apply ZD;exact Z;exact Z;decide +kernel;exact Z)|(apply ZE;exact Z)|(apply Ye;exact Z)|exact AO.nil _ _ _|(apply Zu;(decide +kernel))|(apply ZP;(iterate 3 exact Z))|exact AOs.nil|exact ZR rfl rfl|exact YC rfl rfl)
 refine LandV.of ?_
 refine LandS.mk' (m:=k-1) (tm1:=cwT ops (i+1)) (bx:=cwB (p++b) r.1 tq r.2.1 s o 0 0) (fr:=cwF (p++b) r.2.1 o) [0,1,2] [0,1,2,3,4] (by omega) ⟨i+1,(p++b),r.1,tq,r.2.1,s,o,0,0,by omega,hok2,by rw[List.length_append];omega,by omega,rfl,rfl,rfl⟩ rfl rfl rfl rfl ?_ rfl rfl rfl
 exact .cons rfl (.cons rfl (.cons rfl (.cons rfl .nil)))
set_option maxRecDepth 10000 in
theorem GU [Known][KnownSc][KnownPow](p left:List UInt8)(tk:Nat)(w:List RqV)(s:Int)(o:List UInt8)(e:Nat)(br:Int)(ops:List CoV)(i k:Nat)(kd n:Int)(b:List UInt8)(id:Nat)(err num cnt:Int)(tok:Nat)(data:List UInt8)(hk:k+i=60)(hlt:i<ops.length/\i<60)(hx:ops[i]?=some ⟨kd,n,b,⟨id,err,num,cnt,tok,data⟩⟩)(g1:decide (((b.map E.byte).length:Int)>1500)=false)(g2:decide (((p.map E.byte).length:Int)>9000)=false)(g3:decide (((data.map E.byte).length:Int)>1000)=false)(hok:Qg p left tk w e br)(hol2:o.length<=700*i)(q0:kd=0)(he:e=0)(h0:(Ul left w b).2.2.1 ≠ 0)(Q:X->St->Prop) :
  AW Tryz.prog (WJ (Tryz.f3.body.getD .skip)) ⟨227,cwT ops i,cwB p left tk w s o e br,cwF p w o,(([]:List (List D)).length,([]:List Fr).length)⟩ (X.then (LandV (CwJ ops) 227 (([]:List (List D)).length,([]:List Fr).length) k) Q):=by
 conv=>enter [3];whnf
 have hol:(ops.map coE).length=ops.length:=List.length_map ..
 have hUo:=V8 ops
 have hd1:decide ((i:Int)<((ops.map coE).length:Int))=true:=decide_eq_true (by rw[hol];omega)
 have hd2:decide ((i:Int)<60)=true:=decide_eq_true (by omega)
 have ei:IntKind.i64.wrap ((i:Int)+1)=((i+1:Nat):Int):=by rw[IntWalk.i64_in _ (by omega)];omega
 have hxe:(ops.map coE)[((i:Nat):Int).toNat]?=some (coE ⟨kd,n,b,⟨id,err,num,cnt,tok,data⟩⟩):=by rw[Int.toNat_natCast,List.getElem?_map,hx];rfl
 replace hxe:(ops.map coE)[((i:Nat):Int).toNat]?=some (.agg [.int .i64 kd,.int .i64 n,.sl (b.map E.byte),.int .u64 (id:Int),.int .i64 err,.int .i64 num,.int .i64 cnt,.int .u64 (tok:Int),.sl (data.map E.byte)]):=hxe
 have hbl:b.length<=1500:=by rw[List.length_map]at g1;have:=of_decide_eq_false g1;omega
 have hpl:p.length<=9000:=by rw[List.length_map]at g2;have:=of_decide_eq_false g2;omega
 have zz:∀ x:Int,(x != x)=false:=fun x=>by simp
 have zy:∀ x:Int,(x==x)=true:=fun x=>by simp
 have zw:∀ x:Int,(!(x==x))=false:=fun x=>by simp
 subst q0 he
 obtain⟨hw8,hop,_⟩:=hok
 obtain⟨h2,hL,hT,hbr⟩:=hop rfl
 subst hbr
 have hll:=Xh p
 rw[hL]at hll
 obtain⟨r,hr⟩:∃ r,r=Ul left w b:=⟨_,rfl⟩
 have hr8:r.2.1.length<=8:=by rw[hr];exact Xs _ _ _ hw8
 rw[<- hr]at h0
 have hk1:=kfO left b w hw8 (by omega) (o.map E.byte) o.length s _ r hr (.inl ⟨h0,rfl⟩)
 obtain⟨tq,htq,hk2⟩:=dfO p b left tk w hw8 (by omega) h2 hL hT (o.map E.byte) o.length s _ r hr (.inl ⟨h0,rfl⟩)
 have hok2:Qg (p++b) r.1 tq [] r.2.2.1 ((r.2.2.2:Nat):Int):=⟨by simp,fun h=>(h0 h).elim,fun _=>rfl⟩
 have z0:=zy ((r.2.2.1:Nat):Int)
 have z4:=zw ((r.2.2.1:Nat):Int)
 have z1:=zz (([]:List E).length:Int)
 have z2:=zz s
 have z3:=zz ((r.2.2.1:Nat):Int)
 clear hr hop htq h0
 repeat'(first|rw[ei]|refine ZF Zb Z Z Z Z Z Z (Int.natCast_nonneg _) hxe hUo ?_|(apply Zm [0,1] [0,1] (hk1);kernel_rfl;(iterate 10 exact Z))|(apply Zm [2] [2,3,4] (hk2);kernel_rfl;(iterate 10 exact Z))|(apply Zr Tryz.func23 Tryz.ntmps23;exact Z;exact Z;kernel_rfl;(iterate 6 exact Z))|(apply Zr Tryz.func24 Tryz.ntmps24;exact Z;exact Z;kernel_rfl;(iterate 6 exact Z))|(apply Zr Tryz.func25 Tryz.ntmps25;exact Z;exact Z;kernel_rfl;(iterate 6 exact Z))|(apply Zr Tryz.func54 Tryz.ntmps54;exact Z;exact Z;kernel_rfl;(iterate 6 exact Z))|(apply Z4;(apply Zd Zb;exact Z);exact Z)|(apply Zl Zb;exact Z)|(apply Zj Zb;exact Z)|(apply Zt Zb;exact Z)|(apply Zi;(iterate 3 exact Z);(first|with_reducible assumption|decide +kernel|(solve|simp only[bn])))|(apply Zo;exact Z;(first|with_reducible assumption|decide +kernel|(solve|simp only[bn]));exact Z;exact Z)|(apply Zn;exact Z;(first|with_reducible assumption|decide +kernel|(solve|simp only[bn]));exact Z;exact Z)|(apply Zf;exact Z;(first|with_reducible assumption|decide +kernel|(solve|simp only[bn])))|(apply Zg;exact Z;(first|with_reducible assumption|decide +kernel|(solve|simp only[bn])))|refine Zz Zb Z Z Z Z ?_|(apply Za 7 Ze;decide +kernel;kernel_rfl;kernel_rfl;kernel_rfl;exact Z;exact Z)|(apply Za 28 Ze;decide +kernel;kernel_rfl;kernel_rfl;kernel_rfl;exact Z;exact Z)|(apply Zv;(iterate 4 exact Z))|exact AE.nil _ _ _ _|(apply ZB;exact Z)|(apply Z1;exact Z)|(apply ZD;exact Z;exact Z;decide +kernel;exact Z)|(apply ZE;exact Z)|(apply Ye;exact Z)|exact AO.nil _ _ _|(apply Zu;(decide +kernel))|(apply ZP;(iterate 3 exact Z))|exact AOs.nil|exact ZR rfl rfl|exact YC rfl rfl)
 apply LandV.mk' [⟨0,19,41⟩,⟨0,19,46⟩]
 ·rfl
 ·apply Cvb.same;apply Cvb.cons;exact(.cons (.same _) (.cons (.nil 5 rfl rfl) (.cons (.same _) (.cons (.same _) (.cons (.same _) (.nil))))));exact Z;exact Z;apply Cvb.cons;exact(.cons (.same _) (.cons (.same _) (.cons (.nil 6 rfl rfl) (.cons (.same _) (.cons (.same _) (.cons (.same _) (.nil)))))));exact Z;exact Z;repeat (first|exact .nil|apply Cvb.same)
 refine LandS.mk' (m:=k-1) (tm1:=cwT ops (i+1)) (bx:=cwB (p++b) r.1 tq [] s o r.2.2.1 ((r.2.2.2:Nat):Int)) (fr:=cwF (p++b) [] o) [0,1,2] [5,1,2,6,4] (by omega) ⟨i+1,(p++b),r.1,tq,[],s,o,r.2.2.1,((r.2.2.2:Nat):Int),by omega,hok2,by rw[List.length_append];omega,by omega,rfl,rfl,rfl⟩ rfl rfl rfl rfl ?_ rfl rfl rfl
 exact .cons rfl (.cons rfl (.cons rfl (.cons rfl .nil)))
end Go.Proofs.YtchlgagdbflkmaaGreatDoor
end
