/- ConnLives: rounds: a request is taken out (cwgen.py). -/
import Derived.Test.YtchlgagdbflkmaaGreatDoorL25
set_option linter.unusedVariables false
set_option linter.unusedSimpArgs false
section
open Go.RowKit Go.Pl Go.Av
namespace Go.Proofs.YtchlgagdbflkmaaGreatDoor
set_option maxHeartbeats 4000000
set_option maxRecDepth 10000 in
theorem GV [Known][KnownSc][KnownPow](p left:List UInt8)(tk:Nat)(w:List RqV)(s:Int)(o:List UInt8)(e:Nat)(br:Int)(ops:List CoV)(i k:Nat)(kd n:Int)(b:List UInt8)(id:Nat)(err num cnt:Int)(tok:Nat)(data:List UInt8)(hk:k+i=60)(hlt:i<ops.length/\i<60)(hx:ops[i]?=some ⟨kd,n,b,⟨id,err,num,cnt,tok,data⟩⟩)(g1:decide (((b.map E.byte).length:Int)>1500)=false)(g2:decide (((p.map E.byte).length:Int)>9000)=false)(g3:decide (((data.map E.byte).length:Int)>1000)=false)(hok:Qg p left tk w e br)(hol2:o.length<=700*i)(q1:kd=1)(hw:w=[])(Q:X->St->Prop) :
  AW Tryz.prog (WJ (Tryz.f3.body.getD .skip)) ⟨227,cwT ops i,cwB p left tk w s o e br,cwF p w o,(([]:List (List D)).length,([]:List Fr).length)⟩ (X.then (LandV (CwJ ops) 227 (([]:List (List D)).length,([]:List Fr).length) k) Q):=by
 conv=>enter [3];whnf
 have hol:(ops.map coE).length=ops.length:=List.length_map ..
 have hUo:=V8 ops
 have hd1:decide ((i:Int)<((ops.map coE).length:Int))=true:=decide_eq_true (by rw[hol];omega)
 have hd2:decide ((i:Int)<60)=true:=decide_eq_true (by omega)
 have ei:IntKind.i64.wrap ((i:Int)+1)=((i+1:Nat):Int):=by rw[IntWalk.i64_in _ (by omega)];omega
 have hxe:(ops.map coE)[((i:Nat):Int).toNat]?=some (coE ⟨kd,n,b,⟨id,err,num,cnt,tok,data⟩⟩):=by rw[Int.toNat_natCast,List.getElem?_map,hx];rfl
 replace hxe:(ops.map coE)[((i:Nat):Int).toNat]?=some (.agg [.int .i64 kd,.int .i64 n,.sl (b.map E.byte),.int .u64 (id:Int),.int .i64 err,.int .i64 num,.int .i64 cnt,.int .u64 (tok:Int),.sl (data.map E.byte)]):=hxe
 have hbl:b.length<=1500:=by rw[List.length_map]at g1;have:=of_decide_eq_false g1;omega
 have hpl:p.length<=9000:=by rw[List.length_map]at g2;have:=of_decide_eq_false g2;omega
 have zz:∀ x:Int,(x != x)=false:=fun x=>by simp
 have zy:∀ x:Int,(x==x)=true:=fun x=>by simp
 have zw:∀ x:Int,(!(x==x))=false:=fun x=>by simp
 subst q1 hw
 have hk1:=MC (o.map E.byte) 0 o.length s (e:Int) left br
 have hA:=Ig GI
 have hS:=X5 GI GI
 rw[show VF GI GI=true by decide +kernel]at hS
 have z1:=zz (([]:List E).length:Int)
 have z2:=zz s
 have z3:=zz (e:Int)
 repeat'(first|rw[ei]|refine ZF Zb Z Z Z Z Z Z (Int.natCast_nonneg _) hxe hUo ?_|(apply Zm [0,1] [0,1] (hk1);kernel_rfl;(iterate 10 exact Z))|(apply Zr Tryz.func12 Tryz.ntmps12;exact Z;exact Z;kernel_rfl;(iterate 6 exact Z))|(apply Z4;(apply Zd Zb;exact Z);exact Z)|(apply Zc (hA);kernel_rfl;(iterate 4 exact Z))|(apply Zc (hS);kernel_rfl;(iterate 4 exact Z))|(apply Zr Tryz.func23 Tryz.ntmps23;exact Z;exact Z;kernel_rfl;(iterate 6 exact Z))|(apply Zr Tryz.func24 Tryz.ntmps24;exact Z;exact Z;kernel_rfl;(iterate 6 exact Z))|(apply Zr Tryz.func25 Tryz.ntmps25;exact Z;exact Z;kernel_rfl;(iterate 6 exact Z))|(apply Zr Tryz.func54 Tryz.ntmps54;exact Z;exact Z;kernel_rfl;(iterate 6 exact Z))|(apply Z4;(apply Zd Zb;exact Z);exact Z)|(apply Zl Zb;exact Z)|(apply Zj Zb;exact Z)|(apply Zt Zb;exact Z)|(apply Zi;(iterate 3 exact Z);(first|with_reducible assumption|decide +kernel|(solve|simp only[bn])))|(apply Zo;exact Z;(first|with_reducible assumption|decide +kernel|(solve|simp only[bn]));exact Z;exact Z)|(apply Zn;exact Z;(first|with_reducible assumption|decide +kernel|(solve|simp only[bn]));exact Z;exact Z)|(apply Zf;exact Z;(first|with_reducible assumption|decide +kernel|(solve|simp only[bn])))|(apply Zg;exact Z;(first|with_reducible assumption|decide +kernel|(solve|simp only[bn])))|refine Zz Zb Z Z Z Z ?_|(apply Za 7 Ze;decide +kernel;kernel_rfl;kernel_rfl;kernel_rfl;exact Z;exact Z)|(apply Za 28 Ze;decide +kernel;kernel_rfl;kernel_rfl;kernel_rfl;exact Z;exact Z)|(apply Zv;(iterate 4 exact Z))|exact AE.nil _ _ _ _|(apply ZB;exact Z)|(apply ZD;exact Z;exact Z;decide +kernel;exact Z)|(apply ZE;exact Z)|exact AO.nil _ _ _|(apply Zu;(decide +kernel))|exact AOs.nil|exact ZR rfl rfl)
 refine LandV.of ?_
 refine LandS.mk' (m:=k-1) (tm1:=cwT ops (i+1)) (bx:=cwB p left tk [] s o e br) (fr:=cwF p [] o) [0,1,2] [0,1,2,3,4] (by omega) ⟨i+1,p,left,tk,[],s,o,e,br,by omega,hok,by omega,by omega,rfl,rfl,rfl⟩ rfl rfl rfl rfl ?_ rfl rfl rfl
 exact .cons rfl (.cons rfl (.cons rfl (.cons rfl .nil)))
set_option maxRecDepth 10000 in
theorem GW [Known][KnownSc][KnownPow](p left:List UInt8)(tk:Nat)(w:List RqV)(s:Int)(o:List UInt8)(e:Nat)(br:Int)(ops:List CoV)(i k:Nat)(kd n:Int)(b:List UInt8)(id:Nat)(err num cnt:Int)(tok:Nat)(data:List UInt8)(hk:k+i=60)(hlt:i<ops.length/\i<60)(hx:ops[i]?=some ⟨kd,n,b,⟨id,err,num,cnt,tok,data⟩⟩)(g1:decide (((b.map E.byte).length:Int)>1500)=false)(g2:decide (((p.map E.byte).length:Int)>9000)=false)(g3:decide (((data.map E.byte).length:Int)>1000)=false)(hok:Qg p left tk w e br)(hol2:o.length<=700*i)(x:RqV)(L:List RqV)(q1:kd=1)(hw:w=x::L)(Q:X->St->Prop) :
  AW Tryz.prog (WJ (Tryz.f3.body.getD .skip)) ⟨227,cwT ops i,cwB p left tk w s o e br,cwF p w o,(([]:List (List D)).length,([]:List Fr).length)⟩ (X.then (LandV (CwJ ops) 227 (([]:List (List D)).length,([]:List Fr).length) k) Q):=by
 conv=>enter [3];whnf
 have hol:(ops.map coE).length=ops.length:=List.length_map ..
 have hUo:=V8 ops
 have hd1:decide ((i:Int)<((ops.map coE).length:Int))=true:=decide_eq_true (by rw[hol];omega)
 have hd2:decide ((i:Int)<60)=true:=decide_eq_true (by omega)
 have ei:IntKind.i64.wrap ((i:Int)+1)=((i+1:Nat):Int):=by rw[IntWalk.i64_in _ (by omega)];omega
 have hxe:(ops.map coE)[((i:Nat):Int).toNat]?=some (coE ⟨kd,n,b,⟨id,err,num,cnt,tok,data⟩⟩):=by rw[Int.toNat_natCast,List.getElem?_map,hx];rfl
 replace hxe:(ops.map coE)[((i:Nat):Int).toNat]?=some (.agg [.int .i64 kd,.int .i64 n,.sl (b.map E.byte),.int .u64 (id:Int),.int .i64 err,.int .i64 num,.int .i64 cnt,.int .u64 (tok:Int),.sl (data.map E.byte)]):=hxe
 have hbl:b.length<=1500:=by rw[List.length_map]at g1;have:=of_decide_eq_false g1;omega
 have hpl:p.length<=9000:=by rw[List.length_map]at g2;have:=of_decide_eq_false g2;omega
 have zz:∀ x:Int,(x != x)=false:=fun x=>by simp
 have zy:∀ x:Int,(x==x)=true:=fun x=>by simp
 have zw:∀ x:Int,(!(x==x))=false:=fun x=>by simp
 subst q1 hw
 have hk1:=knx x (L.map rqE) (o.map E.byte) (Ib L) (by have:=hok.1;simp at this ⊢;omega) (L.length+1) o.length s (e:Int) left br
 have hA:=Ig x
 have hS:=X5 x x
 rw[K8]at hS
 obtain⟨hw8,hop,hcl⟩:=hok
 have hU1:Uni 19 (rqE x::L.map rqE):=Ib (x::L)
 have hfn:L.length+1=(rqE x::L.map rqE).length:=by simp
 have hok2:Qg p left tk L e br:=⟨by simp at hw8 ⊢;omega,hop,fun h=>by cases hcl h⟩
 have d0:(((rqE x::L.map rqE).length:Int)==0)=false:=by simp;omega
 have z1:=zz ((L.map rqE).length:Int)
 have z2:=zz s
 have z3:=zz (e:Int)
 have hMl:(L.map rqE).length=L.length:=List.length_map ..
 clear hop hcl
 obtain⟨xid,xkd,⟨ei1,en,es,eh,ed⟩,⟨di,dn,dq,dh,dd⟩,pol,xnum,tik,pay,life,xtok,on⟩:=x
 change AW Tryz.prog _ ⟨227,cwT ops i,cvS (cvW (rqE _::L.map rqE)) s (cvO (o.map E.byte)) (e:Int) left br++cwX (p.map E.byte) (tk:Int) (cwL (rqE _::L.map rqE)) s (cwO (o.map E.byte)) (e:Int),cwG (L.length+1) o.length p.length (L.length+1) o.length,_⟩ _
 repeat'(first|rw[ei]|refine ZF Zb Z Z Z Z Z Z (Int.natCast_nonneg _) hxe hUo ?_|(apply Zm [0,1] [0,1] (hk1);kernel_rfl;(iterate 10 exact Z))|(apply Gz (p:=1) (l2:=L.map rqE) Zb;(iterate 5 exact Z);exact .lit _ _ .i64 1 rfl (by decide);exact Nat.succ_le_succ (Nat.zero_le _);exact Z;exact Z;exact hfn;exact Z;exact hU1;(iterate 4 exact Z))|(apply Tw 3 Tryz.func12 Tryz.ntmps12;exact Z;exact Z;kernel_rfl;(iterate 7 exact Z))|(apply Zc (hA);kernel_rfl;(iterate 4 exact Z))|(apply Zc (hS);kernel_rfl;(iterate 4 exact Z))|(apply Zr Tryz.func23 Tryz.ntmps23;exact Z;exact Z;kernel_rfl;(iterate 6 exact Z))|(apply Zr Tryz.func24 Tryz.ntmps24;exact Z;exact Z;kernel_rfl;(iterate 6 exact Z))|(apply Zr Tryz.func25 Tryz.ntmps25;exact Z;exact Z;kernel_rfl;(iterate 6 exact Z))|(apply Zr Tryz.func54 Tryz.ntmps54;exact Z;exact Z;kernel_rfl;(iterate 6 exact Z))|(apply Z4;(apply Zd Zb;exact Z);exact Z)|(apply Zl Zb;exact Z)|(apply Zj Zb;exact Z)|(apply Zt Zb;exact Z)|(apply Zi;(iterate 3 exact Z);(first|with_reducible assumption|decide +kernel|(solve|simp only[bn])))|(apply Zo;exact Z;(first|with_reducible assumption|decide +kernel|(solve|simp only[bn]));exact Z;exact Z)|(apply Zn;exact Z;(first|with_reducible assumption|decide +kernel|(solve|simp only[bn]));exact Z;exact Z)|(apply Zf;exact Z;(first|with_reducible assumption|decide +kernel|(solve|simp only[bn])))|(apply Zg;exact Z;(first|with_reducible assumption|decide +kernel|(solve|simp only[bn])))|refine Zz Zb Z Z Z Z ?_|(apply Za 7 Ze;decide +kernel;kernel_rfl;kernel_rfl;kernel_rfl;exact Z;exact Z)|(apply Za 28 Ze;decide +kernel;kernel_rfl;kernel_rfl;kernel_rfl;exact Z;exact Z)|(apply Zv;(iterate 4 exact Z))|exact AE.nil _ _ _ _|(apply ZB;exact Z)|(apply ZD;exact Z;exact Z;decide +kernel;exact Z)|(apply ZE;exact Z)|exact AO.nil _ _ _|(apply Zu;(decide +kernel))|exact AOs.nil|exact ZR rfl rfl|(apply ZF Zb;(iterate 6 exact Z);(first|exact Qt|rotate_left);(first|with_reducible assumption|decide +kernel|exact Z);(first|exact Zk rfl|with_reducible assumption|decide +kernel|rotate_left)))
 refine LandV.of ?_
 refine LandS.mk' (m:=k-1) (tm1:=cwT ops (i+1)) (bx:=cwB p left tk L s o e br) (fr:=cwF p L o) [0,1,2] [5,1,2,3,4] (by omega) ⟨i+1,p,left,tk,L,s,o,e,br,by omega,hok2,by omega,by omega,rfl,rfl,rfl⟩ rfl rfl rfl rfl ?_ rfl rfl (by show _=cwG L.length o.length p.length L.length o.length;rw[<- hMl];rfl)
 exact .cons rfl (.cons rfl (.cons rfl (.cons rfl .nil)))
end Go.Proofs.YtchlgagdbflkmaaGreatDoor
end
