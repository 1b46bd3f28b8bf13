/- ConnLives: rounds: what goes out is taken (cwgen.py). -/
import Derived.Test.YtchlgagdbflkmaaGreatDoorL25
set_option linter.unusedVariables false
set_option linter.unusedSimpArgs false
section
open Go.RowKit Go.Pl Go.Av
namespace Go.Proofs.YtchlgagdbflkmaaGreatDoor
set_option maxHeartbeats 4000000
set_option maxRecDepth 10000 in
theorem TM [Known][KnownSc][KnownPow](p left:List UInt8)(tk:Nat)(w:List RqV)(s:Int)(o:List UInt8)(e:Nat)(br:Int)(ops:List CoV)(i k:Nat)(kd n:Int)(b:List UInt8)(id:Nat)(err num cnt:Int)(tok:Nat)(data:List UInt8)(hk:k+i=60)(hlt:i<ops.length/\i<60)(hx:ops[i]?=some ⟨kd,n,b,⟨id,err,num,cnt,tok,data⟩⟩)(g1:decide (((b.map E.byte).length:Int)>1500)=false)(g2:decide (((p.map E.byte).length:Int)>9000)=false)(g3:decide (((data.map E.byte).length:Int)>1000)=false)(hok:Qg p left tk w e br)(hol2:o.length<=700*i)(q4:kd=4)(Q:X->St->Prop) :
  AW Tryz.prog (WJ (Tryz.f3.body.getD .skip)) ⟨227,cwT ops i,cwB p left tk w s o e br,cwF p w o,(([]:List (List D)).length,([]:List Fr).length)⟩ (X.then (LandV (CwJ ops) 227 (([]:List (List D)).length,([]:List Fr).length) k) Q):=by
 conv=>enter [3];whnf
 have hol:(ops.map coE).length=ops.length:=List.length_map ..
 have hUo:=V8 ops
 have hd1:decide ((i:Int)<((ops.map coE).length:Int))=true:=decide_eq_true (by rw[hol];omega)
 have hd2:decide ((i:Int)<60)=true:=decide_eq_true (by omega)
 have ei:IntKind.i64.wrap ((i:Int)+1)=((i+1:Nat):Int):=by rw[IntWalk.i64_in _ (by omega)];omega
 have hxe:(ops.map coE)[((i:Nat):Int).toNat]?=some (coE ⟨kd,n,b,⟨id,err,num,cnt,tok,data⟩⟩):=by rw[Int.toNat_natCast,List.getElem?_map,hx];rfl
 replace hxe:(ops.map coE)[((i:Nat):Int).toNat]?=some (.agg [.int .i64 kd,.int .i64 n,.sl (b.map E.byte),.int .u64 (id:Int),.int .i64 err,.int .i64 num,.int .i64 cnt,.int .u64 (tok:Int),.sl (data.map E.byte)]):=hxe
 have hbl:b.length<=1500:=by rw[List.length_map]at g1;have:=of_decide_eq_false g1;omega
 have hpl:p.length<=9000:=by rw[List.length_map]at g2;have:=of_decide_eq_false g2;omega
 have zz:∀ x:Int,(x != x)=false:=fun x=>by simp
 have zy:∀ x:Int,(x==x)=true:=fun x=>by simp
 have zw:∀ x:Int,(!(x==x))=false:=fun x=>by simp
 subst q4
 have hk1:=ME (w.map rqE) (o.map E.byte) w.length o.length s (e:Int) left br
 have hs:(o==o)=true:=beq_self_eq_true _
 have hs2:decide (o=o)=true:=decide_eq_true rfl
 have hs3:(!(o==o))=false:=by simp
 have hs4:(!(decide (o=o)))=false:=by simp
 have z1:=zz ((w.map rqE).length:Int)
 have z2:=zz s
 have z3:=zz (e:Int)
 repeat'(first|rw[ei]|refine ZF Zb Z Z Z Z Z Z (Int.natCast_nonneg _) hxe hUo ?_|(apply Zm [0,1] [0,1] (hk1);kernel_rfl;(iterate 10 exact Z))|(apply Z0 (bs:=o) Zb;(iterate 9 exact Z))|(apply Zr Tryz.func23 Tryz.ntmps23;exact Z;exact Z;kernel_rfl;(iterate 6 exact Z))|(apply Zr Tryz.func24 Tryz.ntmps24;exact Z;exact Z;kernel_rfl;(iterate 6 exact Z))|(apply Zr Tryz.func25 Tryz.ntmps25;exact Z;exact Z;kernel_rfl;(iterate 6 exact Z))|(apply Zr Tryz.func54 Tryz.ntmps54;exact Z;exact Z;kernel_rfl;(iterate 6 exact Z))|(apply Z4;(apply Zd Zb;exact Z);exact Z)|(apply Zl Zb;exact Z)|(apply Zj Zb;exact Z)|(apply Zt Zb;exact Z)|(apply Zi;(iterate 3 exact Z);(first|with_reducible assumption|decide +kernel|(solve|simp only[bn])))|(apply Zo;exact Z;(first|with_reducible assumption|decide +kernel|(solve|simp only[bn]));exact Z;exact Z)|(apply Zn;exact Z;(first|with_reducible assumption|decide +kernel|(solve|simp only[bn]));exact Z;exact Z)|(apply Zf;exact Z;(first|with_reducible assumption|decide +kernel|(solve|simp only[bn])))|(apply Zg;exact Z;(first|with_reducible assumption|decide +kernel|(solve|simp only[bn])))|refine Zz Zb Z Z Z Z ?_|(apply Za 8 Ze;decide +kernel;kernel_rfl;kernel_rfl;kernel_rfl;exact Z;exact Z)|(apply Za 28 Ze;decide +kernel;kernel_rfl;kernel_rfl;kernel_rfl;exact Z;exact Z)|(apply Zv;(iterate 4 exact Z))|exact AE.nil _ _ _ _|(apply ZB;exact Z)|(apply Z1;exact Z)|(apply ZD;exact Z;exact Z;decide +kernel;exact Z)|(apply ZE;exact Z)|(apply Ye;exact Z)|exact AO.nil _ _ _|(apply Zu;(decide +kernel))|(apply ZP;(iterate 3 exact Z))|exact AOs.nil|exact ZR rfl rfl|exact YC rfl rfl)
 apply LandV.mk' [⟨0,1,5⟩,⟨0,1,5⟩]
 ·rfl
 ·apply Cvb.same;apply Cvb.cons;exact(.cons (.same _) (.cons (.same _) (.cons (.same _) (.cons (.nil 5 rfl rfl) (.cons (.same _) (.nil))))));exact Z;exact Z;apply Cvb.cons;exact(.cons (.same _) (.cons (.same _) (.cons (.same _) (.cons (.same _) (.cons (.nil 6 rfl rfl) (.cons (.same _) (.nil)))))));exact Z;exact Z;repeat (first|exact .nil|apply Cvb.same)
 refine LandS.mk' (m:=k-1) (tm1:=cwT ops (i+1)) (bx:=cwB p left tk w s [] e br) (fr:=cwF p w []) [0,1,2] [0,5,2,3,6] (by omega) ⟨i+1,p,left,tk,w,s,[],e,br,by omega,hok,by omega,by simp,rfl,rfl,rfl⟩ rfl rfl rfl rfl ?_ rfl rfl rfl
 exact .cons rfl (.cons rfl (.cons rfl (.cons rfl .nil)))
end Go.Proofs.YtchlgagdbflkmaaGreatDoor
end
