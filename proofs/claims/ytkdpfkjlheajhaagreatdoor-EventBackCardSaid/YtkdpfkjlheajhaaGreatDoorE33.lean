/- Package event: may the parts be? -/
import Derived.Test.YtkdpfkjlheajhaaGreatDoorE32
import Derived.Test.YtkdpfkjlheajhaaGreatDoorE31
import Derived.Shelf.LaysM
import Derived.Shelf.Strconv.Itoa1
import Derived.Shelf.Strconv.Itoa2
import Derived.Test.YtkdpfkjlheajhaaGreatDoorProg
import Derived.Test.YtkdpfkjlheajhaaGreatDoorE11
import Derived.Lib.ItoaMem
import Derived.Lib.Walk
import Derived.WalkKit
import Derived.BigCall
import Derived.BigGuard
import Derived.Test.YtkdpfkjlheajhaaGreatDoorE27
import Derived.Lib.ItoaNum
import Derived.Shelf.Pu.Lays
import Derived.Shelf.Pu.ParseUintPublic10
import Derived.Lib.AtoiErrMem
import Derived.Test.YtkdpfkjlheajhaaGreatDoorE24
import Derived.Lib.ParseIntBCases
import Derived.Test.YtkdpfkjlheajhaaGreatDoorE12
set_option linter.unusedVariables false
set_option linter.unusedSimpArgs false
section
open Go.RowKit Go.Pl Go.Av
namespace Go.Proofs.YtkdpfkjlheajhaaGreatDoor
set_option maxHeartbeats 4000000
theorem HA [Known][KnownU8](x:EvV)(hd:x.data.length<=3000):AP Tryz.prog 88 [.agg (evC x)] (.bool (Vy x)) []:=by
 have hS:=MR x.ses
 have hR:=Jb x.rq
 have hB:=Hz x.data hd
 unfold Vy
 generalize JN x.ses=s at *
 generalize Yj x.rq=r at *
 generalize XZ x.data=z at *
 clear hd
 obtain⟨now,kd,tok,ses,⟨id,rk,⟨ei,en,es,eh,ed⟩,⟨di,dn,dq,dh,dd⟩,pol,num,tik,pay,life,rt,on⟩,data⟩:=x
 replace hS:AP Tryz.prog 109 [.int .i64 ses] (.bool s) []:=hS
 replace hR:AP Tryz.prog 93 [.agg [.int .u64 (id:Int),.int .i64 rk,.bool ei,.int .u64 (en:Int),.int .u64 (es:Int),.str eh,.str ed,.bool di,.int .u64 (dn:Int),.int .u64 (dq:Int),.str dh,.str dd,.int .i64 pol,.int .i64 num,.int .i64 tik,.sl .ext (pay.map E.byte),.int .u64 (life:Int),.int .u64 (rt:Int),.bool on]] (.bool r) []:=hR
 replace hB:AP Tryz.prog 110 [.sl .ext (data.map E.byte)] (.bool z) []:=hB
 show AP Tryz.prog 88 [.agg [.int .u64 (now:Int),.int .i64 kd,.int .u64 (tok:Int),.int .i64 ses,.int .u64 (id:Int),.int .i64 rk,.bool ei,.int .u64 (en:Int),.int .u64 (es:Int),.str eh,.str ed,.bool di,.int .u64 (dn:Int),.int .u64 (dq:Int),.str dh,.str dd,.int .i64 pol,.int .i64 num,.int .i64 tik,.sl .ext (pay.map E.byte),.int .u64 (life:Int),.int .u64 (rt:Int),.bool on,.sl .ext (data.map E.byte)]] (.bool (if kd==1||kd==2 then decide ((tok:Int) ≥ 1)&&decide ((tok:Int)<=2147483648) else if kd==3 then s else if kd==4 then s&&(r&&((rk != 11)&&(rk != 12))) else if kd==5 then z else kd==6||(kd==7||kd==8))) []
 rcases Ty kd with rfl|rfl|rfl|rfl|rfl|rfl|rfl|rfl|⟨n1,n2,n3,n4,n5,n6,n7,n8⟩
 ·cases t1:decide ((tok:Int) ≥ 1)
  all_goals
   refine AP.ofA (Zl Tryz.func88 Z Tryz.ntmps88 Z Z ?_)
   repeat'(first|(apply Zi Za;exact Z)|(apply Zg Za;exact Z)|(apply Zu Za;exact Z)|(apply Ze;(iterate 3 exact Z);(first|with_reducible assumption|decide +kernel|(solve|simp only[bn])))|(apply Zv;(iterate 3 exact Z);(first|with_reducible assumption|decide +kernel|(solve|simp only[bn])))|(apply Zk;exact Z;(first|with_reducible assumption|decide +kernel|(solve|simp only[bn]));exact Z;exact Z)|(apply Zj;exact Z;(first|with_reducible assumption|decide +kernel|(solve|simp only[bn]));exact Z;exact Z)|(apply Zd;exact Z;(first|with_reducible assumption|decide +kernel|(solve|simp only[bn]))))
   all_goals(apply Zs [];(apply Zc Za;exact Z);(iterate 4 exact Z))
   all_goals first|rfl|(simp only[*];rfl)
 ·cases t1:decide ((tok:Int) ≥ 1)
  all_goals
   refine AP.ofA (Zl Tryz.func88 Z Tryz.ntmps88 Z Z ?_)
   repeat'(first|(apply Zi Za;exact Z)|(apply Zg Za;exact Z)|(apply Zu Za;exact Z)|(apply Ze;(iterate 3 exact Z);(first|with_reducible assumption|decide +kernel|(solve|simp only[bn])))|(apply Zv;(iterate 3 exact Z);(first|with_reducible assumption|decide +kernel|(solve|simp only[bn])))|(apply Zk;exact Z;(first|with_reducible assumption|decide +kernel|(solve|simp only[bn]));exact Z;exact Z)|(apply Zj;exact Z;(first|with_reducible assumption|decide +kernel|(solve|simp only[bn]));exact Z;exact Z)|(apply Zd;exact Z;(first|with_reducible assumption|decide +kernel|(solve|simp only[bn])))|(apply Zf;exact Z;(first|with_reducible assumption|decide +kernel|(solve|simp only[bn]))))
   all_goals(apply Zs [];(apply Zc Za;exact Z);(iterate 4 exact Z))
   all_goals first|rfl|(simp only[*];rfl)
 ·skip
  refine AP.ofA (Zl Tryz.func88 Z Tryz.ntmps88 Z Z ?_)
  repeat'(first|(apply Zb (hS);kernel_rfl;(iterate 4 exact Z))|(apply Zi Za;exact Z)|(apply Zg Za;exact Z)|(apply Zu Za;exact Z)|(apply Zd;exact Z;(first|with_reducible assumption|decide +kernel|(solve|simp only[bn])))|(apply Zf;exact Z;(first|with_reducible assumption|decide +kernel|(solve|simp only[bn]))))
  all_goals(apply Zs [];(apply Zc Za;exact Z);(iterate 4 exact Z))
  all_goals first|rfl|(simp only[*];rfl)
 ·cases s<;>cases r<;>cases t1:(rk != 11)
  all_goals
   refine AP.ofA (Zl Tryz.func88 Z Tryz.ntmps88 Z Z ?_)
   repeat'(first|(apply Zb (hS);kernel_rfl;(iterate 4 exact Z))|(apply Zb (hR);kernel_rfl;(iterate 4 exact Z))|(apply Zi Za;exact Z)|(apply Zg Za;exact Z)|(apply Zu Za;exact Z)|(apply Ze;(iterate 3 exact Z);(first|with_reducible assumption|decide +kernel|(solve|simp only[bn])))|(apply Zv;(iterate 3 exact Z);(first|with_reducible assumption|decide +kernel|(solve|simp only[bn])))|(apply Zk;exact Z;(first|with_reducible assumption|decide +kernel|(solve|simp only[bn]));exact Z;exact Z)|(apply Zj;exact Z;(first|with_reducible assumption|decide +kernel|(solve|simp only[bn]));exact Z;exact Z)|(apply Zd;exact Z;(first|with_reducible assumption|decide +kernel|(solve|simp only[bn])))|(apply Zf;exact Z;(first|with_reducible assumption|decide +kernel|(solve|simp only[bn]))))
   all_goals(apply Zs [];(apply Zc Za;exact Z);(iterate 4 exact Z))
   all_goals first|rfl|(simp only[*];rfl)
 ·skip
  refine AP.ofA (Zl Tryz.func88 Z Tryz.ntmps88 Z Z ?_)
  repeat'(first|(apply Zb (hB);kernel_rfl;(iterate 4 exact Z))|(apply Zi Za;exact Z)|(apply Zg Za;exact Z)|(apply Zu Za;exact Z)|(apply Zd;exact Z;(first|with_reducible assumption|decide +kernel|(solve|simp only[bn])))|(apply Zf;exact Z;(first|with_reducible assumption|decide +kernel|(solve|simp only[bn]))))
  all_goals(apply Zs [];(apply Zc Za;exact Z);(iterate 4 exact Z))
  all_goals first|rfl|(simp only[*];rfl)
 ·skip
  refine AP.ofA (Zl Tryz.func88 Z Tryz.ntmps88 Z Z ?_)
  repeat'(first|(apply Zi Za;exact Z)|(apply Zg Za;exact Z)|(apply Zu Za;exact Z)|(apply Zp;(iterate 3 exact Z);(first|with_reducible assumption|decide +kernel|(solve|simp only[bn])))|(apply Zk;exact Z;(first|with_reducible assumption|decide +kernel|(solve|simp only[bn]));exact Z;exact Z)|(apply Zf;exact Z;(first|with_reducible assumption|decide +kernel|(solve|simp only[bn]))))
  all_goals(apply Zs [];(apply Zc Za;exact Z);(iterate 4 exact Z))
  all_goals first|rfl|(simp only[*];rfl)
 ·skip
  refine AP.ofA (Zl Tryz.func88 Z Tryz.ntmps88 Z Z ?_)
  repeat'(first|(apply Zi Za;exact Z)|(apply Zg Za;exact Z)|(apply Zu Za;exact Z)|(apply Ze;(iterate 3 exact Z);(first|with_reducible assumption|decide +kernel|(solve|simp only[bn])))|(apply Zp;(iterate 3 exact Z);(first|with_reducible assumption|decide +kernel|(solve|simp only[bn])))|(apply Zk;exact Z;(first|with_reducible assumption|decide +kernel|(solve|simp only[bn]));exact Z;exact Z)|(apply Zj;exact Z;(first|with_reducible assumption|decide +kernel|(solve|simp only[bn]));exact Z;exact Z)|(apply Zf;exact Z;(first|with_reducible assumption|decide +kernel|(solve|simp only[bn]))))
  all_goals(apply Zs [];(apply Zc Za;exact Z);(iterate 4 exact Z))
  all_goals first|rfl|(simp only[*];rfl)
 ·skip
  refine AP.ofA (Zl Tryz.func88 Z Tryz.ntmps88 Z Z ?_)
  repeat'(first|(apply Zi Za;exact Z)|(apply Zg Za;exact Z)|(apply Zu Za;exact Z)|(apply Ze;(iterate 3 exact Z);(first|with_reducible assumption|decide +kernel|(solve|simp only[bn])))|(apply Zj;exact Z;(first|with_reducible assumption|decide +kernel|(solve|simp only[bn]));exact Z;exact Z)|(apply Zf;exact Z;(first|with_reducible assumption|decide +kernel|(solve|simp only[bn]))))
  all_goals(apply Zs [];(apply Zc Za;exact Z);(iterate 4 exact Z))
  all_goals first|rfl|(simp only[*];rfl)
 ·rw[n1,n2,n3,n4,n5]
  refine AP.ofA (Zl Tryz.func88 Z Tryz.ntmps88 Z Z ?_)
  repeat'(first|(apply Zi Za;exact Z)|(apply Zg Za;exact Z)|(apply Zu Za;exact Z)|(apply Ze;(iterate 3 exact Z);(first|with_reducible assumption|decide +kernel|(solve|simp only[bn])))|(apply Zj;exact Z;(first|with_reducible assumption|decide +kernel|(solve|simp only[bn]));exact Z;exact Z)|(apply Zf;exact Z;(first|with_reducible assumption|decide +kernel|(solve|simp only[bn]))))
  all_goals(apply Zs [];(apply Zc Za;exact Z);(iterate 4 exact Z))
  all_goals first|rfl|(simp only[*];rfl)
theorem WW [Known](a b:EvV):AP Tryz.prog 42 [.agg (evC a),.agg (evC b)] (.bool (UX a b)) []:=by
 have hR:=Ov a.rq b.rq
 have hB:=Wn a.data b.data
 unfold UX
 generalize Us a.rq b.rq=r at *
 generalize (a.data==b.data)=z at *
 obtain⟨now,kd,tok,ses,⟨id,rk,⟨ei,en,es,eh,ed⟩,⟨di,dn,dq,dh,dd⟩,pol,num,tik,pay,life,rt,on⟩,data⟩:=a
 obtain⟨now2,kd2,tok2,ses2,⟨id2,rk2,⟨ei2,en2,es2,eh2,ed2⟩,⟨di2,dn2,dq2,dh2,dd2⟩,pol2,num2,tik2,pay2,life2,rt2,on2⟩,data2⟩:=b
 dsimp only at *
 refine AP.ofA (Zl Tryz.func42 Z Tryz.ntmps42 Z Z ?_)
 repeat'(first|(apply Zb (hR);kernel_rfl;(iterate 4 exact Z))|(apply Zb (hB);kernel_rfl;(iterate 4 exact Z))|(apply Zi Za;exact Z)|(apply Zg Za;exact Z)|(apply Ze;(iterate 3 exact Z);(first|with_reducible assumption|(solve|simp only[bn])))|(apply Zv;(iterate 3 exact Z);(first|with_reducible assumption|(solve|simp only[bn])))|(apply YF;exact Z;exact Z;all_goals intro hb)|(apply Zk;exact Z;(first|with_reducible assumption|(solve|simp only[bn]));exact Z;exact Z)|(apply Zj;exact Z;(first|with_reducible assumption|(solve|simp only[bn]));exact Z;exact Z))
 all_goals(apply Zs [];(apply Zc Za;exact Z);(iterate 4 exact Z))
 all_goals first|rfl|(simp only[*,Bool.true_and,Bool.false_and];done)
theorem Y3 [Known][KnownU8](x:EvV)(hd:x.data.length<=3000):AP Tryz.prog 58 [.agg (evC x)] (.bool (ZY x)) []:=by
 have hO:=MQ x
 have hS:=WW x (JM x)
 have hP:=HA x hd
 unfold ZY
 clear hd
 generalize UX x (JM x)=s at *
 generalize Vy x=p at *
 generalize JM x=y at *
 obtain⟨now,kd,tok,ses,⟨id,rk,⟨ei,en,es,eh,ed⟩,⟨di,dn,dq,dh,dd⟩,pol,num,tik,pay,life,rt,on⟩,data⟩:=x
 obtain⟨now2,kd2,tok2,ses2,⟨id2,rk2,⟨ei2,en2,es2,eh2,ed2⟩,⟨di2,dn2,dq2,dh2,dd2⟩,pol2,num2,tik2,pay2,life2,rt2,on2⟩,data2⟩:=y
 replace hO:AP Tryz.prog 87 [.agg [.int .u64 (now:Int),.int .i64 kd,.int .u64 (tok:Int),.int .i64 ses,.int .u64 (id:Int),.int .i64 rk,.bool ei,.int .u64 (en:Int),.int .u64 (es:Int),.str eh,.str ed,.bool di,.int .u64 (dn:Int),.int .u64 (dq:Int),.str dh,.str dd,.int .i64 pol,.int .i64 num,.int .i64 tik,.sl .ext (pay.map E.byte),.int .u64 (life:Int),.int .u64 (rt:Int),.bool on,.sl .ext (data.map E.byte)]] (.agg [.int .u64 (now2:Int),.int .i64 kd2,.int .u64 (tok2:Int),.int .i64 ses2,.int .u64 (id2:Int),.int .i64 rk2,.bool ei2,.int .u64 (en2:Int),.int .u64 (es2:Int),.str eh2,.str ed2,.bool di2,.int .u64 (dn2:Int),.int .u64 (dq2:Int),.str dh2,.str dd2,.int .i64 pol2,.int .i64 num2,.int .i64 tik2,.sl .ext (pay2.map E.byte),.int .u64 (life2:Int),.int .u64 (rt2:Int),.bool on2,.sl .ext (data2.map E.byte)]) []:=hO
 replace hS:AP Tryz.prog 42 [.agg [.int .u64 (now:Int),.int .i64 kd,.int .u64 (tok:Int),.int .i64 ses,.int .u64 (id:Int),.int .i64 rk,.bool ei,.int .u64 (en:Int),.int .u64 (es:Int),.str eh,.str ed,.bool di,.int .u64 (dn:Int),.int .u64 (dq:Int),.str dh,.str dd,.int .i64 pol,.int .i64 num,.int .i64 tik,.sl .ext (pay.map E.byte),.int .u64 (life:Int),.int .u64 (rt:Int),.bool on,.sl .ext (data.map E.byte)],.agg [.int .u64 (now2:Int),.int .i64 kd2,.int .u64 (tok2:Int),.int .i64 ses2,.int .u64 (id2:Int),.int .i64 rk2,.bool ei2,.int .u64 (en2:Int),.int .u64 (es2:Int),.str eh2,.str ed2,.bool di2,.int .u64 (dn2:Int),.int .u64 (dq2:Int),.str dh2,.str dd2,.int .i64 pol2,.int .i64 num2,.int .i64 tik2,.sl .ext (pay2.map E.byte),.int .u64 (life2:Int),.int .u64 (rt2:Int),.bool on2,.sl .ext (data2.map E.byte)]] (.bool s) []:=hS
 replace hP:AP Tryz.prog 88 [.agg [.int .u64 (now:Int),.int .i64 kd,.int .u64 (tok:Int),.int .i64 ses,.int .u64 (id:Int),.int .i64 rk,.bool ei,.int .u64 (en:Int),.int .u64 (es:Int),.str eh,.str ed,.bool di,.int .u64 (dn:Int),.int .u64 (dq:Int),.str dh,.str dd,.int .i64 pol,.int .i64 num,.int .i64 tik,.sl .ext (pay.map E.byte),.int .u64 (life:Int),.int .u64 (rt:Int),.bool on,.sl .ext (data.map E.byte)]] (.bool p) []:=hP
 show AP Tryz.prog 58 [.agg [.int .u64 (now:Int),.int .i64 kd,.int .u64 (tok:Int),.int .i64 ses,.int .u64 (id:Int),.int .i64 rk,.bool ei,.int .u64 (en:Int),.int .u64 (es:Int),.str eh,.str ed,.bool di,.int .u64 (dn:Int),.int .u64 (dq:Int),.str dh,.str dd,.int .i64 pol,.int .i64 num,.int .i64 tik,.sl .ext (pay.map E.byte),.int .u64 (life:Int),.int .u64 (rt:Int),.bool on,.sl .ext (data.map E.byte)]] (.bool (decide ((now:Int)<=1099511627776)&&(s&&p))) []
 cases t1:decide ((now:Int)<=1099511627776)<;>cases s
 all_goals
  refine AP.ofA (Zl Tryz.func58 Z Tryz.ntmps58 Z Z ?_)
  repeat'(first|(apply Zb (hO);kernel_rfl;(iterate 4 exact Z))|(apply Zb (hS);kernel_rfl;(iterate 4 exact Z))|(apply Zb (hP);kernel_rfl;(iterate 4 exact Z))|(apply Zi Za;exact Z)|(apply Zg Za;exact Z)|(apply Ze;(iterate 3 exact Z);(first|with_reducible assumption|decide +kernel|(solve|simp only[bn])))|(apply Zv;(iterate 3 exact Z);(first|with_reducible assumption|decide +kernel|(solve|simp only[bn])))|(apply Zk;exact Z;(first|with_reducible assumption|decide +kernel|(solve|simp only[bn]));exact Z;exact Z)|(apply Zj;exact Z;(first|with_reducible assumption|decide +kernel|(solve|simp only[bn]));exact Z;exact Z)|(apply Zn 7 ZF;decide +kernel;kernel_rfl;kernel_rfl;kernel_rfl;exact Z;exact Z)|(apply Zr;(iterate 4 exact Z))|exact AE.nil _ _ _ _|(apply Zw;exact Z)|(apply ZA;exact Z;exact Z;decide +kernel;exact Z)|(apply ZB;exact Z)|exact AO.nil _ _ _|(apply Zq;(decide +kernel))|exact AOs.nil|exact ZG rfl rfl)
  all_goals exact Qe
end Go.Proofs.YtkdpfkjlheajhaaGreatDoor
end
section
namespace Go.Proofs.YtkdpfkjlheajhaaGreatDoor
open Go.Shelf
def XM:Go.Shelf.Ren:=⟨fun|283=>152|n=>n,fun|3=>3|9=>9|4=>4|n=>n,fun|n=>n⟩
theorem Rg:Go.Proofs.Lays.n283 Tryz.prog XM := {
 mixed:=by kernel_rfl,
 f283:=Tryz.func152.trans (congrArg some (by kernel_rfl)),
 t3:=Tryz.underlying3,
 a3:=Tryz.isAgg3,
 z3:=Tryz.sizeOf3,
 v3:=Tryz.zeroValue3,
 t4:=Tryz.underlying4,
 a4:=Tryz.isAgg4,
 z4:=Tryz.sizeOf4,
 v4:=Tryz.zeroValue4,
 t9:=Tryz.underlying9,
 a9:=Tryz.isAgg9,
 z9:=Tryz.sizeOf9,
 v9:=Tryz.zeroValue9 }
def Um:Go.Shelf.Ren:=⟨fun|284=>153|129=>182|317=>181|318=>183|n=>n,fun|53=>31|3=>3|212=>266|0=>0|4=>4|46=>128|5=>5|9=>9|n=>n,fun|17=>0|n=>n⟩
theorem Iw:Go.Proofs.LaysM.n284 Tryz.prog Um := {
 mixed:=by kernel_rfl,
 f129:=Tryz.func182.trans (congrArg some (by kernel_rfl)),
 f284:=Tryz.func153.trans (congrArg some (by kernel_rfl)),
 f317:=Tryz.func181.trans (congrArg some (by kernel_rfl)),
 f318:=Tryz.func183.trans (congrArg some (by kernel_rfl)),
 t0:=Tryz.underlying0,
 a0:=Tryz.isAgg0,
 z0:=Tryz.sizeOf0,
 v0:=Tryz.zeroValue0,
 t3:=Tryz.underlying3,
 a3:=Tryz.isAgg3,
 z3:=Tryz.sizeOf3,
 v3:=Tryz.zeroValue3,
 t4:=Tryz.underlying4,
 a4:=Tryz.isAgg4,
 z4:=Tryz.sizeOf4,
 v4:=Tryz.zeroValue4,
 t5:=Tryz.underlying5,
 a5:=Tryz.isAgg5,
 z5:=Tryz.sizeOf5,
 v5:=Tryz.zeroValue5,
 t9:=Tryz.underlying9,
 a9:=Tryz.isAgg9,
 z9:=Tryz.sizeOf9,
 v9:=Tryz.zeroValue9,
 t46:=Tryz.underlying128,
 a46:=Tryz.isAgg128,
 z46:=Tryz.sizeOf128,
 v46:=Tryz.zeroValue128,
 t53:=Tryz.underlying31,
 a53:=Tryz.isAgg31,
 z53:=Tryz.sizeOf31,
 v53:=Tryz.zeroValue31,
 t212:=Tryz.underlying266,
 a212:=Tryz.isAgg266,
 z212:=Tryz.sizeOf266,
 v212:=Tryz.zeroValue266,
 g17:=by kernel_rfl,
 i0:=by kernel_rfl,
 i3:=by kernel_rfl,
 i4:=by kernel_rfl,
 i5:=by kernel_rfl,
 i9:=by kernel_rfl,
 i46:=by kernel_rfl,
 i53:=by kernel_rfl,
 i212:=by kernel_rfl,
 m17:=by kernel_rfl }
def XN:Go.Shelf.Ren:=⟨fun|285=>154|n=>n,fun|37=>26|53=>31|3=>3|4=>4|51=>267|9=>9|5=>5|0=>0|n=>n,fun|n=>n⟩
theorem Rh:Go.Proofs.Lays.n285 Tryz.prog XN := {
 mixed:=by kernel_rfl,
 f285:=Tryz.func154.trans (congrArg some (by kernel_rfl)),
 t0:=Tryz.underlying0,
 a0:=Tryz.isAgg0,
 z0:=Tryz.sizeOf0,
 v0:=Tryz.zeroValue0,
 t3:=Tryz.underlying3,
 a3:=Tryz.isAgg3,
 z3:=Tryz.sizeOf3,
 v3:=Tryz.zeroValue3,
 t4:=Tryz.underlying4,
 a4:=Tryz.isAgg4,
 z4:=Tryz.sizeOf4,
 v4:=Tryz.zeroValue4,
 t5:=Tryz.underlying5,
 a5:=Tryz.isAgg5,
 z5:=Tryz.sizeOf5,
 v5:=Tryz.zeroValue5,
 t9:=Tryz.underlying9,
 a9:=Tryz.isAgg9,
 z9:=Tryz.sizeOf9,
 v9:=Tryz.zeroValue9,
 t37:=Tryz.underlying26,
 a37:=Tryz.isAgg26,
 z37:=Tryz.sizeOf26,
 v37:=Tryz.zeroValue26,
 t51:=Tryz.underlying267,
 a51:=Tryz.isAgg267,
 z51:=Tryz.sizeOf267,
 v51:=Tryz.zeroValue267,
 t53:=Tryz.underlying31,
 a53:=Tryz.isAgg31,
 z53:=Tryz.sizeOf31,
 v53:=Tryz.zeroValue31 }
end Go.Proofs.YtkdpfkjlheajhaaGreatDoor
end
section
open Go.RowKit Go.Pl Go.Av Go.Shelf Go.Sort Go.Lib
namespace Go.Proofs.YtkdpfkjlheajhaaGreatDoor
set_option maxHeartbeats 6400000
set_option maxRecDepth 100000 in
theorem GK (u:Nat)(h1:1<=u)(h2:u<18446744073709551616)(w:World)(hc:∀ i,i<20->w.cell? ⟨0,i,none⟩=some (.int .u64 ((10 ^ i:Nat):Int))) :
  Calls Tryz.prog 153 #[.int .u64 u] w fun e w'=>e=.returned (.int .i64 (Lib.nDigits u))/\w'=w:=by
 obtain⟨hnd,h19⟩:=Lib.numDigits_eq u h1 h2
 have hL:Lib.bitLen u<=64:=Lib.bitLen_le u 64 (Nat.le_refl _) h2
 have hcell:=hc (Lib.l10 (Lib.bitLen u)) (by omega)
 have hto:((u:Int)).toNat=u:=by omega
 generalize hq:Lib.l10 (Lib.bitLen u)=q at hnd h19 hcell
 generalize hT:10 ^ q=T at hnd hcell
 have h20:q<20:=by omega
 have Hnd:=Lib.hid hnd
 clear hnd hc
 go_enter Tryz.func153,Tryz.ntmps153
 go_wp2_with (first
  | (go_at_call 182;refine(Any.bits_Len64 (P:=Tryz.prog) (ρ:=Um) { Iw with } _ _ (by omega) (by omega)).mono ?_;rintro e w' ⟨rfl,rfl⟩)
  | (go_at_call 181;refine(Any.internal_strconv_log10Pow2 (P:=Tryz.prog) (ρ:=Um) { Iw with } _ (by first|exact hL|(rw[hto];exact hL)) _).mono ?_;rintro e w' ⟨rfl,rfl⟩)
  | (go_at_call 183;refine(Any.internal_strconv_bool2_int (P:=Tryz.prog) (ρ:=Um) { Iw with } _ _).mono ?_;rintro e w' ⟨rfl,rfl⟩))
 all_goals go_ret
 all_goals(
  refine⟨?_,rfl⟩
  have hnd:=Hnd.out
  congr 2
  split at hnd<;>simp_all<;>omega)
theorem GL (w:World)(T:TypeId)(nd:Nat)(hs:nd<=24):Holds (fun(b:UInt8)=>Value.int .u8 (b.toNat:Int)) (w.alloc (.cells Lib.zeros24 T)) w.heap.size 0 (Array.replicate nd (0:UInt8)):=fun j hj=>by
 have hj':j<nd:=by simpa using hj
 refine⟨?_,World.frozen?_alloc_new _ _ _ _⟩
 rw[World.cell?_alloc_new,Lib.zeros24_at _ (by omega),getElem!_pos _ j hj]
 simp
theorem B9 (w:World)(o:Obj)(dk:Array UInt8)(k:Nat):Below w.heap.size w ((putRow (fun(b:UInt8)=>Value.int .u8 (b.toNat:Int)) (w.alloc o) w.heap.size 0 dk).drewN k):=by
 have h:∃ os,(putRow (fun(b:UInt8)=>Value.int .u8 (b.toNat:Int)) (w.alloc o) w.heap.size 0 dk).drewN k=grow (w.drewN k) os:=by
  rw[alloc_eq_grow]
  obtain⟨os',_,e⟩:=putRow_grow_new (fun(b:UInt8)=>Value.int .u8 (b.toNat:Int)) w #[o] w.heap.size 0 dk (Nat.le_refl _)
  exact⟨os',by rw[e];rfl⟩
 obtain⟨os,e⟩:=h
 rw[e]
 refine⟨rfl,rfl,rfl,?_,fun b hb=>?_⟩
 ·show w.heap.size<=(w.heap++os).size
  rw[Array.size_append];omega
 ·show(w.heap++os)[b]?=w.heap[b]?
  rw[Array.getElem?_append_left hb]
theorem Ri {w:World}{o:Obj}{g i:Nat}{v:Value}(h:w.cell? ⟨g,i,none⟩=some v):(w.alloc o).cell? ⟨g,i,none⟩=some v:=
 (WR w o (World.block_lt_of_cell? w _ h) i).trans h
set_option maxRecDepth 100000 in
theorem Np (u:Nat)(hu64:u<18446744073709551616)(w:World)(hc:∀ i,i<20->w.cell? ⟨0,i,none⟩=some (.int .u64 ((10 ^ i:Nat):Int))) :
  Calls Tryz.prog 136 #[.int .u64 u,.int .i64 10] w fun e w'=>e=.returned (.string ⟨(Lib.decDigits u).toArray⟩)/\Below w.heap.size w w':=by
 by_cases hs:u<100
 ·have Hs:=Lib.hid hs
  go_enter Tryz.func136,Tryz.ntmps136
  go_wp2_with (go_at_call 152;refine(Any.internal_strconv_small (P:=Tryz.prog) (ρ:=XM) Rg u Hs.out _).mono ?_;rintro e w' ⟨rfl,rfl⟩)
  go_ret
  exact⟨rfl,Below.refl _ _⟩
 ·have hu1:1<=u:=by omega
  have hnd20:Lib.nDigits u<=20:=by have:=Lib.numDigits_eq u hu1 hu64;split at this<;>omega
  have hal:Tryz.prog.arrayLen 234=24:=by simp[Program.arrayLen,Tryz.underlying234]
  have hsl:∀ W,(Instr.sliceAt 234 (.pointer (some ⟨w.heap.size,0,none⟩)) none (some (.int .i64 (Lib.nDigits u:Int))) none).run Tryz.prog W=.ok (.slice (some ⟨w.heap.size,0,none⟩) (Lib.nDigits u) 24) W:=fun W=>by
   rw[run_sliceAt_array_h W 234 ⟨w.heap.size,0,none⟩ (by simp[Program.arrayLen,Program.elem,Tryz.underlying234]) .i64 (Lib.nDigits u:Int) (by omega) (by rw[hal];omega)]
   go_simp
  have hH0:=GL w 234 (Lib.nDigits u) (by omega)
  have hfmt:Calls Tryz.prog 154 _ _ _:=Any.internal_strconv_formatBase10 (P:=Tryz.prog) (ρ:=XN) Rh w.heap.size 0 24 u (Array.replicate (Lib.nDigits u) 0) (w.alloc (.cells Lib.zeros24 234)) hH0 (by rw[Array.size_replicate];exact Lib.lt_pow_nDigits u) hu64 (by rw[Array.size_replicate];omega)
  rw[Array.size_replicate]at hfmt
  have HH0:=Lib.hid hH0
  have HC:=Lib.hid hc
  clear hH0 hal hc
  go_enter Tryz.func136,Tryz.ntmps136
  go_wp2_with (first
   | (go_at_call 153;refine(GK u hu1 hu64 _ (fun i hi=>Ri (HC.out i hi))).mono ?_;rintro e w' ⟨rfl,rfl⟩))
  go_at_call 154
  refine hfmt.mono ?_
  rintro e w' ⟨rfl,k,v',dk,rfl,hF⟩
  have hcv:(convert 26 9 (.slice (some ⟨w.heap.size,0,none⟩) (Lib.nDigits u) 24)).run Tryz.prog ((putRow (fun(b:UInt8)=>Value.int .u8 (b.toNat:Int)) (w.alloc (.cells Lib.zeros24 234)) w.heap.size 0 dk).drewN k)=.ok (.string ⟨(Lib.decDigits u).toArray⟩) ((putRow (fun(b:UInt8)=>Value.int .u8 (b.toNat:Int)) (w.alloc (.cells Lib.zeros24 234)) w.heap.size 0 dk).drewN k):=by
   have h:=run_convert_bytes_back (P:=Tryz.prog) ((putRow (fun(b:UInt8)=>Value.int .u8 (b.toNat:Int)) (w.alloc (.cells Lib.zeros24 234)) w.heap.size 0 dk).drewN k) 26 9 5 ⟨w.heap.size,0,none⟩ 24 (Lib.decDigits u) Tryz.underlying26 Tryz.underlying5 Tryz.underlying9 (fun j hj=>by
    rw[Lib.row_is_numeral hF j hj,Lib.add_plain,World.cell?_drewN]
    exact cell?_putRow (fun(b:UInt8)=>Value.int .u8 (b.toNat:Int)) _ w.heap.size 0 _ dk HH0.out (by rw[hF.size,Array.size_replicate]) j (by rw[hF.size];rw[Lib.decDigits_length]at hj;exact hj))
   rw[Lib.decDigits_length]at h
   exact h
  go_wp2
  go_ret
  exact⟨rfl,B9 w _ dk k⟩
end Go.Proofs.YtkdpfkjlheajhaaGreatDoor
end
section
open Go.RowKit Go.Pl Go.Av
namespace Go.Proofs.YtkdpfkjlheajhaaGreatDoor
set_option maxHeartbeats 4000000
theorem JO (n:Nat)(hn:n<18446744073709551616):(Lib.decDigits n).length<=20:=by
 rw[Lib.decDigits_length]
 rcases Nat.eq_zero_or_pos n with rfl|h
 ·rw[Lib.nDigits_small (by omega)];omega
 ·have:=Lib.numDigits_eq n h hn;split at this<;>omega
def ZO (x:EidV):List UInt8:=
 if isZ x then [100,116,110,58,110,111,110,101]
 else if x.i then [105,112,110,58]++Lib.decDigits x.n++[46]++Lib.decDigits x.s
 else [100,116,110,58]++Vh x
class KnownPow [Known]:Prop where
 pow:0 ∈ Known.ks
theorem Nq:dcs Rows.laid_internal_strconv_uint64pow10=(List.range 20).map (fun i=>Value.int .u64 ((10 ^ i:Nat):Int)):=by kernel_rfl
theorem Rj:((0,dcs Rows.laid_internal_strconv_uint64pow10):Nat × List Value) ∈ Kc:=by
 unfold Kc
 repeat (first|exact List.mem_cons_self .. | apply List.mem_cons_of_mem)
theorem Rk [Known][KnownPow](n:Nat)(hn:n<18446744073709551616):AP Tryz.prog 136 [.int .u64 (n:Int),.int .i64 10] (.str (Lib.decDigits n)) []:=by
 refine⟨fun g w vs hmem hl hv=>?_⟩
 obtain⟨v0,v1,rfl⟩:∃ v0 v1,vs=[v0,v1]:=by
  match vs,hl with
  | [v0,v1],_=>exact⟨v0,v1,rfl⟩
 have h0:=(hv 0 _ _ rfl rfl).int_inv
 have h1:=(hv 1 _ _ rfl rfl).int_inv
 subst h0 h1
 have hc:∀ i,i<20->w.cell? ⟨0,i,none⟩=some (.int .u64 ((10 ^ i:Nat):Int)):=fun i hi=>
  (hmem.gl.1 _ _ ⟨KnownPow.pow,Rj⟩ i _ (by rw[Nq,List.getElem?_map,List.getElem?_range hi];rfl)).2
 exact(Np n hn w hc).mono fun e w' ⟨he,hb⟩=>Uy hmem hb he (.str _ (by have:=JO n hn;unfold maxLen;omega))
theorem X3 [Known][KnownPow](n:Nat)(hn:n<18446744073709551616):AP Tryz.prog 124 [.int .u64 (n:Int),.int .i64 10] (.str (Lib.decDigits n)) []:=by
 have h:=Rk n hn
 refine AP.ofA (Zl Tryz.func124 Z Tryz.ntmps124 Z Z ?_)
 repeat'(first|(apply Zb (h);kernel_rfl;(iterate 4 exact Z))|(apply Zi Za;exact Z)|(apply Zg Za;exact Z))
 all_goals exact Qe
theorem MS [Known][KnownPow](x:EidV):AP Tryz.prog 115 [.agg (eC x)] (.tup [.str (if Yh x then ZO x else []),.int .i64 (if Yh x then 0 else 3)]) []:=by
 have hR:=WH x
 cases hr:Yh x with
 | false=>
  rw[hr]at hR
  refine AP.ofA (Zl Tryz.func115 Z Tryz.ntmps115 Z Z ?_)
  repeat'(first|(apply Zb (hR);kernel_rfl;(iterate 4 exact Z))|(apply Zi Za;exact Z)|(apply Zg Za;exact Z)|(apply Zu Za;exact Z)|refine Zd Z Qt ?_)
  all_goals exact Qe
 | true=>
  rw[hr]at hR
  rw[if_pos rfl,if_pos rfl]
  unfold ZO
  cases hz:isZ x with
  | true=>
   rw[if_pos rfl]
   unfold isZ at hz
   refine AP.ofA (Zl Tryz.func115 Z Tryz.ntmps115 Z Z ?_)
   repeat'(first|(apply Zb (hR);kernel_rfl;(iterate 4 exact Z))|(apply Zi Za;exact Z)|(apply Zg Za;exact Z)|(apply Zu Za;exact Z)|refine Zd Z Qt ?_|refine Zf Z Qt ?_|refine VF Za Z Z Z Z Qk Qk Z Z Z ?_)
   all_goals exact Qe
  | false=>
   rw[if_neg (by simp)]
   cases hi:x.i with
   | true=>
    obtain⟨b1,b2,_⟩:=V6 hr hz hi
    rw[if_pos rfl]
    have f1:=X3 x.n (by omega)
    have f2:=X3 x.s (by omega)
    have d1:=JO x.n (by omega)
    have d2:=JO x.s (by omega)
    generalize Lib.decDigits x.n=p at *
    generalize Lib.decDigits x.s=q at *
    have l1:[(105:UInt8),112,110,58].length+p.length<=maxLen:=by simp;unfold maxLen;omega
    have l2:([(105:UInt8),112,110,58]++p).length + [(46:UInt8)].length<=maxLen:=by simp;unfold maxLen;omega
    have l3:([(105:UInt8),112,110,58]++p++[46]).length+q.length<=maxLen:=by simp;unfold maxLen;omega
    unfold isZ at hz
    refine AP.ofA (Zl Tryz.func115 Z Tryz.ntmps115 Z Z ?_)
    repeat'(first|(apply Zb (hR);kernel_rfl;(iterate 4 exact Z))|(apply Zb (f1);kernel_rfl;(iterate 4 exact Z))|(apply Zb (f2);kernel_rfl;(iterate 4 exact Z))|(apply G5;exact Z;exact Z;(first|exact l1|exact l2|exact l3);exact Z)|(apply Zi Za;exact Z)|(apply Zg Za;exact Z)|(apply Zu Za;exact Z)|refine Zd Z Qt ?_|refine Zf Z Qt ?_|refine VF Za Z Z Z Z Qk Qk Z Z Z ?_|(apply Zn 8 ZF;decide +kernel;kernel_rfl;kernel_rfl;kernel_rfl;exact Z;exact Z)|(apply Zr;(iterate 4 exact Z))|exact AE.nil _ _ _ _|(apply Zw;exact Z)|(apply ZA;exact Z;exact Z;decide +kernel;exact Z)|(apply ZB;exact Z)|exact AO.nil _ _ _|(apply Zq;(decide +kernel))|exact AOs.nil|exact ZG rfl rfl)
    all_goals exact Qe
   | false=>
    obtain⟨_,_,_,b1,b2,_⟩:=Vt hr hz hi
    rw[if_neg (by simp)]
    have hP:=Tv x b1 b2
    have hpl:(Vh x).length<=100:=by unfold Vh;simp;omega
    generalize Vh x=p at *
    have l1:[(100:UInt8),116,110,58].length+p.length<=maxLen:=by simp;unfold maxLen;omega
    unfold isZ at hz
    refine AP.ofA (Zl Tryz.func115 Z Tryz.ntmps115 Z Z ?_)
    repeat'(first|(apply Zb (hR);kernel_rfl;(iterate 4 exact Z))|(apply Zb (hP);kernel_rfl;(iterate 4 exact Z))|refine G5 Z Z l1 Z ?_|(apply Zi Za;exact Z)|(apply Zg Za;exact Z)|(apply Zu Za;exact Z)|refine Zf Z Qt ?_|refine VF Za Z Z Z Z Qk Qk Z Z Z ?_)
    all_goals exact Qe
theorem Y4 {x:EidV}(h:Yh x=true):(ZO x).length<=100:=by
 unfold ZO
 cases hz:isZ x with
 | true=>rw[if_pos rfl];decide
 | false=>
  rw[if_neg (by simp)]
  cases hi:x.i with
  | true=>
   obtain⟨b1,b2,_⟩:=V6 h hz hi
   have d1:=JO x.n (by omega)
   have d2:=JO x.s (by omega)
   rw[if_pos rfl]
   simp only[List.length_append,List.length_cons,List.length_nil]
   omega
  | false=>
   obtain⟨_,_,_,b1,b2,_⟩:=Vt h hz hi
   rw[if_neg (by simp)]
   unfold Vh
   simp only[List.length_append,List.length_cons,List.length_nil]
   omega
end Go.Proofs.YtkdpfkjlheajhaaGreatDoor
end
section
namespace Go.Proofs.YtkdpfkjlheajhaaGreatDoor
open Go.Shelf
def UY:Go.Shelf.Ren:=⟨fun|14=>139|16=>158|17=>159|19=>187|20=>188|21=>189|22=>190|23=>191|24=>192|25=>216|27=>218|26=>217|28=>231|29=>235|30=>152|31=>153|32=>154|33=>155|35=>182|34=>181|36=>183|37=>184|38=>185|39=>210|40=>211|n=>n,fun|9=>9|3=>3|22=>31|24=>211|25=>212|4=>4|34=>271|5=>5|36=>128|37=>26|0=>0|39=>274|21=>21|44=>299|47=>312|50=>315|48=>313|2=>2|52=>234|55=>237|59=>266|60=>267|20=>20|61=>268|65=>308|66=>309|67=>324|n=>n,fun|0=>2|1=>3|2=>0|3=>4|4=>5|n=>n⟩
theorem HE:Go.Proofs.LaysPu.n14 Tryz.prog UY := {
 mixed:=by kernel_rfl,
 f14:=Tryz.func139.trans (congrArg some (by kernel_rfl)),
 f16:=Tryz.func158.trans (congrArg some (by kernel_rfl)),
 f17:=Tryz.func159.trans (congrArg some (by kernel_rfl)),
 f19:=Tryz.func187.trans (congrArg some (by kernel_rfl)),
 f20:=Tryz.func188.trans (congrArg some (by kernel_rfl)),
 f21:=Tryz.func189.trans (congrArg some (by kernel_rfl)),
 f22:=Tryz.func190.trans (congrArg some (by kernel_rfl)),
 f23:=Tryz.func191.trans (congrArg some (by kernel_rfl)),
 f24:=Tryz.func192.trans (congrArg some (by kernel_rfl)),
 f25:=Tryz.func216.trans (congrArg some (by kernel_rfl)),
 f26:=Tryz.func217.trans (congrArg some (by kernel_rfl)),
 f27:=Tryz.func218.trans (congrArg some (by kernel_rfl)),
 f28:=Tryz.func231.trans (congrArg some (by kernel_rfl)),
 f29:=Tryz.func235.trans (congrArg some (by kernel_rfl)),
 f30:=Tryz.func152.trans (congrArg some (by kernel_rfl)),
 f31:=Tryz.func153.trans (congrArg some (by kernel_rfl)),
 f32:=Tryz.func154.trans (congrArg some (by kernel_rfl)),
 f33:=Tryz.func155.trans (congrArg some (by kernel_rfl)),
 f34:=Tryz.func181.trans (congrArg some (by kernel_rfl)),
 f35:=Tryz.func182.trans (congrArg some (by kernel_rfl)),
 f36:=Tryz.func183.trans (congrArg some (by kernel_rfl)),
 f37:=Tryz.func184.trans (congrArg some (by kernel_rfl)),
 f38:=Tryz.func185.trans (congrArg some (by kernel_rfl)),
 f39:=Tryz.func210.trans (congrArg some (by kernel_rfl)),
 f40:=Tryz.func211.trans (congrArg some (by kernel_rfl)),
 t0:=Tryz.underlying0,
 a0:=Tryz.isAgg0,
 z0:=Tryz.sizeOf0,
 v0:=Tryz.zeroValue0,
 i0:=by kernel_rfl,
 t2:=Tryz.underlying2,
 a2:=Tryz.isAgg2,
 z2:=Tryz.sizeOf2,
 v2:=Tryz.zeroValue2,
 i2:=by kernel_rfl,
 t3:=Tryz.underlying3,
 a3:=Tryz.isAgg3,
 z3:=Tryz.sizeOf3,
 v3:=Tryz.zeroValue3,
 i3:=by kernel_rfl,
 t4:=Tryz.underlying4,
 a4:=Tryz.isAgg4,
 z4:=Tryz.sizeOf4,
 v4:=Tryz.zeroValue4,
 i4:=by kernel_rfl,
 t5:=Tryz.underlying5,
 a5:=Tryz.isAgg5,
 z5:=Tryz.sizeOf5,
 v5:=Tryz.zeroValue5,
 i5:=by kernel_rfl,
 t9:=Tryz.underlying9,
 a9:=Tryz.isAgg9,
 z9:=Tryz.sizeOf9,
 v9:=Tryz.zeroValue9,
 i9:=by kernel_rfl,
 t20:=Tryz.underlying20,
 a20:=Tryz.isAgg20,
 z20:=Tryz.sizeOf20,
 v20:=Tryz.zeroValue20,
 i20:=by kernel_rfl,
 t21:=Tryz.underlying21,
 a21:=Tryz.isAgg21,
 z21:=Tryz.sizeOf21,
 v21:=Tryz.zeroValue21,
 i21:=by kernel_rfl,
 t22:=Tryz.underlying31,
 a22:=Tryz.isAgg31,
 z22:=Tryz.sizeOf31,
 v22:=Tryz.zeroValue31,
 i22:=by kernel_rfl,
 t24:=Tryz.underlying211,
 a24:=Tryz.isAgg211,
 z24:=Tryz.sizeOf211,
 v24:=Tryz.zeroValue211,
 i24:=by kernel_rfl,
 t25:=Tryz.underlying212,
 a25:=Tryz.isAgg212,
 z25:=Tryz.sizeOf212,
 v25:=Tryz.zeroValue212,
 i25:=by kernel_rfl,
 t34:=Tryz.underlying271,
 a34:=Tryz.isAgg271,
 z34:=Tryz.sizeOf271,
 v34:=Tryz.zeroValue271,
 i34:=by kernel_rfl,
 c34:=by kernel_rfl,
 t36:=Tryz.underlying128,
 a36:=Tryz.isAgg128,
 z36:=Tryz.sizeOf128,
 v36:=Tryz.zeroValue128,
 i36:=by kernel_rfl,
 t37:=Tryz.underlying26,
 a37:=Tryz.isAgg26,
 z37:=Tryz.sizeOf26,
 v37:=Tryz.zeroValue26,
 i37:=by kernel_rfl,
 t39:=Tryz.underlying274,
 a39:=Tryz.isAgg274,
 z39:=Tryz.sizeOf274,
 v39:=Tryz.zeroValue274,
 i39:=by kernel_rfl,
 t44:=Tryz.underlying299,
 a44:=Tryz.isAgg299,
 z44:=Tryz.sizeOf299,
 v44:=Tryz.zeroValue299,
 i44:=by kernel_rfl,
 t47:=Tryz.underlying312,
 a47:=Tryz.isAgg312,
 z47:=Tryz.sizeOf312,
 v47:=Tryz.zeroValue312,
 i47:=by kernel_rfl,
 t48:=Tryz.underlying313,
 a48:=Tryz.isAgg313,
 z48:=Tryz.sizeOf313,
 v48:=Tryz.zeroValue313,
 i48:=by kernel_rfl,
 t50:=Tryz.underlying315,
 a50:=Tryz.isAgg315,
 z50:=Tryz.sizeOf315,
 v50:=Tryz.zeroValue315,
 i50:=by kernel_rfl,
 t52:=Tryz.underlying234,
 a52:=Tryz.isAgg234,
 z52:=Tryz.sizeOf234,
 v52:=Tryz.zeroValue234,
 i52:=by kernel_rfl,
 t55:=Tryz.underlying237,
 a55:=Tryz.isAgg237,
 z55:=Tryz.sizeOf237,
 v55:=Tryz.zeroValue237,
 i55:=by kernel_rfl,
 t59:=Tryz.underlying266,
 a59:=Tryz.isAgg266,
 z59:=Tryz.sizeOf266,
 v59:=Tryz.zeroValue266,
 i59:=by kernel_rfl,
 t60:=Tryz.underlying267,
 a60:=Tryz.isAgg267,
 z60:=Tryz.sizeOf267,
 v60:=Tryz.zeroValue267,
 i60:=by kernel_rfl,
 t61:=Tryz.underlying268,
 a61:=Tryz.isAgg268,
 z61:=Tryz.sizeOf268,
 t65:=Tryz.underlying308,
 a65:=Tryz.isAgg308,
 z65:=Tryz.sizeOf308,
 v65:=Tryz.zeroValue308,
 i65:=by kernel_rfl,
 t66:=Tryz.underlying309,
 a66:=Tryz.isAgg309,
 z66:=Tryz.sizeOf309,
 v66:=Tryz.zeroValue309,
 i66:=by kernel_rfl,
 t67:=Tryz.underlying324,
 a67:=Tryz.isAgg324,
 z67:=Tryz.sizeOf324,
 v67:=Tryz.zeroValue324,
 i67:=by kernel_rfl,
 g0:=by kernel_rfl,
 m0:=by kernel_rfl,
 g1:=by kernel_rfl,
 m1:=by kernel_rfl,
 g2:=by kernel_rfl,
 m2:=by kernel_rfl,
 g3:=by kernel_rfl,
 m3:=by kernel_rfl,
 g4:=by kernel_rfl,
 m4:=by kernel_rfl }
end Go.Proofs.YtkdpfkjlheajhaaGreatDoor
end
section
open Go.RowKit Go.Pl Go.Av Go.Shelf
namespace Go.Proofs.YtkdpfkjlheajhaaGreatDoor
def puD (s:List UInt8):D:=match Lib.parseUintB 32 s with
 | .ok u=>.tup [.int .u64 (u:Int),.nili]
 | .range=>.tup [.int .u64 4294967295,.iface 274 .junk]
 | _=>.tup [.int .u64 0,.iface 274 .junk]
theorem Da:((2,313):Nat × TypeId) ∈ GV:=by
 unfold GV
 repeat (first|exact List.mem_cons_self .. | apply List.mem_cons_of_mem)
theorem Db:((3,313):Nat × TypeId) ∈ GV:=by
 unfold GV
 repeat (first|exact List.mem_cons_self .. | apply List.mem_cons_of_mem)
theorem HF {w:World}{g:G}{fr:List Fr}{d1 d2:D}{v1 v2:Value}(h1:V w g fr d1 v1)(h2:V w g fr d2 v2):V w g fr (.tup [d1,d2]) (.tuple #[v1,v2]):=by
 refine .tup _ _ rfl fun j d v hd hv=>?_
 match j,hd,hv with
 | 0,hd,hv=>simp at hd hv;subst hd hv;exact h1
 | 1,hd,hv=>simp at hd hv;subst hd hv;exact h2
 | j+2,hd,hv=>simp at hd
theorem O1 [Known][KnownSc](s:List UInt8)(hs:s.length<=281474976710656):AP Tryz.prog 139 [.str s,.int .i64 10,.int .i64 32] (puD s) []:=by
 refine⟨fun g w vs hmem hl hv=>?_⟩
 obtain⟨v0,v1,v2,rfl⟩:∃ v0 v1 v2,vs=[v0,v1,v2]:=by
  match vs,hl with
  | [v0,v1,v2],_=>exact⟨v0,v1,v2,rfl⟩
 have h0:=(hv 0 _ _ rfl rfl).str_inv.1
 have h1:=(hv 1 _ _ rfl rfl).int_inv
 have h2:=(hv 2 _ _ rfl rfl).int_inv
 subst h0 h1 h2
 have hsz:(⟨s.toArray⟩:ByteArray).size=s.length:=by show s.toArray.size=_;simp
 have hds:(⟨s.toArray⟩:ByteArray).data.toList=s:=by simp
 unfold puD
 cases h:Lib.parseUintB 32 s with
 | ok u=>
  have hc:Calls Tryz.prog 139 _ w _:=Any.strconv_ParseUint_10_at32_ok (P:=Tryz.prog) (ρ:=UY) HE ⟨s.toArray⟩ (by rw[hsz];omega) u (by rw[hds];exact h) w
  refine hc.mono fun e w' ⟨he,hw⟩=>Uy hmem ?_ he (HF (.int _ _) .nili)
  rcases hw with rfl|rfl
  ·exact Below.refl _ _
  ·exact Lib.bytesWorld_below _ _ _
 | range=>
  obtain⟨_,v,hvv⟩:=hmem.gl.2 _ _ ⟨KnownSc.range,Db⟩
  have hc:Calls Tryz.prog 139 _ w _:=Any.strconv_ParseUint_10_at32_range (P:=Tryz.prog) (ρ:=UY) HE ⟨s.toArray⟩ (by rw[hsz];omega) (by rw[hds];exact h) _ w hvv (.inr ⟨_,_,rfl⟩)
  exact hc.mono fun e w' ⟨N,he,_,_,hb⟩=>Uy hmem hb he (HF (.int _ _) (.iface _ _ _ (.junk _)))
 | _=>
  obtain⟨_,v,hvv⟩:=hmem.gl.2 _ _ ⟨KnownSc.syn,Da⟩
  have hc:Calls Tryz.prog 139 _ w _:=Any.strconv_ParseUint_10_at32_syntax (P:=Tryz.prog) (ρ:=UY) HE ⟨s.toArray⟩ (by rw[hsz];omega) (by rw[hds];exact h) _ w hvv (.inr ⟨_,_,rfl⟩)
  exact hc.mono fun e w' ⟨N,he,_,_,hb⟩=>Uy hmem hb he (HF (.int _ _) (.iface _ _ _ (.junk _)))
end Go.Proofs.YtkdpfkjlheajhaaGreatDoor
end
section
open Go.RowKit Go.Pl Go.Av
namespace Go.Proofs.YtkdpfkjlheajhaaGreatDoor
def puN (s:List UInt8):Nat:=match Lib.parseUintB 32 s with
 | .ok u=>u
 | .range=>4294967295
 | _=>0
def puB (s:List UInt8):Bool:=match Lib.parseUintB 32 s with
 | .ok _=>true
 | _=>false
theorem MT (s:List UInt8):puN s<=4294967295:=by
 unfold puN
 cases h:Lib.parseUintB 32 s with
 | ok u=>exact Lib.parseUintB_le h
 | range=>exact Nat.le_refl _
 | _=>exact Nat.zero_le _
theorem SF (s:List UInt8):puD s=.tup [.int .u64 (puN s:Int),if puB s then .nili else .iface 274 .junk]:=by
 unfold puD puN puB
 cases h:Lib.parseUintB 32 s<;>rfl
theorem Tz {M:Nat}:∀ {l r:List UInt8} {acc v:Nat},Lib.parseUintM M acc l=.ok v->Lib.parseUintM M acc (l++r)=Lib.parseUintM M v r
 | [],r,acc,v,h=>by
  rw[Lib.parseUintM]at h
  injection h with h
  rw[List.nil_append,h]
 | c::l,r,acc,v,h=>by
  rw[Lib.parseUintM]at h
  rw[List.cons_append,Lib.parseUintM]
  split at h
  ·rename_i h1
   rw[if_pos h1]
   split at h
   ·cases h
   ·rename_i h2
    rw[if_neg h2]
    split at h
    ·cases h
    ·rename_i h3
     rw[if_neg h3]
     exact Tz h
  ·cases h
theorem X4 {k:Nat}(h:k<10):(UInt8.ofNat (48+k)).toNat=48+k:=by
 rw[UInt8.toNat_ofNat'];omega
theorem Rl:∀(u:Nat),u<=4294967295->Lib.parseUintM 4294967295 0 (Lib.decDigits u)=.ok u:=by
 intro u
 induction u using Nat.strongRecOn with
 | _ u ih=>
  intro hu
  rw[Lib.decDigits]
  by_cases h:u<10
  ·rw[dif_pos h,Lib.parseUintM,X4 h,if_pos (by omega),if_neg (by omega),if_neg (by omega),Lib.parseUintM]
   congr 1;omega
  ·rw[dif_neg h,Tz (ih (u/10) (by omega) (by omega)),Lib.parseUintM,X4 (by omega),if_pos (by omega),if_neg (by omega),if_neg (by omega),Lib.parseUintM]
   congr 1;omega
theorem SG (u:Nat):Lib.decDigits u ≠ []:=by
 intro h
 have:=congrArg List.length h
 rw[Lib.decDigits_length]at this
 have:=Lib.nDigits_pos u
 simp at *;omega
theorem Ix {u:Nat}(h:u<=4294967295):puN (Lib.decDigits u)=u/\puB (Lib.decDigits u)=true:=by
 have e:Lib.parseUintB 32 (Lib.decDigits u)=.ok u:=by
  unfold Lib.parseUintB
  rw[if_neg (SG u)]
  exact Rl u h
 unfold puN puB
 rw[e]
 exact⟨rfl,rfl⟩
theorem Nr:∀(u:Nat) (c:UInt8),c ∈ Lib.decDigits u->48<=c.toNat/\c.toNat<=57:=by
 intro u
 induction u using Nat.strongRecOn with
 | _ u ih=>
  intro c hc
  rw[Lib.decDigits]at hc
  by_cases h:u<10
  ·rw[dif_pos h]at hc
   rw[List.mem_singleton]at hc
   subst hc
   have:=X4 h
   rw[this];omega
  ·rw[dif_neg h]at hc
   rcases List.mem_append.1 hc with hc|hc
   ·exact ih (u/10) (by omega) c hc
   ·rw[List.mem_singleton]at hc
    subst hc
    have:=X4 (k:=u % 10) (by omega)
    rw[this];omega
def pnV (s:List UInt8):EidV × Bool:=
 (⟨true,puN (Ww 46 s).1,puN (Ww 46 s).2.1,[],[]⟩,(Ww 46 s).2.2&&(puB (Ww 46 s).1&&(puB (Ww 46 s).2.1&&(Yh ⟨true,puN (Ww 46 s).1,puN (Ww 46 s).2.1,[],[]⟩&&(Lib.decDigits (puN (Ww 46 s).1)==(Ww 46 s).1&&Lib.decDigits (puN (Ww 46 s).2.1)==(Ww 46 s).2.1)))))
def VK (s:List UInt8):EidV × Bool:=
 if s==OJ then(ZN,true)
 else if(WX JG s).2 then pnV (WX JG s).1
 else if(WX Jd s).2 then ppV (WX Jd s).1
 else(ZN,false)
theorem GM {c:UInt8}(h:c.toNat<48\/57<c.toNat)(u:Nat):c ∉ Lib.decDigits u:=fun hm=>by
 have:=Nr u c hm
 omega
theorem HG {x:EidV}(h:Yh x=true):VK (ZO x)=(x,true):=by
 unfold ZO
 cases hz:isZ x with
 | true=>
  rw[if_pos rfl]
  rw[LX.1 hz]
  decide
 | false=>
  rw[if_neg (by simp)]
  cases hi:x.i with
  | true=>
   obtain⟨b1,b2,b3,b4,b5⟩:=V6 h hz hi
   rw[if_pos rfl]
   have e1:[105,112,110,58]++Lib.decDigits x.n++[46]++Lib.decDigits x.s=JG++(Lib.decDigits x.n++46::Lib.decDigits x.s):=by simp[JG]
   rw[e1]
   unfold VK
   have e2:(JG++(Lib.decDigits x.n++46::Lib.decDigits x.s)==OJ)=false:=by simp[JG,OJ]
   rw[e2,JF,if_neg (by simp),if_pos rfl]
   unfold pnV
   dsimp only
   rw[JE (GM (by decide) x.n)]
   dsimp only
   rw[(Ix b1).1,(Ix b1).2,(Ix b2).1,(Ix b2).2]
   have ex:(⟨true,x.n,x.s,[],[]⟩:EidV)=x:=by
    obtain⟨i,n,s,hh,d⟩:=x
    simp only at hi b3 b4
    rw[hi,b3,b4]
   rw[ex,h]
   simp
  | false=>
   obtain⟨b1,b2,b3,b4,b5,b6,b7⟩:=Vt h hz hi
   rw[if_neg (by simp)]
   have e1:[100,116,110,58]++Vh x=Jd++([47,47]++(x.h++47::x.d)):=by simp[Vh,Jd]
   rw[e1]
   unfold VK
   have e2:(Jd++([47,47]++(x.h++47::x.d))==OJ)=false:=by simp[Jd,OJ]
   have e3:WX JG (Jd++([47,47]++(x.h++47::x.d)))=(Jd++([47,47]++(x.h++47::x.d)),false):=Tp (by simp[Jd,JG])
   rw[e2,e3,JF,if_neg (by simp),if_neg (by simp),if_pos rfl]
   unfold ppV
   rw[JF]
   dsimp only
   rw[JE (Hp b6 (by decide))]
   dsimp only
   have ex:(⟨false,0,0,x.h,x.d⟩:EidV)=x:=by
    obtain⟨i,n,s,hh,d⟩:=x
    simp only at hi b1 b2
    rw[hi,b1,b2]
   rw[ex,h]
   have:(x.h != [])=true:=by
    rw[bne_iff_ne]
    intro e
    rw[e]at b3
    simp at b3
   rw[this]
   rfl
theorem X5 {x:RqV}(h:Yj x=true):x.kd=1\/x.kd=2\/x.kd=3\/x.kd=4\/x.kd=5\/x.kd=6\/x.kd=7\/x.kd=8\/x.kd=9\/x.kd=10\/x.kd=11\/x.kd=12:=by
 rcases Tg x.kd with h1|h1|h1|h1|h1|h1|h1|h1|h1|h1|h1|h1|⟨n1,n2,n3,n4,n5,n6,n7,n8,n9,n10,n11,n12⟩
 all_goals first|(simp[h1];done)|skip
 exfalso
 unfold Yj Vx at h
 simp[n1,n2,n3,n4,n5,n6,n7,n8,n9,n10,n11,n12]at h
end Go.Proofs.YtkdpfkjlheajhaaGreatDoor
end
