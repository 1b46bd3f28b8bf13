/- The document's blocks: which may be (dkgen.py). -/
import Derived.Test.YtmljabhmajehnaaGreatDoorO38
import Derived.Test.YtmljabhmajehnaaGreatDoorO26
import Derived.Test.YtmljabhmajehnaaGreatDoorO31
import Derived.Test.YtmljabhmajehnaaGreatDoorO27
import Derived.Test.YtmljabhmajehnaaGreatDoorO28
import Derived.Test.YtmljabhmajehnaaGreatDoorO32
import Derived.Test.YtmljabhmajehnaaGreatDoorO35
set_option linter.unusedVariables false
set_option linter.unusedSimpArgs false
section
open Go.RowKit Go.Pl Go.Av
namespace Go.Proofs.YtmljabhmajehnaaGreatDoor
set_option maxHeartbeats 4000000
theorem FO [Known](ty num fl F:Nat)(sum:Int)(d:List UInt8)(g:Bool)(hg:decide ((fl:Int) ≥ 16)=g)(hF:g=false->fl=F)(hw:g=true->IntKind.u64.wrap ((fl:Int)-16)=(F:Int))(t0:decide ((ty:Int)<1)=false)(t1:decide ((ty:Int)>255)=false)(t2:decide ((num:Int)<1)=false)(t3:decide ((num:Int)>255)=false)(t4:decide ((F:Int)>7)=true) :
  AP Tryz.prog 80 [.agg [.int .u64 (ty:Int),.int .u64 (num:Int),.int .u64 (fl:Int),.int .i64 sum,byE d]] (.bool false) []:=by
 cases g with
 | false=>
  obtain rfl:=hF rfl
  clear hw hF
  refine AP.ofA (Zl Tryz.func80 U Tryz.ntmps80 U U ?_)
  repeat'(first|(apply Zh Za;exact U)|(apply Zg Za;exact U)|(apply Zo Za;exact U)|refine Ze U U U Qt ?_|refine Zn U U U Qt ?_|refine Zk U Qt U U ?_|refine Zi U Qt U U ?_|refine Zd U Qt ?_|refine Zf U Qt ?_)
  all_goals exact Qe
 | true=>
  have hw:=hw rfl
  clear hF
  refine AP.ofA (Zl Tryz.func80 U Tryz.ntmps80 U U ?_)
  repeat'(first|rw[hw]|(apply Zh Za;exact U)|(apply Zg Za;exact U)|(apply Zo Za;exact U)|refine Ze U U U Qt ?_|refine Zn U U U Qt ?_|refine Zk U Qt U U ?_|refine Zi U Qt U U ?_|refine Zd U Qt ?_)
  all_goals exact Qe
theorem FP [Known](ty num fl F:Nat)(sum:Int)(d:List UInt8)(g:Bool)(hg:decide ((fl:Int) ≥ 16)=g)(hF:g=false->fl=F)(hw:g=true->IntKind.u64.wrap ((fl:Int)-16)=(F:Int))(t0:decide ((ty:Int)<1)=false)(t1:decide ((ty:Int)>255)=false)(t2:decide ((num:Int)<1)=false)(t3:decide ((num:Int)>255)=false)(t4:decide ((F:Int)>7)=false)(t5:decide (sum<0)=true) :
  AP Tryz.prog 80 [.agg [.int .u64 (ty:Int),.int .u64 (num:Int),.int .u64 (fl:Int),.int .i64 sum,byE d]] (.bool false) []:=by
 cases g with
 | false=>
  obtain rfl:=hF rfl
  clear hw hF
  refine AP.ofA (Zl Tryz.func80 U Tryz.ntmps80 U U ?_)
  repeat'(first|(apply Zh Za;exact U)|(apply Zg Za;exact U)|(apply Zo Za;exact U)|refine Ze U U U Qt ?_|refine Zn U U U Qt ?_|refine Zk U Qt U U ?_|refine Zi U Qt U U ?_|refine Zd U Qt ?_|refine Zf U Qt ?_)
  all_goals exact Qe
 | true=>
  have hw:=hw rfl
  clear hF
  refine AP.ofA (Zl Tryz.func80 U Tryz.ntmps80 U U ?_)
  repeat'(first|rw[hw]|(apply Zh Za;exact U)|(apply Zg Za;exact U)|(apply Zo Za;exact U)|refine Ze U U U Qt ?_|refine Zn U U U Qt ?_|refine Zk U Qt U U ?_|refine Zi U Qt U U ?_|refine Zd U Qt ?_)
  all_goals exact Qe
theorem FQ [Known](ty num fl F:Nat)(sum:Int)(d:List UInt8)(g:Bool)(hg:decide ((fl:Int) ≥ 16)=g)(hF:g=false->fl=F)(hw:g=true->IntKind.u64.wrap ((fl:Int)-16)=(F:Int))(t0:decide ((ty:Int)<1)=false)(t1:decide ((ty:Int)>255)=false)(t2:decide ((num:Int)<1)=false)(t3:decide ((num:Int)>255)=false)(t4:decide ((F:Int)>7)=false)(t5:decide (sum<0)=false)(t6:decide (sum>2)=true) :
  AP Tryz.prog 80 [.agg [.int .u64 (ty:Int),.int .u64 (num:Int),.int .u64 (fl:Int),.int .i64 sum,byE d]] (.bool false) []:=by
 cases g with
 | false=>
  obtain rfl:=hF rfl
  clear hw hF
  refine AP.ofA (Zl Tryz.func80 U Tryz.ntmps80 U U ?_)
  repeat'(first|(apply Zh Za;exact U)|(apply Zg Za;exact U)|(apply Zo Za;exact U)|refine Ze U U U Qt ?_|refine Zn U U U Qt ?_|refine Zk U Qt U U ?_|refine Zi U Qt U U ?_|refine Zd U Qt ?_|refine Zf U Qt ?_)
  all_goals exact Qe
 | true=>
  have hw:=hw rfl
  clear hF
  refine AP.ofA (Zl Tryz.func80 U Tryz.ntmps80 U U ?_)
  repeat'(first|rw[hw]|(apply Zh Za;exact U)|(apply Zg Za;exact U)|(apply Zo Za;exact U)|refine Ze U U U Qt ?_|refine Zn U U U Qt ?_|refine Zk U Qt U U ?_|refine Zi U Qt U U ?_|refine Zd U Qt ?_)
  all_goals exact Qe
theorem FR [Known](ty num fl F:Nat)(sum:Int)(d:List UInt8)(g:Bool)(hg:decide ((fl:Int) ≥ 16)=g)(hF:g=false->fl=F)(hw:g=true->IntKind.u64.wrap ((fl:Int)-16)=(F:Int))(t0:decide ((ty:Int)<1)=false)(t1:decide ((ty:Int)>255)=false)(t2:decide ((num:Int)<1)=false)(t3:decide ((num:Int)>255)=false)(t4:decide ((F:Int)>7)=false)(t5:decide (sum<0)=false)(t6:decide (sum>2)=false)(t7:decide (((d.map E.byte).length:Int)>200)=true) :
  AP Tryz.prog 80 [.agg [.int .u64 (ty:Int),.int .u64 (num:Int),.int .u64 (fl:Int),.int .i64 sum,byE d]] (.bool false) []:=by
 cases g with
 | false=>
  obtain rfl:=hF rfl
  clear hw hF
  refine AP.ofA (Zl Tryz.func80 U Tryz.ntmps80 U U ?_)
  repeat'(first|(apply Zh Za;exact U)|(apply Zg Za;exact U)|(apply Zo Za;exact U)|refine Ze U U U Qt ?_|refine Zi U Qt U U ?_|refine Zd U Qt ?_|refine Zf U Qt ?_|refine Zm Za U U U U ?_)
  all_goals exact Qe
 | true=>
  have hw:=hw rfl
  clear hF
  refine AP.ofA (Zl Tryz.func80 U Tryz.ntmps80 U U ?_)
  repeat'(first|rw[hw]|(apply Zh Za;exact U)|(apply Zg Za;exact U)|(apply Zo Za;exact U)|refine Ze U U U Qt ?_|refine Zi U Qt U U ?_|refine Zd U Qt ?_|refine Zm Za U U U U ?_)
  all_goals exact Qe
theorem D5 [Known](ty num fl F:Nat)(sum:Int)(d:List UInt8)(g:Bool)(zi ok:Bool)(zn zs:Nat)(zh zd:List UInt8)(hg:decide ((fl:Int) ≥ 16)=g)(hF:g=false->fl=F)(hw:g=true->IntKind.u64.wrap ((fl:Int)-16)=(F:Int))(t0:decide ((ty:Int)<1)=false)(t1:decide ((ty:Int)>255)=false)(t2:decide ((num:Int)<1)=false)(t3:decide ((num:Int)>255)=false)(t4:decide ((F:Int)>7)=false)(t5:decide (sum<0)=false)(t6:decide (sum>2)=false)(t7:decide (((d.map E.byte).length:Int)>200)=false)(u6:((ty:Int)==6)=true)(u7:((ty:Int)==7)=false)(u10:((ty:Int)==10)=false)(hP:AP Tryz.prog 124 [byE d] (.tup [.agg [.bool zi,.int .u64 (zn:Int),.int .u64 (zs:Int),.str zh,.str zd],.bool ok]) []) :
  AP Tryz.prog 80 [.agg [.int .u64 (ty:Int),.int .u64 (num:Int),.int .u64 (fl:Int),.int .i64 sum,byE d]] (.bool ok) []:=by
 cases g with
 | false=>
  obtain rfl:=hF rfl
  clear hw hF
  refine AP.ofA (Zl Tryz.func80 U Tryz.ntmps80 U U ?_)
  repeat'(first|(apply Zb (hP);kernel_rfl;(iterate 4 exact U))|(apply Zh Za;exact U)|(apply Zg Za;exact U)|(apply Zo Za;exact U)|refine Ze U U U Qt ?_|refine Zi U Qt U U ?_|refine Zd U Qt ?_|refine Zf U Qt ?_|refine Zm Za U U U U ?_)
  all_goals exact Qe
 | true=>
  have hw:=hw rfl
  clear hF
  refine AP.ofA (Zl Tryz.func80 U Tryz.ntmps80 U U ?_)
  repeat'(first|rw[hw]|(apply Zb (hP);kernel_rfl;(iterate 4 exact U))|(apply Zh Za;exact U)|(apply Zg Za;exact U)|(apply Zo Za;exact U)|refine Ze U U U Qt ?_|refine Zi U Qt U U ?_|refine Zd U Qt ?_|refine Zf U Qt ?_|refine Zm Za U U U U ?_)
  all_goals exact Qe
theorem D6 [Known](ty num fl F:Nat)(sum:Int)(d:List UInt8)(g:Bool)(ok:Bool)(zn:Nat)(hg:decide ((fl:Int) ≥ 16)=g)(hF:g=false->fl=F)(hw:g=true->IntKind.u64.wrap ((fl:Int)-16)=(F:Int))(t0:decide ((ty:Int)<1)=false)(t1:decide ((ty:Int)>255)=false)(t2:decide ((num:Int)<1)=false)(t3:decide ((num:Int)>255)=false)(t4:decide ((F:Int)>7)=false)(t5:decide (sum<0)=false)(t6:decide (sum>2)=false)(t7:decide (((d.map E.byte).length:Int)>200)=false)(u6:((ty:Int)==6)=false)(u7:((ty:Int)==7)=true)(u10:((ty:Int)==10)=false)(hP:AP Tryz.prog 125 [byE d] (.tup [.int .u64 (zn:Int),.bool ok]) []) :
  AP Tryz.prog 80 [.agg [.int .u64 (ty:Int),.int .u64 (num:Int),.int .u64 (fl:Int),.int .i64 sum,byE d]] (.bool ok) []:=by
 cases g with
 | false=>
  obtain rfl:=hF rfl
  clear hw hF
  refine AP.ofA (Zl Tryz.func80 U Tryz.ntmps80 U U ?_)
  repeat'(first|(apply Zb (hP);kernel_rfl;(iterate 4 exact U))|(apply Zh Za;exact U)|(apply Zg Za;exact U)|(apply Zo Za;exact U)|refine Ze U U U Qt ?_|refine Zi U Qt U U ?_|refine Zd U Qt ?_|refine Zf U Qt ?_|refine Zm Za U U U U ?_)
  all_goals exact Qe
 | true=>
  have hw:=hw rfl
  clear hF
  refine AP.ofA (Zl Tryz.func80 U Tryz.ntmps80 U U ?_)
  repeat'(first|rw[hw]|(apply Zb (hP);kernel_rfl;(iterate 4 exact U))|(apply Zh Za;exact U)|(apply Zg Za;exact U)|(apply Zo Za;exact U)|refine Ze U U U Qt ?_|refine Zi U Qt U U ?_|refine Zd U Qt ?_|refine Zf U Qt ?_|refine Zm Za U U U U ?_)
  all_goals exact Qe
theorem B9 [Known](ty num fl F:Nat)(sum:Int)(d:List UInt8)(g:Bool)(ok:Bool)(zn zm:Nat)(hg:decide ((fl:Int) ≥ 16)=g)(hF:g=false->fl=F)(hw:g=true->IntKind.u64.wrap ((fl:Int)-16)=(F:Int))(t0:decide ((ty:Int)<1)=false)(t1:decide ((ty:Int)>255)=false)(t2:decide ((num:Int)<1)=false)(t3:decide ((num:Int)>255)=false)(t4:decide ((F:Int)>7)=false)(t5:decide (sum<0)=false)(t6:decide (sum>2)=false)(t7:decide (((d.map E.byte).length:Int)>200)=false)(u6:((ty:Int)==6)=false)(u7:((ty:Int)==7)=false)(u10:((ty:Int)==10)=true)(hP:AP Tryz.prog 88 [byE d] (.tup [.int .u64 (zn:Int),.int .u64 (zm:Int),.bool ok]) []) :
  AP Tryz.prog 80 [.agg [.int .u64 (ty:Int),.int .u64 (num:Int),.int .u64 (fl:Int),.int .i64 sum,byE d]] (.bool ok) []:=by
 cases g with
 | false=>
  obtain rfl:=hF rfl
  clear hw hF
  refine AP.ofA (Zl Tryz.func80 U Tryz.ntmps80 U U ?_)
  repeat'(first|(apply Zb (hP);kernel_rfl;(iterate 4 exact U))|(apply Zh Za;exact U)|(apply Zg Za;exact U)|(apply Zo Za;exact U)|refine Ze U U U Qt ?_|refine Zi U Qt U U ?_|refine Zd U Qt ?_|refine Zf U Qt ?_|refine Zm Za U U U U ?_)
  all_goals exact Qe
 | true=>
  have hw:=hw rfl
  clear hF
  refine AP.ofA (Zl Tryz.func80 U Tryz.ntmps80 U U ?_)
  repeat'(first|rw[hw]|(apply Zb (hP);kernel_rfl;(iterate 4 exact U))|(apply Zh Za;exact U)|(apply Zg Za;exact U)|(apply Zo Za;exact U)|refine Ze U U U Qt ?_|refine Zi U Qt U U ?_|refine Zd U Qt ?_|refine Zf U Qt ?_|refine Zm Za U U U U ?_)
  all_goals exact Qe
theorem D7 [Known](ty num fl F:Nat)(sum:Int)(d:List UInt8)(g:Bool)(hg:decide ((fl:Int) ≥ 16)=g)(hF:g=false->fl=F)(hw:g=true->IntKind.u64.wrap ((fl:Int)-16)=(F:Int))(t0:decide ((ty:Int)<1)=false)(t1:decide ((ty:Int)>255)=false)(t2:decide ((num:Int)<1)=false)(t3:decide ((num:Int)>255)=false)(t4:decide ((F:Int)>7)=false)(t5:decide (sum<0)=false)(t6:decide (sum>2)=false)(t7:decide (((d.map E.byte).length:Int)>200)=false)(u6:((ty:Int)==6)=false)(u7:((ty:Int)==7)=false)(u10:((ty:Int)==10)=false) :
  AP Tryz.prog 80 [.agg [.int .u64 (ty:Int),.int .u64 (num:Int),.int .u64 (fl:Int),.int .i64 sum,byE d]] (.bool true) []:=by
 cases g with
 | false=>
  obtain rfl:=hF rfl
  clear hw hF
  refine AP.ofA (Zl Tryz.func80 U Tryz.ntmps80 U U ?_)
  repeat'(first|(apply Zh Za;exact U)|(apply Zg Za;exact U)|(apply Zo Za;exact U)|refine Ze U U U Qt ?_|refine Zi U Qt U U ?_|refine Zf U Qt ?_|refine Zm Za U U U U ?_)
  all_goals exact Qe
 | true=>
  have hw:=hw rfl
  clear hF
  refine AP.ofA (Zl Tryz.func80 U Tryz.ntmps80 U U ?_)
  repeat'(first|rw[hw]|(apply Zh Za;exact U)|(apply Zg Za;exact U)|(apply Zo Za;exact U)|refine Ze U U U Qt ?_|refine Zi U Qt U U ?_|refine Zd U Qt ?_|refine Zf U Qt ?_|refine Zm Za U U U U ?_)
  all_goals exact Qe
theorem D8 (fl:Nat)(h:fl<18446744073709551616):(bits .andNot .u64 (fl:Int) 23==0) = !decide (((if fl ≥ 16 then fl-16 else fl:Nat):Int)>7):=by
 rw[show(23:Int)=((23:Nat):Int) from rfl,u64_andNot_nat fl 23 h (by omega)]
 have hs:fl=fl/32*32+fl % 32:=by omega
 rcases Nat.lt_or_ge fl 32 with h1|h1
 ·have:∀ x,x<32->((((x &&& (18446744073709551615-23):Nat):Int))==0) = !decide (((if x ≥ 16 then x-16 else x:Nat):Int)>7):=by decide +kernel
  exact this fl h1
 ·have e1:decide (((if fl ≥ 16 then fl-16 else fl:Nat):Int)>7)=true:=decide_eq_true (by rw[if_pos (by omega)];omega)
  rw[e1]
  have hne:fl &&& (18446744073709551615-23) ≠ 0:=fun e=>by
   have h5:(fl &&& (18446744073709551615-23))/32=fl/32:=by
    have:(18446744073709551615-23:Nat)/32=2 ^ 59-1:=by decide
    rw[show(32:Nat)=2 ^ 5 from rfl,<- Nat.shiftRight_eq_div_pow,Nat.shiftRight_and_distrib,Nat.shiftRight_eq_div_pow,Nat.shiftRight_eq_div_pow]
    rw[show(18446744073709551615-23:Nat)/2 ^ 5=2 ^ 59-1 from by decide,Nat.and_two_pow_sub_one_eq_mod,Nat.mod_eq_of_lt (by omega)]
   rw[e]at h5
   omega
  simpa using hne
theorem Jh [Known][KnownU8](b:BlkV)(hfl:b.fl<18446744073709551616)(hd:b.data.length<=100000):AP Tryz.prog 80 [.agg (bkC b)] (.bool (ZH b)) []:=by
 have hP:=Rx b.data hd
 have hA:=IW b.data hd
 have hH:=J7 b.data hd
 have hk:=D8 b.fl hfl
 obtain⟨ty,num,fl,sum,d⟩:=b
 dsimp only at *
 unfold ZH J5 KV Jk
 dsimp only
 rw[hk]
 have hdl:(d.map E.byte).length=d.length:=List.length_map ..
 generalize hF:(if fl ≥ 16 then fl-16 else fl)=F at *
 have hg1:decide ((fl:Int) ≥ 16)=false->fl=F:=fun h=>by
  have:=of_decide_eq_false h
  rw[<- hF,if_neg (by omega)]
 have hg2:decide ((fl:Int) ≥ 16)=true->IntKind.u64.wrap ((fl:Int)-16)=(F:Int):=fun h=>by
  have:=of_decide_eq_true h
  rw[<- hF,if_pos (by omega),IntKind.wrap_u64]
  omega
 rw[<- hdl]
 cases t0:decide ((ty:Int)<1) with
 | true=>
  have h:=FK ty num fl F sum d _ rfl hg1 hg2 t0
  simpa[bne]using h
 | false=>
 cases t1:decide ((ty:Int)>255) with
 | true=>
  have h:=FL ty num fl F sum d _ rfl hg1 hg2 t0 t1
  simpa[bne]using h
 | false=>
 cases t2:decide ((num:Int)<1) with
 | true=>
  have h:=FM ty num fl F sum d _ rfl hg1 hg2 t0 t1 t2
  simpa[bne]using h
 | false=>
 cases t3:decide ((num:Int)>255) with
 | true=>
  have h:=FN ty num fl F sum d _ rfl hg1 hg2 t0 t1 t2 t3
  simpa[bne]using h
 | false=>
 cases t4:decide ((F:Int)>7) with
 | true=>
  have h:=FO ty num fl F sum d _ rfl hg1 hg2 t0 t1 t2 t3 t4
  simpa[bne]using h
 | false=>
 cases t5:decide (sum<0) with
 | true=>
  have c5:decide (sum ≥ 0)=false:=decide_eq_false (by have:=of_decide_eq_true t5;omega)
  have h:=FP ty num fl F sum d _ rfl hg1 hg2 t0 t1 t2 t3 t4 t5
  simpa[c5]using h
 | false=>
 cases t6:decide (sum>2) with
 | true=>
  have c6:decide (sum<=2)=false:=decide_eq_false (by have:=of_decide_eq_true t6;omega)
  have h:=FQ ty num fl F sum d _ rfl hg1 hg2 t0 t1 t2 t3 t4 t5 t6
  simpa[c6]using h
 | false=>
 cases t7:decide (((d.map E.byte).length:Int)>200) with
 | true=>
  have c7:decide ((d.length:Int)<=200)=false:=decide_eq_false (by have:=of_decide_eq_true t7;rw[hdl]at this;omega)
  have h:=FR ty num fl F sum d _ rfl hg1 hg2 t0 t1 t2 t3 t4 t5 t6 t7
  simpa[c7]using h
 | false=>
 have c5:decide (sum ≥ 0)=true:=decide_eq_true (by have:=of_decide_eq_false t5;omega)
 have c6:decide (sum<=2)=true:=decide_eq_true (by have:=of_decide_eq_false t6;omega)
 have c7:decide (((d.map E.byte).length:Int)<=200)=true:=decide_eq_true (by have:=of_decide_eq_false t7;omega)
 rw[c5,c6,c7]
 simp only[Bool.or_self,Bool.not_false,Bool.true_and,Bool.and_true]
 cases u6:((ty:Int)==6) with
 | true=>
  have e6:(ty:Int)=6:=by simpa using u6
  dsimp only
  generalize Rw d=z at *
  obtain⟨zi,zn,zs,zh,zd⟩:=z
  exact D5 ty num fl F sum d _ zi _ zn zs zh zd rfl hg1 hg2 t0 t1 t2 t3 t4 t5 t6 t7 u6 (by rw[e6];rfl) (by rw[e6];rfl) hP
 | false=>
 cases u7:((ty:Int)==7) with
 | true=>
  have e7:(ty:Int)=7:=by simpa using u7
  exact D6 ty num fl F sum d _ _ _ rfl hg1 hg2 t0 t1 t2 t3 t4 t5 t6 t7 u6 u7 (by rw[e7];rfl) hA
 | false=>
 cases u10:((ty:Int)==10) with
 | true=>exact B9 ty num fl F sum d _ _ _ _ rfl hg1 hg2 t0 t1 t2 t3 t4 t5 t6 t7 u6 u7 u10 hH
 | false=>exact D7 ty num fl F sum d _ rfl hg1 hg2 t0 t1 t2 t3 t4 t5 t6 t7 u6 u7 u10
theorem Da [Known](b:BlkV):AP Tryz.prog 39 [.agg (bkC b)] (.agg (bkC b)) []:=by
 obtain⟨ty,num,fl,sum,d⟩:=b
 refine AP.ofA (Zl Tryz.func39 U Tryz.ntmps39 U U ?_)
 repeat'(first|(apply Zg Za;exact U))
 all_goals exact Qe
theorem HA {c:BlkV}(h:ZH c=true):c.data.length<=200:=by
 unfold ZH J5 at h
 simp only[Bool.and_eq_true,decide_eq_true_eq]at h
 have:=h.2.2.2.2.2
 omega
theorem Db {b:BlkV}(h:ZH b=true)(hfl:b.fl<18446744073709551616)(s:Nat)(hs:s<=2):(ZN (ZX s (YL b))).length<=1000000000:=by
 obtain⟨h1,h2,h3,h4,_⟩:=UT h
 have hd:=HA h
 have h9:¬ 3000<b.data.length:=by omega
 have hg:YE (ZX s (YL b)) 1 300=293:=by
  rcases(show s=0\/s=1\/s=2 by omega) with rfl|rfl|rfl<;>simp[ZX,YL,YE,Wr,h9]
 have hn:nI (ZX s (YL b)):=by
  simp[ZX,YL,nI,nIs]
  omega
 have:=(QL _ 1 300 (by omega) (by omega) hn).2.1
 omega
def WL (b:BlkV):It:=(Y7 (YL b) b.sum.toNat).1
theorem Ij (b:BlkV):(YL b).length=5:=rfl
theorem X6 (b:BlkV):Yk (YL b)=5:=by simp[YL,Yk,YC]
theorem TA [Known][KnownU8](b:BlkV)(h:ZH b=true)(hfl:b.fl<18446744073709551616):AP Tryz.prog 82 [.agg (bkC b)] (itD (WL b)) []:=by
 obtain⟨h1,h2,h3,h4,h5⟩:=UT h
 have hdl:=HA h
 have hS:=KY (YL b) b.sum.toNat (by omega) (L1 h hfl (by omega)) (by rw[Ij];omega) (by rw[X6];omega) (Db h hfl b.sum.toNat (by omega))
 have e1:((b.sum.toNat:Nat):Int)=b.sum:=by omega
 have e2:IntKind.u64.wrap b.sum=((b.sum.toNat:Nat):Int):=by rw[IntKind.wrap_u64];omega
 rw[e1]at hS
 unfold WL
 generalize Y7 (YL b) b.sum.toNat=S at *
 obtain⟨ty,num,fl,sum,d⟩:=b
 obtain⟨⟨k,n,bb,l⟩,ok⟩:=S
 dsimp only at *
 replace hS:AP Tryz.prog 123 [.sl .ext [.agg [.int .i64 0,.int .u64 (ty:Int),.sl [],.sl []],.agg [.int .i64 0,.int .u64 (num:Int),.sl [],.sl []],.agg [.int .i64 0,.int .u64 (fl:Int),.sl [],.sl []],.agg [.int .i64 0,.int .u64 ((sum.toNat:Nat):Int),.sl [],.sl []],.agg [.int .i64 2,.int .u64 0,.sl (d.map E.byte),.sl []]],.int .i64 sum] (.tup [.agg (itC k n bb l),.bool ok]) []:=hS
 refine AP.ofA (Zl Tryz.func82 U Tryz.ntmps82 U U ?_)
 repeat'(first|rw[e2]|(apply Zb (hS);kernel_rfl;(iterate 4 exact U))|(apply Zh Za;exact U)|(apply Zg Za;exact U)|refine ZO Za U U U U U U U U U U U U ?_)
 all_goals exact Qe
theorem X7 (b:BlkV)(x:List It)(hx:Yk x<=4/\YO x 5=true/\Y4 x=true):ZB (.mk 4 0 [] (YL b++x))=true:=by
 rw[Ws,YV,YC,Yw,UX,X6,UY,UZ,hx.2.1,hx.2.2]
 have h1:YO (YL b) 5=true:=by simp[YL,YO,YV]
 have h2:Y4 (YL b)=true:=by simp[YL,Y4,Yw,Wb]
 have h3:Wb 4 0 [] (YL b++x)=true:=by simp[Wb]
 rw[h1,h2,h3]
 simp
 omega
theorem HC {b:BlkV}(h0:0<=b.sum)(h2:b.sum<=2):Wn (YL b) 3=b.sum:=by
 unfold Wn YL
 rw[if_neg (by omega)]
 show(match decide (((b.sum.toNat:Nat):Int)>2) with|true=>(-1:Int)|false=>match It.beq (.mk 0 b.sum.toNat [] []) (.mk 0 b.sum.toNat [] []) with|true=>((b.sum.toNat:Nat):Int)|false => -1)=b.sum
 rw[show decide (((b.sum.toNat:Nat):Int)>2)=false from decide_eq_false (by omega),It.beq_iff.2 rfl]
 exact Int.toNat_of_nonneg h0
theorem MD {b:BlkV}(s:Nat):(Y7 (YL b) s).2=true:=by
 cases s with
 | zero=>
  unfold Y7
  have:=X7 b [] ⟨by simp[Yk],rfl,rfl⟩
  rw[List.append_nil]at this
  exact this
 | succ s=>
  unfold Y7
  dsimp only
  have:ZB (ZX (s+1) (YL b))=true:=X7 b [.mk 2 0 (List.replicate (2*(s+1)) 0) []] ⟨by simp[Yk,YC],by simp[YO,YV],by simp[Y4,Yw,Wb]⟩
  rw[this]
theorem K7 {b:BlkV}(h:ZH b=true):YM b=(WL b,0):=by
 obtain⟨_,_,h3,h4,_⟩:=UT h
 unfold YM
 rw[h]
 dsimp only
 rw[NB]
 unfold NA WL
 rw[HC h3 h4,Ij]
 rw[show(decide ((3:Int)<0)||decide ((3:Int) ≥ ((5:Nat):Int)))=false from by decide]
 dsimp only
 rw[decide_eq_true (show b.sum ≥ 0 from h3),MD]
theorem ME {b:BlkV}(h:ZH b=false):YM b=(z0,3):=by
 unfold YM
 rw[h]
def HE (kind ZQ:Nat)(c:BlkV):Bool:=(decide ((kind:Int)>0)&&((c.ty:Int)==(kind:Int)))||(((kind:Int)==0)&&((c.num:Int)==(ZQ:Int)))
def W3 (l:List BlkV)(kind ZQ:Nat):Nat:=l.countP (HE kind ZQ)
def IX (l:List BlkV)(i:Nat)(c:BlkV):Bool:=ZH c&&(!decide ((W3 l 0 c.num:Int)>1)&&((((c.ty:Int)==1)==((i:Int)==((l.length-1:Nat):Int)))&&(((c.num:Int)==1)==((i:Int)==((l.length-1:Nat):Int)))))
theorem Ry (n:Nat)(c:BlkV):HE 0 n c=decide (c.num=n):=by
 unfold HE
 rw[Bool.eq_iff_iff]
 simp
 omega
theorem SX {k:Nat}(hk:0<k)(n:Nat)(c:BlkV):HE k n c=decide (c.ty=k):=by
 unfold HE
 rw[Bool.eq_iff_iff]
 simp
 omega
theorem U1 {q:BlkV->Bool}:∀ {l:List BlkV},l.Pairwise (fun c d=>¬(q c=true/\q d=true)) ↔ l.countP q<=1
 | []=>by simp
 | c::l=>by
  rw[List.pairwise_cons,U1 (l:=l),List.countP_cons]
  cases hc:q c with
  | false=>simp
  | true=>
   simp only[if_pos]
   constructor
   ·rintro⟨h1,_⟩
    have:l.countP q=0:=List.countP_eq_zero.2 fun d hd h=>h1 d hd ⟨trivial,h⟩
    omega
   ·intro h
    have h0:l.countP q=0:=by omega
    exact⟨fun d hd h2=>List.countP_eq_zero.1 h0 d hd h2.2,by omega⟩
abbrev goB (c d:BlkV):Prop:=c.num ≠ d.num/\(c.ty ≠ d.ty\/Uu d.ty=false)
theorem Ik:∀(l pre:List BlkV),Kc pre l=true ↔ ((∀ b ∈ l,ZH b=true)/\(∀ c ∈ pre,∀ b ∈ l,goB c b)/\l.Pairwise goB)
 | [],pre=>by simp[Kc]
 | b::r,pre=>by
  rw[Kc,Bool.and_eq_true,Bool.and_eq_true,Ik r (pre++[b]),List.pairwise_cons,List.all_eq_true]
  have hg:∀ c,(c.num != b.num&&(c.ty != b.ty || !Uu b.ty))=true ↔ goB c b:=fun c=>by
   simp[goB]
  constructor
  ·rintro⟨h1,h2,h3,h4,h5⟩
   refine⟨fun x hx=>?_,fun c hc x hx=>?_,fun x hx=>h4 b (by simp) x hx,h5⟩
   ·rcases List.mem_cons.1 hx with rfl|hx
    ·exact h1
    ·exact h3 x hx
   ·rcases List.mem_cons.1 hx with rfl|hx
    ·exact(hg c).1 (h2 c hc)
    ·exact h4 c (List.mem_append.2 (.inl hc)) x hx
  ·rintro⟨h1,h2,h3,h4⟩
   refine⟨h1 b (by simp),fun c hc=>(hg c).2 (h2 c hc b (by simp)),fun x hx=>h1 x (by simp[hx]),fun c hc x hx=>?_,h4⟩
   rcases List.mem_append.1 hc with hc|hc
   ·exact h2 c hc x (by simp[hx])
   ·simp at hc;subst hc;exact h3 x hx
structure FitD (l:List BlkV):Prop where
 one:1<=l.length
 few:l.length<=8
 ok:∀ i c,l[i]?=some c->IX l i c=true
 c6:W3 l 6 0<=1
 c7:W3 l 7 0<=1
 c10:W3 l 10 0<=1
theorem Up {l:List BlkV}{i:Nat}{c:BlkV}:IX l i c=true ↔ ZH c=true/\l.countP (fun d=>decide (d.num=c.num))<=1/\(c.ty=1 ↔ i=l.length-1)/\(c.num=1 ↔ i=l.length-1):=by
 have e:W3 l 0 c.num=l.countP (fun d=>decide (d.num=c.num)):=by
  unfold W3
  congr 1
  funext d
  exact Ry _ _
 unfold IX
 rw[e]
 have hb:∀ a b c d:Int,((a==b)=(c==d)) ↔ (a=b ↔ c=d):=fun a b c d=>by rw[Bool.eq_iff_iff,beq_iff_eq,beq_iff_eq]
 simp only[Bool.and_eq_true,Bool.not_eq_true',decide_eq_false_iff_not,beq_iff_eq]
 rw[hb,hb]
 constructor
 ·rintro⟨h1,h2,h3,h4⟩
  exact⟨h1,by omega,by omega,by omega⟩
 ·rintro⟨h1,h2,h3,h4⟩
  exact⟨h1,by omega,by omega,by omega⟩
theorem IY {l:List BlkV}{k:Nat}(hk:0<k):W3 l k 0=l.countP (fun d=>decide (d.ty=k)):=by
 unfold W3
 congr 1
 funext d
 exact SX hk _ _
theorem MF (k:Nat):Uu k=true ↔ k=1\/k=6\/k=7\/k=10:=by
 unfold Uu
 simp
theorem SY (l:List BlkV):Tq l=true ↔ FitD l:=by
 have hlast:l.getLast? = l[l.length-1]? := List.getLast?_eq_getElem? ..
 unfold Tq
 rw[hlast]
 cases hb:l[l.length-1]? with
 | none=>
  simp only[Bool.false_eq_true,false_iff]
  intro h
  have:=h.one
  have h2:=List.getElem?_eq_none_iff.1 hb
  omega
 | some b=>
  have hlt:l.length-1<l.length:=by
   rcases Nat.lt_or_ge (l.length-1) l.length with h|h
   ·exact h
   ·rw[List.getElem?_eq_none h]at hb;cases hb
  dsimp only
  rw[Bool.and_eq_true,Bool.and_eq_true,Bool.and_eq_true,decide_eq_true_eq,beq_iff_eq,beq_iff_eq,Ik]
  constructor
  ·rintro⟨h8,ht,hn,hr,_,hp⟩
   have hpi:=List.pairwise_iff_getElem.1 hp
   have hnum:l.Pairwise (fun c d=>c.num ≠ d.num):=hp.imp fun h=>h.1
   have hty:∀ k,Uu k=true->l.countP (fun d=>decide (d.ty=k))<=1:=fun k hk=>U1.1 (hp.imp fun {c d} h=>by
    rintro⟨h1,h2⟩
    have h1:=of_decide_eq_true h1
    have h2:=of_decide_eq_true h2
    rcases h.2 with h|h
    ·exact h (by rw[h1,h2])
    ·rw[h2,hk]at h;cases h)
   refine⟨by omega,h8,fun i c hc=>?_,?_,?_,?_⟩
   ·obtain⟨hi,hci⟩:=List.getElem?_eq_some_iff.1 hc
    obtain⟨_,hbi⟩:=List.getElem?_eq_some_iff.1 hb
    have hlast:i<l.length-1->goB c b:=fun h=>by
     have:=hpi i (l.length-1) hi hlt h
     rw[hci,hbi]at this
     exact this
    refine Up.2 ⟨hr c (List.mem_of_getElem? hc),U1.1 (hnum.imp fun {x y} h=>?_),?_,?_⟩
    ·rintro⟨h1,h2⟩
     exact h ((of_decide_eq_true h1).trans (of_decide_eq_true h2).symm)
    ·constructor
     ·intro h1
      rcases Nat.lt_or_ge i (l.length-1) with h|h
      ·rcases(hlast h).2 with h2|h2
       ·exact absurd (h1.trans ht.symm) h2
       ·rw[ht]at h2;cases h2
      ·omega
     ·rintro rfl
      rw[hb]at hc
      cases hc
      exact ht
    ·constructor
     ·intro h1
      rcases Nat.lt_or_ge i (l.length-1) with h|h
      ·exact absurd (h1.trans hn.symm) (hlast h).1
      ·omega
     ·rintro rfl
      rw[hb]at hc
      cases hc
      exact hn
   ·rw[IY (by omega)];exact hty 6 rfl
   ·rw[IY (by omega)];exact hty 7 rfl
   ·rw[IY (by omega)];exact hty 10 rfl
  ·intro h
   have hb2:=Up.1 (h.ok _ _ hb)
   have hall:∀ c ∈ l,ZH c=true/\l.countP (fun d=>decide (d.num=c.num))<=1:=fun c hc=>by
    obtain⟨i,hi⟩:=List.getElem?_of_mem hc
    have:=Up.1 (h.ok i c hi)
    exact⟨this.1,this.2.1⟩
   refine⟨h.few,hb2.2.2.1.2 rfl,hb2.2.2.2.2 rfl,fun c hc=>(hall c hc).1,fun c hc=>by simp at hc,?_⟩
   rw[List.pairwise_iff_getElem]
   intro i j hi hj hij
   have oi:=Up.1 (h.ok i _ (List.getElem?_eq_getElem hi))
   have oj:=Up.1 (h.ok j _ (List.getElem?_eq_getElem hj))
   refine⟨fun e=>?_,?_⟩
   ·have:=U1.2 oj.2.1
    rw[List.pairwise_iff_getElem]at this
    exact this i j hi hj hij ⟨decide_eq_true e,decide_eq_true rfl⟩
   ·cases ha:Uu (l[j]).ty with
    | false=>exact .inr rfl
    | true=>
     left
     intro e
     have hk:∀ k,W3 l k 0<=1->0<k->(l[j]).ty=k->False:=fun k hc h0 hk=>by
      rw[IY h0]at hc
      have:=U1.2 hc
      rw[List.pairwise_iff_getElem]at this
      exact this i j hi hj hij ⟨decide_eq_true (e.trans hk),decide_eq_true hk⟩
     rcases(MF _).1 ha with h1|h1|h1|h1
     ·have:=oi.2.2.1.1 (e.trans h1)
      omega
     ·exact hk 6 h.c6 (by omega) h1
     ·exact hk 7 h.c7 (by omega) h1
     ·exact hk 10 h.c10 (by omega) h1
def Jl (p:PriV)(l:List BlkV):List UInt8:=159::(ZN (Va p)++ZV (l.map WL))
def W4 (b:BunV):List UInt8 × Bool:=match Yb b with
 | true=>(Jl b.p b.bl++[255],true)
 | false=>([],false)
theorem MG (b:BunV):QP b=true ↔ Yr b.p=true/\∀ c ∈ b.bl,ZH c=true:=by
 unfold QP
 rw[Bool.and_eq_true,List.all_eq_true,beq_iff_eq]
 have hp:(Wz b.p).2=0 ↔ Yr b.p=true:=by
  cases h:Yr b.p with
  | true=>rw[XG h];simp
  | false=>unfold Wz;rw[h];simp
 have hb:∀ c,((YM c).2==0)=true ↔ ZH c=true:=fun c=>by
  cases h:ZH c with
  | true=>rw[K7 h];simp
  | false=>rw[ME h];simp
 rw[hp]
 exact⟨fun h=>⟨h.1,fun c hc=>(hb c).1 (h.2 c hc)⟩,fun h=>⟨h.1,fun c hc=>(hb c).2 (h.2 c hc)⟩⟩
theorem NF {b:BunV}(hp:Yr b.p=true)(hb:∀ c ∈ b.bl,ZH c=true):ZV (Um b)=ZN (Va b.p)++ZV (b.bl.map WL):=by
 unfold Um
 rw[ZV,XG hp]
 have:(b.bl.map fun c=>(YM c).1)=b.bl.map WL:=List.map_congr_left fun c hc=>by rw[K7 (hb c hc)]
 rw[this]
theorem XK (b:BunV):Yb b=true ↔ FitD b.bl/\Yr b.p=true/\(Jl b.p b.bl).length<=599:=by
 unfold Yb
 rw[Bool.and_eq_true,Bool.and_eq_true,SY,MG,decide_eq_true_eq]
 constructor
 ·rintro⟨h1,⟨h2,h3⟩,h4⟩
  rw[NF h2 h3]at h4
  exact⟨h1,h2,by unfold Jl;rw[List.length_cons];omega⟩
 ·rintro⟨h1,h2,h4⟩
  have h3:∀ c ∈ b.bl,ZH c=true:=fun c hc=>by
   obtain⟨i,hi⟩:=List.getElem?_of_mem hc
   exact(Up.1 (h1.ok i c hi)).1
  refine⟨h1,⟨h2,h3⟩,?_⟩
  rw[NF h2 h3]
  unfold Jl at h4
  rw[List.length_cons]at h4
  omega
theorem MH {b:BunV}(h:¬ (FitD b.bl/\Yr b.p=true/\(Jl b.p b.bl).length<=599)):W4 b=([],false):=by
 have:Yb b=false:=by
  cases hr:Yb b with
  | false=>rfl
  | true=>exact absurd ((XK b).1 hr) h
 unfold W4
 rw[this]
theorem TB {b:BunV}(h:FitD b.bl/\Yr b.p=true/\(Jl b.p b.bl).length<=599):W4 b=(Jl b.p b.bl++[255],true):=by
 unfold W4
 rw[(XK b).2 h]
theorem Dc [Known](x:EidV)(t q:Nat):AP Tryz.prog 29 [.agg (iC x t q)] (.agg (iC x t q)) []:=by
 have hE:=IU x
 obtain⟨xi,xn,xs,xh,xd⟩:=x
 refine AP.ofA (Zl Tryz.func29 U Tryz.ntmps29 U U ?_)
 repeat'(first|(apply Zb (hE);kernel_rfl;(iterate 4 exact U))|(apply Zh Za;exact U)|(apply Zg Za;exact U)|(apply Zq 7 ZF;decide +kernel;kernel_rfl;kernel_rfl;kernel_rfl;exact U;exact U)|(apply Zt;(iterate 4 exact U))|exact AE.nil _ _ _ _|(apply Zw;exact U)|(apply Zz;exact U;exact U;decide +kernel;exact U)|(apply ZA;exact U)|exact AO.nil _ _ _|(apply Zs;(decide +kernel))|exact AOs.nil|exact ZI rfl rfl)
 all_goals exact Qe
theorem Dd [Known](p:PriV):AP Tryz.prog 77 [.agg (prC p)] (.agg (prC p)) []:=by
 have hD:=IU p.dest
 have hR:=IU p.rep
 have hI:=Dc p.src p.t p.q
 obtain⟨fl,sum,⟨di,dn,ds,dh,dd⟩,⟨ri,rn,rs,rh,rd⟩,⟨xi,xn,xs,xh,xd⟩,t,q,life⟩:=p
 refine AP.ofA (Zl Tryz.func77 U Tryz.ntmps77 U U ?_)
 repeat'(first|(apply Zb (hD);kernel_rfl;(iterate 4 exact U))|(apply Zb (hR);kernel_rfl;(iterate 4 exact U))|(apply Zb (hI);kernel_rfl;(iterate 4 exact U))|(apply Zh Za;exact U)|(apply Zg Za;exact U)|(apply Zq 15 ZF;decide +kernel;kernel_rfl;kernel_rfl;kernel_rfl;exact U;exact U)|(apply Zt;(iterate 4 exact U))|exact AE.nil _ _ _ _|(apply Zw;exact U)|(apply Zz;exact U;exact U;decide +kernel;exact U)|(apply ZA;exact U)|exact AO.nil _ _ _|(apply Zs;(decide +kernel))|exact AOs.nil|exact ZI rfl rfl)
 all_goals exact Qe
theorem MI [Known](a b:BlkV):AP Tryz.prog 38 [.agg (bkC a),.agg (bkC b)] (.bool (JE a b)) []:=by
 obtain⟨ty,num,fl,sum,data⟩:=a
 obtain⟨ty2,num2,fl2,sum2,data2⟩:=b
 unfold JE
 dsimp only
 cases t1:((ty:Int)==(ty2:Int))<;>cases t2:((num:Int)==(num2:Int))<;>cases t3:((fl:Int)==(fl2:Int))<;>cases t4:(sum==sum2)<;>cases t5:(data==data2)
 all_goals
  refine AP.ofA (Zl Tryz.func38 U Tryz.ntmps38 U U ?_)
  repeat'(first|(apply Zh Za;exact U)|(apply Zg Za;exact U)|refine Ze U U U Qt ?_|refine Zr U U U Qt ?_|refine Zk U Qt U U ?_|refine Zi U Qt U U ?_|refine Vo Za U U U U U U U U U ?_)
  all_goals(apply Zp [];(apply Zc Za;exact U);(iterate 4 exact U))
  all_goals first|rfl|(dsimp only;rw[t5];rfl)
end Go.Proofs.YtmljabhmajehnaaGreatDoor
end
