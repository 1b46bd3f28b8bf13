/- The document's blocks: which may be (dkgen.py). -/
import Derived.Test.YtakblclkflnnpaaGreatDoorH38
import Derived.Test.YtakblclkflnnpaaGreatDoorH26
import Derived.Test.YtakblclkflnnpaaGreatDoorH31
import Derived.Test.YtakblclkflnnpaaGreatDoorH27
import Derived.Test.YtakblclkflnnpaaGreatDoorH28
import Derived.Test.YtakblclkflnnpaaGreatDoorH32
import Derived.Test.YtakblclkflnnpaaGreatDoorH35
set_option linter.unusedVariables false
set_option linter.unusedSimpArgs false
section
open Go.RowKit Go.Pl Go.Av
namespace Go.Proofs.YtakblclkflnnpaaGreatDoor
set_option maxHeartbeats 4000000
theorem Zt3 [Known](ty num fl F:Nat)(sum:Int)(d:List UInt8)(g:Bool)(hg:decide ((fl:Int) ≥ 16)=g)(hF:g=false->fl=F)(hw:g=true->IntKind.u64.wrap ((fl:Int)-16)=(F:Int))(t0:decide ((ty:Int)<1)=false)(t1:decide ((ty:Int)>255)=false)(t2:decide ((num:Int)<1)=false)(t3:decide ((num:Int)>255)=false)(t4:decide ((F:Int)>7)=true) :
  AP Tryz.prog 30 [.agg [.int .u64 (ty:Int),.int .u64 (num:Int),.int .u64 (fl:Int),.int .i64 sum,byE d]] (.bool false) []:=by
 cases g with
 | false=>
  obtain rfl:=hF rfl
  clear hw hF
  refine AP.ofA (Zam Tryz.func30 U Tryz.ntmps30 U U ?_)
  repeat'(first|(apply Zai Zab;exact U)|(apply Zag Zab;exact U)|(apply Zau Zab;exact U)|refine Zae U U U Qt ?_|refine Zal U U U Qt ?_|refine Zak U Qt U U ?_|refine Zah U Qt U U ?_|refine Zad U Qt ?_|refine Zaf U Qt ?_)
  all_goals exact Qe
 | true=>
  have hw:=hw rfl
  clear hF
  refine AP.ofA (Zam Tryz.func30 U Tryz.ntmps30 U U ?_)
  repeat'(first|rw[hw]|(apply Zai Zab;exact U)|(apply Zag Zab;exact U)|(apply Zau Zab;exact U)|refine Zae U U U Qt ?_|refine Zal U U U Qt ?_|refine Zak U Qt U U ?_|refine Zah U Qt U U ?_|refine Zad U Qt ?_)
  all_goals exact Qe
theorem Zt4 [Known](ty num fl F:Nat)(sum:Int)(d:List UInt8)(g:Bool)(hg:decide ((fl:Int) ≥ 16)=g)(hF:g=false->fl=F)(hw:g=true->IntKind.u64.wrap ((fl:Int)-16)=(F:Int))(t0:decide ((ty:Int)<1)=false)(t1:decide ((ty:Int)>255)=false)(t2:decide ((num:Int)<1)=false)(t3:decide ((num:Int)>255)=false)(t4:decide ((F:Int)>7)=false)(t5:decide (sum<0)=true) :
  AP Tryz.prog 30 [.agg [.int .u64 (ty:Int),.int .u64 (num:Int),.int .u64 (fl:Int),.int .i64 sum,byE d]] (.bool false) []:=by
 cases g with
 | false=>
  obtain rfl:=hF rfl
  clear hw hF
  refine AP.ofA (Zam Tryz.func30 U Tryz.ntmps30 U U ?_)
  repeat'(first|(apply Zai Zab;exact U)|(apply Zag Zab;exact U)|(apply Zau Zab;exact U)|refine Zae U U U Qt ?_|refine Zal U U U Qt ?_|refine Zak U Qt U U ?_|refine Zah U Qt U U ?_|refine Zad U Qt ?_|refine Zaf U Qt ?_)
  all_goals exact Qe
 | true=>
  have hw:=hw rfl
  clear hF
  refine AP.ofA (Zam Tryz.func30 U Tryz.ntmps30 U U ?_)
  repeat'(first|rw[hw]|(apply Zai Zab;exact U)|(apply Zag Zab;exact U)|(apply Zau Zab;exact U)|refine Zae U U U Qt ?_|refine Zal U U U Qt ?_|refine Zak U Qt U U ?_|refine Zah U Qt U U ?_|refine Zad U Qt ?_)
  all_goals exact Qe
theorem Zt5 [Known](ty num fl F:Nat)(sum:Int)(d:List UInt8)(g:Bool)(hg:decide ((fl:Int) ≥ 16)=g)(hF:g=false->fl=F)(hw:g=true->IntKind.u64.wrap ((fl:Int)-16)=(F:Int))(t0:decide ((ty:Int)<1)=false)(t1:decide ((ty:Int)>255)=false)(t2:decide ((num:Int)<1)=false)(t3:decide ((num:Int)>255)=false)(t4:decide ((F:Int)>7)=false)(t5:decide (sum<0)=false)(t6:decide (sum>2)=true) :
  AP Tryz.prog 30 [.agg [.int .u64 (ty:Int),.int .u64 (num:Int),.int .u64 (fl:Int),.int .i64 sum,byE d]] (.bool false) []:=by
 cases g with
 | false=>
  obtain rfl:=hF rfl
  clear hw hF
  refine AP.ofA (Zam Tryz.func30 U Tryz.ntmps30 U U ?_)
  repeat'(first|(apply Zai Zab;exact U)|(apply Zag Zab;exact U)|(apply Zau Zab;exact U)|refine Zae U U U Qt ?_|refine Zal U U U Qt ?_|refine Zak U Qt U U ?_|refine Zah U Qt U U ?_|refine Zad U Qt ?_|refine Zaf U Qt ?_)
  all_goals exact Qe
 | true=>
  have hw:=hw rfl
  clear hF
  refine AP.ofA (Zam Tryz.func30 U Tryz.ntmps30 U U ?_)
  repeat'(first|rw[hw]|(apply Zai Zab;exact U)|(apply Zag Zab;exact U)|(apply Zau Zab;exact U)|refine Zae U U U Qt ?_|refine Zal U U U Qt ?_|refine Zak U Qt U U ?_|refine Zah U Qt U U ?_|refine Zad U Qt ?_)
  all_goals exact Qe
theorem Zt6 [Known](ty num fl F:Nat)(sum:Int)(d:List UInt8)(g:Bool)(hg:decide ((fl:Int) ≥ 16)=g)(hF:g=false->fl=F)(hw:g=true->IntKind.u64.wrap ((fl:Int)-16)=(F:Int))(t0:decide ((ty:Int)<1)=false)(t1:decide ((ty:Int)>255)=false)(t2:decide ((num:Int)<1)=false)(t3:decide ((num:Int)>255)=false)(t4:decide ((F:Int)>7)=false)(t5:decide (sum<0)=false)(t6:decide (sum>2)=false)(t7:decide (((d.map E.byte).length:Int)>200)=true) :
  AP Tryz.prog 30 [.agg [.int .u64 (ty:Int),.int .u64 (num:Int),.int .u64 (fl:Int),.int .i64 sum,byE d]] (.bool false) []:=by
 cases g with
 | false=>
  obtain rfl:=hF rfl
  clear hw hF
  refine AP.ofA (Zam Tryz.func30 U Tryz.ntmps30 U U ?_)
  repeat'(first|(apply Zai Zab;exact U)|(apply Zag Zab;exact U)|(apply Zau Zab;exact U)|refine Zae U U U Qt ?_|refine Zah U Qt U U ?_|refine Zad U Qt ?_|refine Zaf U Qt ?_|refine Zan Zab U U U U ?_)
  all_goals exact Qe
 | true=>
  have hw:=hw rfl
  clear hF
  refine AP.ofA (Zam Tryz.func30 U Tryz.ntmps30 U U ?_)
  repeat'(first|rw[hw]|(apply Zai Zab;exact U)|(apply Zag Zab;exact U)|(apply Zau Zab;exact U)|refine Zae U U U Qt ?_|refine Zah U Qt U U ?_|refine Zad U Qt ?_|refine Zan Zab U U U U ?_)
  all_goals exact Qe
theorem Ztg [Known](ty num fl F:Nat)(sum:Int)(d:List UInt8)(g:Bool)(zi ok:Bool)(zn zs:Nat)(zh zd:List UInt8)(hg:decide ((fl:Int) ≥ 16)=g)(hF:g=false->fl=F)(hw:g=true->IntKind.u64.wrap ((fl:Int)-16)=(F:Int))(t0:decide ((ty:Int)<1)=false)(t1:decide ((ty:Int)>255)=false)(t2:decide ((num:Int)<1)=false)(t3:decide ((num:Int)>255)=false)(t4:decide ((F:Int)>7)=false)(t5:decide (sum<0)=false)(t6:decide (sum>2)=false)(t7:decide (((d.map E.byte).length:Int)>200)=false)(u6:((ty:Int)==6)=true)(u7:((ty:Int)==7)=false)(u10:((ty:Int)==10)=false)(hP:AP Tryz.prog 38 [byE d] (.tup [.agg [.bool zi,.int .u64 (zn:Int),.int .u64 (zs:Int),.str zh,.str zd],.bool ok]) []) :
  AP Tryz.prog 30 [.agg [.int .u64 (ty:Int),.int .u64 (num:Int),.int .u64 (fl:Int),.int .i64 sum,byE d]] (.bool ok) []:=by
 cases g with
 | false=>
  obtain rfl:=hF rfl
  clear hw hF
  refine AP.ofA (Zam Tryz.func30 U Tryz.ntmps30 U U ?_)
  repeat'(first|(apply Zaa (hP);kernel_rfl;(iterate 4 exact U))|(apply Zai Zab;exact U)|(apply Zag Zab;exact U)|(apply Zau Zab;exact U)|refine Zae U U U Qt ?_|refine Zah U Qt U U ?_|refine Zad U Qt ?_|refine Zaf U Qt ?_|refine Zan Zab U U U U ?_)
  all_goals exact Qe
 | true=>
  have hw:=hw rfl
  clear hF
  refine AP.ofA (Zam Tryz.func30 U Tryz.ntmps30 U U ?_)
  repeat'(first|rw[hw]|(apply Zaa (hP);kernel_rfl;(iterate 4 exact U))|(apply Zai Zab;exact U)|(apply Zag Zab;exact U)|(apply Zau Zab;exact U)|refine Zae U U U Qt ?_|refine Zah U Qt U U ?_|refine Zad U Qt ?_|refine Zaf U Qt ?_|refine Zan Zab U U U U ?_)
  all_goals exact Qe
theorem Zth [Known](ty num fl F:Nat)(sum:Int)(d:List UInt8)(g:Bool)(ok:Bool)(zn:Nat)(hg:decide ((fl:Int) ≥ 16)=g)(hF:g=false->fl=F)(hw:g=true->IntKind.u64.wrap ((fl:Int)-16)=(F:Int))(t0:decide ((ty:Int)<1)=false)(t1:decide ((ty:Int)>255)=false)(t2:decide ((num:Int)<1)=false)(t3:decide ((num:Int)>255)=false)(t4:decide ((F:Int)>7)=false)(t5:decide (sum<0)=false)(t6:decide (sum>2)=false)(t7:decide (((d.map E.byte).length:Int)>200)=false)(u6:((ty:Int)==6)=false)(u7:((ty:Int)==7)=true)(u10:((ty:Int)==10)=false)(hP:AP Tryz.prog 39 [byE d] (.tup [.int .u64 (zn:Int),.bool ok]) []) :
  AP Tryz.prog 30 [.agg [.int .u64 (ty:Int),.int .u64 (num:Int),.int .u64 (fl:Int),.int .i64 sum,byE d]] (.bool ok) []:=by
 cases g with
 | false=>
  obtain rfl:=hF rfl
  clear hw hF
  refine AP.ofA (Zam Tryz.func30 U Tryz.ntmps30 U U ?_)
  repeat'(first|(apply Zaa (hP);kernel_rfl;(iterate 4 exact U))|(apply Zai Zab;exact U)|(apply Zag Zab;exact U)|(apply Zau Zab;exact U)|refine Zae U U U Qt ?_|refine Zah U Qt U U ?_|refine Zad U Qt ?_|refine Zaf U Qt ?_|refine Zan Zab U U U U ?_)
  all_goals exact Qe
 | true=>
  have hw:=hw rfl
  clear hF
  refine AP.ofA (Zam Tryz.func30 U Tryz.ntmps30 U U ?_)
  repeat'(first|rw[hw]|(apply Zaa (hP);kernel_rfl;(iterate 4 exact U))|(apply Zai Zab;exact U)|(apply Zag Zab;exact U)|(apply Zau Zab;exact U)|refine Zae U U U Qt ?_|refine Zah U Qt U U ?_|refine Zad U Qt ?_|refine Zaf U Qt ?_|refine Zan Zab U U U U ?_)
  all_goals exact Qe
theorem Zsb [Known](ty num fl F:Nat)(sum:Int)(d:List UInt8)(g:Bool)(ok:Bool)(zn zm:Nat)(hg:decide ((fl:Int) ≥ 16)=g)(hF:g=false->fl=F)(hw:g=true->IntKind.u64.wrap ((fl:Int)-16)=(F:Int))(t0:decide ((ty:Int)<1)=false)(t1:decide ((ty:Int)>255)=false)(t2:decide ((num:Int)<1)=false)(t3:decide ((num:Int)>255)=false)(t4:decide ((F:Int)>7)=false)(t5:decide (sum<0)=false)(t6:decide (sum>2)=false)(t7:decide (((d.map E.byte).length:Int)>200)=false)(u6:((ty:Int)==6)=false)(u7:((ty:Int)==7)=false)(u10:((ty:Int)==10)=true)(hP:AP Tryz.prog 40 [byE d] (.tup [.int .u64 (zn:Int),.int .u64 (zm:Int),.bool ok]) []) :
  AP Tryz.prog 30 [.agg [.int .u64 (ty:Int),.int .u64 (num:Int),.int .u64 (fl:Int),.int .i64 sum,byE d]] (.bool ok) []:=by
 cases g with
 | false=>
  obtain rfl:=hF rfl
  clear hw hF
  refine AP.ofA (Zam Tryz.func30 U Tryz.ntmps30 U U ?_)
  repeat'(first|(apply Zaa (hP);kernel_rfl;(iterate 4 exact U))|(apply Zai Zab;exact U)|(apply Zag Zab;exact U)|(apply Zau Zab;exact U)|refine Zae U U U Qt ?_|refine Zah U Qt U U ?_|refine Zad U Qt ?_|refine Zaf U Qt ?_|refine Zan Zab U U U U ?_)
  all_goals exact Qe
 | true=>
  have hw:=hw rfl
  clear hF
  refine AP.ofA (Zam Tryz.func30 U Tryz.ntmps30 U U ?_)
  repeat'(first|rw[hw]|(apply Zaa (hP);kernel_rfl;(iterate 4 exact U))|(apply Zai Zab;exact U)|(apply Zag Zab;exact U)|(apply Zau Zab;exact U)|refine Zae U U U Qt ?_|refine Zah U Qt U U ?_|refine Zad U Qt ?_|refine Zaf U Qt ?_|refine Zan Zab U U U U ?_)
  all_goals exact Qe
theorem Zti [Known](ty num fl F:Nat)(sum:Int)(d:List UInt8)(g:Bool)(hg:decide ((fl:Int) ≥ 16)=g)(hF:g=false->fl=F)(hw:g=true->IntKind.u64.wrap ((fl:Int)-16)=(F:Int))(t0:decide ((ty:Int)<1)=false)(t1:decide ((ty:Int)>255)=false)(t2:decide ((num:Int)<1)=false)(t3:decide ((num:Int)>255)=false)(t4:decide ((F:Int)>7)=false)(t5:decide (sum<0)=false)(t6:decide (sum>2)=false)(t7:decide (((d.map E.byte).length:Int)>200)=false)(u6:((ty:Int)==6)=false)(u7:((ty:Int)==7)=false)(u10:((ty:Int)==10)=false) :
  AP Tryz.prog 30 [.agg [.int .u64 (ty:Int),.int .u64 (num:Int),.int .u64 (fl:Int),.int .i64 sum,byE d]] (.bool true) []:=by
 cases g with
 | false=>
  obtain rfl:=hF rfl
  clear hw hF
  refine AP.ofA (Zam Tryz.func30 U Tryz.ntmps30 U U ?_)
  repeat'(first|(apply Zai Zab;exact U)|(apply Zag Zab;exact U)|(apply Zau Zab;exact U)|refine Zae U U U Qt ?_|refine Zah U Qt U U ?_|refine Zaf U Qt ?_|refine Zan Zab U U U U ?_)
  all_goals exact Qe
 | true=>
  have hw:=hw rfl
  clear hF
  refine AP.ofA (Zam Tryz.func30 U Tryz.ntmps30 U U ?_)
  repeat'(first|rw[hw]|(apply Zai Zab;exact U)|(apply Zag Zab;exact U)|(apply Zau Zab;exact U)|refine Zae U U U Qt ?_|refine Zah U Qt U U ?_|refine Zad U Qt ?_|refine Zaf U Qt ?_|refine Zan Zab U U U U ?_)
  all_goals exact Qe
theorem Ztj (fl:Nat)(h:fl<18446744073709551616):(bits .andNot .u64 (fl:Int) 23==0) = !decide (((if fl ≥ 16 then fl-16 else fl:Nat):Int)>7):=by
 rw[show(23:Int)=((23:Nat):Int) from rfl,u64_andNot_nat fl 23 h (by omega)]
 have hs:fl=fl/32*32+fl % 32:=by omega
 rcases Nat.lt_or_ge fl 32 with h1|h1
 ·have:∀ x,x<32->((((x &&& (18446744073709551615-23):Nat):Int))==0) = !decide (((if x ≥ 16 then x-16 else x:Nat):Int)>7):=by decide +kernel
  exact this fl h1
 ·have e1:decide (((if fl ≥ 16 then fl-16 else fl:Nat):Int)>7)=true:=decide_eq_true (by rw[if_pos (by omega)];omega)
  rw[e1]
  have hne:fl &&& (18446744073709551615-23) ≠ 0:=fun e=>by
   have h5:(fl &&& (18446744073709551615-23))/32=fl/32:=by
    have:(18446744073709551615-23:Nat)/32=2 ^ 59-1:=by decide
    rw[show(32:Nat)=2 ^ 5 from rfl,<- Nat.shiftRight_eq_div_pow,Nat.shiftRight_and_distrib,Nat.shiftRight_eq_div_pow,Nat.shiftRight_eq_div_pow]
    rw[show(18446744073709551615-23:Nat)/2 ^ 5=2 ^ 59-1 from by decide,Nat.and_two_pow_sub_one_eq_mod,Nat.mod_eq_of_lt (by omega)]
   rw[e]at h5
   omega
  simpa using hne
theorem ZnU [Known][KnownU8](b:BlkV)(hfl:b.fl<18446744073709551616)(hd:b.data.length<=100000):AP Tryz.prog 30 [.agg (bkC b)] (.bool (ZaN b)) []:=by
 have hP:=Zpr b.data hd
 have hA:=ZnS b.data hd
 have hH:=Zps b.data hd
 have hk:=Ztj b.fl hfl
 obtain⟨ty,num,fl,sum,d⟩:=b
 dsimp only at *
 unfold ZaN ZhQ ZlF Zjd
 dsimp only
 rw[hk]
 have hdl:(d.map E.byte).length=d.length:=List.length_map ..
 generalize hF:(if fl ≥ 16 then fl-16 else fl)=F at *
 have hg1:decide ((fl:Int) ≥ 16)=false->fl=F:=fun h=>by
  have:=of_decide_eq_false h
  rw[<- hF,if_neg (by omega)]
 have hg2:decide ((fl:Int) ≥ 16)=true->IntKind.u64.wrap ((fl:Int)-16)=(F:Int):=fun h=>by
  have:=of_decide_eq_true h
  rw[<- hF,if_pos (by omega),IntKind.wrap_u64]
  omega
 rw[<- hdl]
 cases t0:decide ((ty:Int)<1) with
 | true=>
  have h:=ZtZ ty num fl F sum d _ rfl hg1 hg2 t0
  simpa[bne]using h
 | false=>
 cases t1:decide ((ty:Int)>255) with
 | true=>
  have h:=Zt0 ty num fl F sum d _ rfl hg1 hg2 t0 t1
  simpa[bne]using h
 | false=>
 cases t2:decide ((num:Int)<1) with
 | true=>
  have h:=Zt1 ty num fl F sum d _ rfl hg1 hg2 t0 t1 t2
  simpa[bne]using h
 | false=>
 cases t3:decide ((num:Int)>255) with
 | true=>
  have h:=Zt2 ty num fl F sum d _ rfl hg1 hg2 t0 t1 t2 t3
  simpa[bne]using h
 | false=>
 cases t4:decide ((F:Int)>7) with
 | true=>
  have h:=Zt3 ty num fl F sum d _ rfl hg1 hg2 t0 t1 t2 t3 t4
  simpa[bne]using h
 | false=>
 cases t5:decide (sum<0) with
 | true=>
  have c5:decide (sum ≥ 0)=false:=decide_eq_false (by have:=of_decide_eq_true t5;omega)
  have h:=Zt4 ty num fl F sum d _ rfl hg1 hg2 t0 t1 t2 t3 t4 t5
  simpa[c5]using h
 | false=>
 cases t6:decide (sum>2) with
 | true=>
  have c6:decide (sum<=2)=false:=decide_eq_false (by have:=of_decide_eq_true t6;omega)
  have h:=Zt5 ty num fl F sum d _ rfl hg1 hg2 t0 t1 t2 t3 t4 t5 t6
  simpa[c6]using h
 | false=>
 cases t7:decide (((d.map E.byte).length:Int)>200) with
 | true=>
  have c7:decide ((d.length:Int)<=200)=false:=decide_eq_false (by have:=of_decide_eq_true t7;rw[hdl]at this;omega)
  have h:=Zt6 ty num fl F sum d _ rfl hg1 hg2 t0 t1 t2 t3 t4 t5 t6 t7
  simpa[c7]using h
 | false=>
 have c5:decide (sum ≥ 0)=true:=decide_eq_true (by have:=of_decide_eq_false t5;omega)
 have c6:decide (sum<=2)=true:=decide_eq_true (by have:=of_decide_eq_false t6;omega)
 have c7:decide (((d.map E.byte).length:Int)<=200)=true:=decide_eq_true (by have:=of_decide_eq_false t7;omega)
 rw[c5,c6,c7]
 simp only[Bool.or_self,Bool.not_false,Bool.true_and,Bool.and_true]
 cases u6:((ty:Int)==6) with
 | true=>
  have e6:(ty:Int)=6:=by simpa using u6
  dsimp only
  generalize Zq4 d=z at *
  obtain⟨zi,zn,zs,zh,zd⟩:=z
  exact Ztg ty num fl F sum d _ zi _ zn zs zh zd rfl hg1 hg2 t0 t1 t2 t3 t4 t5 t6 t7 u6 (by rw[e6];rfl) (by rw[e6];rfl) hP
 | false=>
 cases u7:((ty:Int)==7) with
 | true=>
  have e7:(ty:Int)=7:=by simpa using u7
  exact Zth ty num fl F sum d _ _ _ rfl hg1 hg2 t0 t1 t2 t3 t4 t5 t6 t7 u6 u7 (by rw[e7];rfl) hA
 | false=>
 cases u10:((ty:Int)==10) with
 | true=>exact Zsb ty num fl F sum d _ _ _ _ rfl hg1 hg2 t0 t1 t2 t3 t4 t5 t6 t7 u6 u7 u10 hH
 | false=>exact Zti ty num fl F sum d _ rfl hg1 hg2 t0 t1 t2 t3 t4 t5 t6 t7 u6 u7 u10
theorem Zsc [Known](b:BlkV):AP Tryz.prog 25 [.agg (bkC b)] (.agg (bkC b)) []:=by
 obtain⟨ty,num,fl,sum,d⟩:=b
 refine AP.ofA (Zam Tryz.func25 U Tryz.ntmps25 U U ?_)
 repeat'(first|(apply Zag Zab;exact U))
 all_goals exact Qe
theorem Zk4 {c:BlkV}(h:ZaN c=true):c.data.length<=200:=by
 unfold ZaN ZhQ at h
 simp only[Bool.and_eq_true,decide_eq_true_eq]at h
 have:=h.2.2.2.2.2
 omega
theorem Zsd {b:BlkV}(h:ZaN b=true)(hfl:b.fl<18446744073709551616)(s:Nat)(hs:s<=2):(ZaZ (Za0 s (Zb3 b))).length<=1000000000:=by
 obtain⟨h1,h2,h3,h4,_⟩:=Zek h
 have hd:=Zk4 h
 have h9:¬ 3000<b.data.length:=by omega
 have hg:ZbI (Za0 s (Zb3 b)) 1 300=293:=by
  rcases(show s=0\/s=1\/s=2 by omega) with rfl|rfl|rfl<;>simp[Za0,Zb3,ZbI,Zcn,h9]
 have hn:nI (Za0 s (Zb3 b)):=by
  simp[Za0,Zb3,nI,nIs]
  omega
 have:=(ZeW _ 1 300 (by omega) (by omega) hn).2.1
 omega
def ZcA (b:BlkV):It:=(Zb6 (Zb3 b) b.sum.toNat).1
theorem Zi4 (b:BlkV):(Zb3 b).length=5:=rfl
theorem ZgJ (b:BlkV):Zbr (Zb3 b)=5:=by simp[Zb3,Zbr,ZbQ]
theorem ZlM [Known][KnownU8](b:BlkV)(h:ZaN b=true)(hfl:b.fl<18446744073709551616):AP Tryz.prog 33 [.agg (bkC b)] (itD (ZcA b)) []:=by
 obtain⟨h1,h2,h3,h4,h5⟩:=Zek h
 have hdl:=Zk4 h
 have hS:=Zhl (Zb3 b) b.sum.toNat (by omega) (ZqM h hfl (by omega)) (by rw[Zi4];omega) (by rw[ZgJ];omega) (Zsd h hfl b.sum.toNat (by omega))
 have e1:((b.sum.toNat:Nat):Int)=b.sum:=by omega
 have e2:IntKind.u64.wrap b.sum=((b.sum.toNat:Nat):Int):=by rw[IntKind.wrap_u64];omega
 rw[e1]at hS
 unfold ZcA
 generalize Zb6 (Zb3 b) b.sum.toNat=S at *
 obtain⟨ty,num,fl,sum,d⟩:=b
 obtain⟨⟨k,n,bb,l⟩,ok⟩:=S
 dsimp only at *
 replace hS:AP Tryz.prog 95 [.sl .ext [.agg [.int .i64 0,.int .u64 (ty:Int),.sl [],.sl []],.agg [.int .i64 0,.int .u64 (num:Int),.sl [],.sl []],.agg [.int .i64 0,.int .u64 (fl:Int),.sl [],.sl []],.agg [.int .i64 0,.int .u64 ((sum.toNat:Nat):Int),.sl [],.sl []],.agg [.int .i64 2,.int .u64 0,.sl (d.map E.byte),.sl []]],.int .i64 sum] (.tup [.agg (itC k n bb l),.bool ok]) []:=hS
 refine AP.ofA (Zam Tryz.func33 U Tryz.ntmps33 U U ?_)
 repeat'(first|rw[e2]|(apply Zaa (hS);kernel_rfl;(iterate 4 exact U))|(apply Zai Zab;exact U)|(apply Zag Zab;exact U)|refine ZaL Zab U U U U U U U U U U U U ?_)
 all_goals exact Qe
theorem ZgK (b:BlkV)(x:List It)(hx:Zbr x<=4/\Zb8 x 5=true/\Zcj x=true):ZaD (.mk 4 0 [] (Zb3 b++x))=true:=by
 rw[Zb2,Zcf,ZbQ,ZbN,Zd6,ZgJ,Zd7,Zd8,hx.2.1,hx.2.2]
 have h1:Zb8 (Zb3 b) 5=true:=by simp[Zb3,Zb8,Zcf]
 have h2:Zcj (Zb3 b)=true:=by simp[Zb3,Zcj,ZbN,Zdi]
 have h3:Zdi 4 0 [] (Zb3 b++x)=true:=by simp[Zdi]
 rw[h1,h2,h3]
 simp
 omega
theorem ZjS {b:BlkV}(h0:0<=b.sum)(h2:b.sum<=2):ZcB (Zb3 b) 3=b.sum:=by
 unfold ZcB Zb3
 rw[if_neg (by omega)]
 show(match decide (((b.sum.toNat:Nat):Int)>2) with|true=>(-1:Int)|false=>match It.beq (.mk 0 b.sum.toNat [] []) (.mk 0 b.sum.toNat [] []) with|true=>((b.sum.toNat:Nat):Int)|false => -1)=b.sum
 rw[show decide (((b.sum.toNat:Nat):Int)>2)=false from decide_eq_false (by omega),It.beq_iff.2 rfl]
 exact Int.toNat_of_nonneg h0
theorem ZnV {b:BlkV}(s:Nat):(Zb6 (Zb3 b) s).2=true:=by
 cases s with
 | zero=>
  unfold Zb6
  have:=ZgK b [] ⟨by simp[Zbr],rfl,rfl⟩
  rw[List.append_nil]at this
  exact this
 | succ s=>
  unfold Zb6
  dsimp only
  have:ZaD (Za0 (s+1) (Zb3 b))=true:=ZgK b [.mk 2 0 (List.replicate (2*(s+1)) 0) []] ⟨by simp[Zbr,ZbQ],by simp[Zb8,Zcf],by simp[Zcj,ZbN,Zdi]⟩
  rw[this]
theorem ZhW {b:BlkV}(h:ZaN b=true):ZbL b=(ZcA b,0):=by
 obtain⟨_,_,h3,h4,_⟩:=Zek h
 unfold ZbL
 rw[h]
 dsimp only
 rw[ZnE]
 unfold Zpf ZcA
 rw[ZjS h3 h4,Zi4]
 rw[show(decide ((3:Int)<0)||decide ((3:Int) ≥ ((5:Nat):Int)))=false from by decide]
 dsimp only
 rw[decide_eq_true (show b.sum ≥ 0 from h3),ZnV]
theorem ZnW {b:BlkV}(h:ZaN b=false):ZbL b=(z0,3):=by
 unfold ZbL
 rw[h]
def ZpY (kind ZaK:Nat)(c:BlkV):Bool:=(decide ((kind:Int)>0)&&((c.ty:Int)==(kind:Int)))||(((kind:Int)==0)&&((c.num:Int)==(ZaK:Int)))
def Zen (l:List BlkV)(kind ZaK:Nat):Nat:=l.countP (ZpY kind ZaK)
def Zpt (l:List BlkV)(i:Nat)(c:BlkV):Bool:=ZaN c&&(!decide ((Zen l 0 c.num:Int)>1)&&((((c.ty:Int)==1)==((i:Int)==((l.length-1:Nat):Int)))&&(((c.num:Int)==1)==((i:Int)==((l.length-1:Nat):Int)))))
theorem Zpu (n:Nat)(c:BlkV):ZpY 0 n c=decide (c.num=n):=by
 unfold ZpY
 rw[Bool.eq_iff_iff]
 simp
 omega
theorem Zq6 {k:Nat}(hk:0<k)(n:Nat)(c:BlkV):ZpY k n c=decide (c.ty=k):=by
 unfold ZpY
 rw[Bool.eq_iff_iff]
 simp
 omega
theorem Zea {q:BlkV->Bool}:∀ {l:List BlkV},l.Pairwise (fun c d=>¬(q c=true/\q d=true)) ↔ l.countP q<=1
 | []=>by simp
 | c::l=>by
  rw[List.pairwise_cons,Zea (l:=l),List.countP_cons]
  cases hc:q c with
  | false=>simp
  | true=>
   simp only[if_pos]
   constructor
   ·rintro⟨h1,_⟩
    have:l.countP q=0:=List.countP_eq_zero.2 fun d hd h=>h1 d hd ⟨trivial,h⟩
    omega
   ·intro h
    have h0:l.countP q=0:=by omega
    exact⟨fun d hd h2=>List.countP_eq_zero.1 h0 d hd h2.2,by omega⟩
abbrev goB (c d:BlkV):Prop:=c.num ≠ d.num/\(c.ty ≠ d.ty\/Ze5 d.ty=false)
theorem Zi5:∀(l pre:List BlkV),Zl5 pre l=true ↔ ((∀ b ∈ l,ZaN b=true)/\(∀ c ∈ pre,∀ b ∈ l,goB c b)/\l.Pairwise goB)
 | [],pre=>by simp[Zl5]
 | b::r,pre=>by
  rw[Zl5,Bool.and_eq_true,Bool.and_eq_true,Zi5 r (pre++[b]),List.pairwise_cons,List.all_eq_true]
  have hg:∀ c,(c.num != b.num&&(c.ty != b.ty || !Ze5 b.ty))=true ↔ goB c b:=fun c=>by
   simp[goB]
  constructor
  ·rintro⟨h1,h2,h3,h4,h5⟩
   refine⟨fun x hx=>?_,fun c hc x hx=>?_,fun x hx=>h4 b (by simp) x hx,h5⟩
   ·rcases List.mem_cons.1 hx with rfl|hx
    ·exact h1
    ·exact h3 x hx
   ·rcases List.mem_cons.1 hx with rfl|hx
    ·exact(hg c).1 (h2 c hc)
    ·exact h4 c (List.mem_append.2 (.inl hc)) x hx
  ·rintro⟨h1,h2,h3,h4⟩
   refine⟨h1 b (by simp),fun c hc=>(hg c).2 (h2 c hc b (by simp)),fun x hx=>h1 x (by simp[hx]),fun c hc x hx=>?_,h4⟩
   rcases List.mem_append.1 hc with hc|hc
   ·exact h2 c hc x (by simp[hx])
   ·simp at hc;subst hc;exact h3 x hx
structure FitD (l:List BlkV):Prop where
 one:1<=l.length
 few:l.length<=8
 ok:∀ i c,l[i]?=some c->Zpt l i c=true
 c6:Zen l 6 0<=1
 c7:Zen l 7 0<=1
 c10:Zen l 10 0<=1
theorem ZdJ {l:List BlkV}{i:Nat}{c:BlkV}:Zpt l i c=true ↔ ZaN c=true/\l.countP (fun d=>decide (d.num=c.num))<=1/\(c.ty=1 ↔ i=l.length-1)/\(c.num=1 ↔ i=l.length-1):=by
 have e:Zen l 0 c.num=l.countP (fun d=>decide (d.num=c.num)):=by
  unfold Zen
  congr 1
  funext d
  exact Zpu _ _
 unfold Zpt
 rw[e]
 have hb:∀ a b c d:Int,((a==b)=(c==d)) ↔ (a=b ↔ c=d):=fun a b c d=>by rw[Bool.eq_iff_iff,beq_iff_eq,beq_iff_eq]
 simp only[Bool.and_eq_true,Bool.not_eq_true',decide_eq_false_iff_not,beq_iff_eq]
 rw[hb,hb]
 constructor
 ·rintro⟨h1,h2,h3,h4⟩
  exact⟨h1,by omega,by omega,by omega⟩
 ·rintro⟨h1,h2,h3,h4⟩
  exact⟨h1,by omega,by omega,by omega⟩
theorem Zk5 {l:List BlkV}{k:Nat}(hk:0<k):Zen l k 0=l.countP (fun d=>decide (d.ty=k)):=by
 unfold Zen
 congr 1
 funext d
 exact Zq6 hk _ _
theorem ZnX (k:Nat):Ze5 k=true ↔ k=1\/k=6\/k=7\/k=10:=by
 unfold Ze5
 simp
theorem Zq7 (l:List BlkV):ZqU l=true ↔ FitD l:=by
 have hlast:l.getLast? = l[l.length-1]? := List.getLast?_eq_getElem? ..
 unfold ZqU
 rw[hlast]
 cases hb:l[l.length-1]? with
 | none=>
  simp only[Bool.false_eq_true,false_iff]
  intro h
  have:=h.one
  have h2:=List.getElem?_eq_none_iff.1 hb
  omega
 | some b=>
  have hlt:l.length-1<l.length:=by
   rcases Nat.lt_or_ge (l.length-1) l.length with h|h
   ·exact h
   ·rw[List.getElem?_eq_none h]at hb;cases hb
  dsimp only
  rw[Bool.and_eq_true,Bool.and_eq_true,Bool.and_eq_true,decide_eq_true_eq,beq_iff_eq,beq_iff_eq,Zi5]
  constructor
  ·rintro⟨h8,ht,hn,hr,_,hp⟩
   have hpi:=List.pairwise_iff_getElem.1 hp
   have hnum:l.Pairwise (fun c d=>c.num ≠ d.num):=hp.imp fun h=>h.1
   have hty:∀ k,Ze5 k=true->l.countP (fun d=>decide (d.ty=k))<=1:=fun k hk=>Zea.1 (hp.imp fun {c d} h=>by
    rintro⟨h1,h2⟩
    have h1:=of_decide_eq_true h1
    have h2:=of_decide_eq_true h2
    rcases h.2 with h|h
    ·exact h (by rw[h1,h2])
    ·rw[h2,hk]at h;cases h)
   refine⟨by omega,h8,fun i c hc=>?_,?_,?_,?_⟩
   ·obtain⟨hi,hci⟩:=List.getElem?_eq_some_iff.1 hc
    obtain⟨_,hbi⟩:=List.getElem?_eq_some_iff.1 hb
    have hlast:i<l.length-1->goB c b:=fun h=>by
     have:=hpi i (l.length-1) hi hlt h
     rw[hci,hbi]at this
     exact this
    refine ZdJ.2 ⟨hr c (List.mem_of_getElem? hc),Zea.1 (hnum.imp fun {x y} h=>?_),?_,?_⟩
    ·rintro⟨h1,h2⟩
     exact h ((of_decide_eq_true h1).trans (of_decide_eq_true h2).symm)
    ·constructor
     ·intro h1
      rcases Nat.lt_or_ge i (l.length-1) with h|h
      ·rcases(hlast h).2 with h2|h2
       ·exact absurd (h1.trans ht.symm) h2
       ·rw[ht]at h2;cases h2
      ·omega
     ·rintro rfl
      rw[hb]at hc
      cases hc
      exact ht
    ·constructor
     ·intro h1
      rcases Nat.lt_or_ge i (l.length-1) with h|h
      ·exact absurd (h1.trans hn.symm) (hlast h).1
      ·omega
     ·rintro rfl
      rw[hb]at hc
      cases hc
      exact hn
   ·rw[Zk5 (by omega)];exact hty 6 rfl
   ·rw[Zk5 (by omega)];exact hty 7 rfl
   ·rw[Zk5 (by omega)];exact hty 10 rfl
  ·intro h
   have hb2:=ZdJ.1 (h.ok _ _ hb)
   have hall:∀ c ∈ l,ZaN c=true/\l.countP (fun d=>decide (d.num=c.num))<=1:=fun c hc=>by
    obtain⟨i,hi⟩:=List.getElem?_of_mem hc
    have:=ZdJ.1 (h.ok i c hi)
    exact⟨this.1,this.2.1⟩
   refine⟨h.few,hb2.2.2.1.2 rfl,hb2.2.2.2.2 rfl,fun c hc=>(hall c hc).1,fun c hc=>by simp at hc,?_⟩
   rw[List.pairwise_iff_getElem]
   intro i j hi hj hij
   have oi:=ZdJ.1 (h.ok i _ (List.getElem?_eq_getElem hi))
   have oj:=ZdJ.1 (h.ok j _ (List.getElem?_eq_getElem hj))
   refine⟨fun e=>?_,?_⟩
   ·have:=Zea.2 oj.2.1
    rw[List.pairwise_iff_getElem]at this
    exact this i j hi hj hij ⟨decide_eq_true e,decide_eq_true rfl⟩
   ·cases ha:Ze5 (l[j]).ty with
    | false=>exact .inr rfl
    | true=>
     left
     intro e
     have hk:∀ k,Zen l k 0<=1->0<k->(l[j]).ty=k->False:=fun k hc h0 hk=>by
      rw[Zk5 h0]at hc
      have:=Zea.2 hc
      rw[List.pairwise_iff_getElem]at this
      exact this i j hi hj hij ⟨decide_eq_true (e.trans hk),decide_eq_true hk⟩
     rcases(ZnX _).1 ha with h1|h1|h1|h1
     ·have:=oi.2.2.1.1 (e.trans h1)
      omega
     ·exact hk 6 h.c6 (by omega) h1
     ·exact hk 7 h.c7 (by omega) h1
     ·exact hk 10 h.c10 (by omega) h1
def Zjf (p:PriV)(l:List BlkV):List UInt8:=159::(ZaZ (ZcL p)++ZaX (l.map ZcA))
def Zep (b:BunV):List UInt8 × Bool:=match Zbw b with
 | true=>(Zjf b.p b.bl++[255],true)
 | false=>([],false)
theorem ZnY (b:BunV):Zgv b=true ↔ Zbt b.p=true/\∀ c ∈ b.bl,ZaN c=true:=by
 unfold Zgv
 rw[Bool.and_eq_true,List.all_eq_true,beq_iff_eq]
 have hp:(Zcy b.p).2=0 ↔ Zbt b.p=true:=by
  cases h:Zbt b.p with
  | true=>rw[ZgC h];simp
  | false=>unfold Zcy;rw[h];simp
 have hb:∀ c,((ZbL c).2==0)=true ↔ ZaN c=true:=fun c=>by
  cases h:ZaN c with
  | true=>rw[ZhW h];simp
  | false=>rw[ZnW h];simp
 rw[hp]
 exact⟨fun h=>⟨h.1,fun c hc=>(hb c).1 (h.2 c hc)⟩,fun h=>⟨h.1,fun c hc=>(hb c).2 (h.2 c hc)⟩⟩
theorem ZnZ {b:BunV}(hp:Zbt b.p=true)(hb:∀ c ∈ b.bl,ZaN c=true):ZaX (Zd5 b)=ZaZ (ZcL b.p)++ZaX (b.bl.map ZcA):=by
 unfold Zd5
 rw[ZaX,ZgC hp]
 have:(b.bl.map fun c=>(ZbL c).1)=b.bl.map ZcA:=List.map_congr_left fun c hc=>by rw[ZhW (hb c hc)]
 rw[this]
theorem ZgL (b:BunV):Zbw b=true ↔ FitD b.bl/\Zbt b.p=true/\(Zjf b.p b.bl).length<=599:=by
 unfold Zbw
 rw[Bool.and_eq_true,Bool.and_eq_true,Zq7,ZnY,decide_eq_true_eq]
 constructor
 ·rintro⟨h1,⟨h2,h3⟩,h4⟩
  rw[ZnZ h2 h3]at h4
  exact⟨h1,h2,by unfold Zjf;rw[List.length_cons];omega⟩
 ·rintro⟨h1,h2,h4⟩
  have h3:∀ c ∈ b.bl,ZaN c=true:=fun c hc=>by
   obtain⟨i,hi⟩:=List.getElem?_of_mem hc
   exact(ZdJ.1 (h1.ok i c hi)).1
  refine⟨h1,⟨h2,h3⟩,?_⟩
  rw[ZnZ h2 h3]
  unfold Zjf at h4
  rw[List.length_cons]at h4
  omega
theorem Zn0 {b:BunV}(h:¬ (FitD b.bl/\Zbt b.p=true/\(Zjf b.p b.bl).length<=599)):Zep b=([],false):=by
 have:Zbw b=false:=by
  cases hr:Zbw b with
  | false=>rfl
  | true=>exact absurd ((ZgL b).1 hr) h
 unfold Zep
 rw[this]
theorem ZlN {b:BunV}(h:FitD b.bl/\Zbt b.p=true/\(Zjf b.p b.bl).length<=599):Zep b=(Zjf b.p b.bl++[255],true):=by
 unfold Zep
 rw[(ZgL b).2 h]
theorem Zse [Known](x:EidV)(t q:Nat):AP Tryz.prog 58 [.agg (iC x t q)] (.agg (iC x t q)) []:=by
 have hE:=ZnJ x
 obtain⟨xi,xn,xs,xh,xd⟩:=x
 refine AP.ofA (Zam Tryz.func58 U Tryz.ntmps58 U U ?_)
 repeat'(first|(apply Zaa (hE);kernel_rfl;(iterate 4 exact U))|(apply Zai Zab;exact U)|(apply Zag Zab;exact U)|(apply Zao 7 ZaQ;decide +kernel;kernel_rfl;kernel_rfl;kernel_rfl;exact U;exact U)|(apply Zas;(iterate 4 exact U))|exact AE.nil _ _ _ _|(apply Zaw;exact U)|(apply Zay;exact U;exact U;decide +kernel;exact U)|(apply Zaz;exact U)|exact AO.nil _ _ _|(apply Zar;(decide +kernel))|exact AOs.nil|exact ZaJ rfl rfl)
 all_goals exact Qe
theorem Zsf [Known](p:PriV):AP Tryz.prog 15 [.agg (prC p)] (.agg (prC p)) []:=by
 have hD:=ZnJ p.dest
 have hR:=ZnJ p.rep
 have hI:=Zse p.src p.t p.q
 obtain⟨fl,sum,⟨di,dn,ds,dh,dd⟩,⟨ri,rn,rs,rh,rd⟩,⟨xi,xn,xs,xh,xd⟩,t,q,life⟩:=p
 refine AP.ofA (Zam Tryz.func15 U Tryz.ntmps15 U U ?_)
 repeat'(first|(apply Zaa (hD);kernel_rfl;(iterate 4 exact U))|(apply Zaa (hR);kernel_rfl;(iterate 4 exact U))|(apply Zaa (hI);kernel_rfl;(iterate 4 exact U))|(apply Zai Zab;exact U)|(apply Zag Zab;exact U)|(apply Zao 15 ZaQ;decide +kernel;kernel_rfl;kernel_rfl;kernel_rfl;exact U;exact U)|(apply Zas;(iterate 4 exact U))|exact AE.nil _ _ _ _|(apply Zaw;exact U)|(apply Zay;exact U;exact U;decide +kernel;exact U)|(apply Zaz;exact U)|exact AO.nil _ _ _|(apply Zar;(decide +kernel))|exact AOs.nil|exact ZaJ rfl rfl)
 all_goals exact Qe
end Go.Proofs.YtakblclkflnnpaaGreatDoor
end
