/- The document's blocks: which may be (dkgen.py). -/
import Derived.Test.YtakblclkflnnpaaGreatDoorK34
import Derived.Test.YtakblclkflnnpaaGreatDoorK36
import Derived.Test.YtakblclkflnnpaaGreatDoorK23
set_option linter.unusedVariables false
set_option linter.unusedSimpArgs false
section
open Go.RowKit Go.Pl Go.Av
namespace Go.Proofs.YtakblclkflnnpaaGreatDoor
set_option maxHeartbeats 4000000
theorem Zru [Known](ty num fl F:Nat)(sum:Int)(d:List UInt8)(g:Bool)(hg:decide ((fl:Int) ≥ 16)=g)(hF:g=false->fl=F)(hw:g=true->IntKind.u64.wrap ((fl:Int)-16)=(F:Int))(t0:decide ((ty:Int)<1)=true) :
  AP Tryz.prog 30 [.agg [.int .u64 (ty:Int),.int .u64 (num:Int),.int .u64 (fl:Int),.int .i64 sum,byE d]] (.bool false) []:=by
 cases g with
 | false=>
  obtain rfl:=hF rfl
  clear hw hF
  refine AP.ofA ?_
  refine Zan Tryz.func30 rfl Tryz.ntmps30 rfl rfl ?_
  repeat'(first|(apply Zaj Zab;exact Z)|(apply Zah Zab;exact Z)|(apply Zav Zab;exact Z)|(apply Zal;(iterate 3 exact Z);exact Go.ZrJ)|(apply Zak;exact Z;exact Go.ZrJ;exact Z;exact Z)|(apply Zac;exact Z;exact Go.ZrJ)|(apply Zaf;exact Z;exact Go.ZrJ))
  all_goals(apply Zaw [];(apply Zad Zab;exact Z);(iterate 4 exact Z))
  all_goals rfl
 | true=>
  have hw:=hw rfl
  clear hF
  refine AP.ofA ?_
  refine Zan Tryz.func30 rfl Tryz.ntmps30 rfl rfl ?_
  repeat'(first|rw[hw]|(apply Zaj Zab;exact Z)|(apply Zah Zab;exact Z)|(apply Zav Zab;exact Z)|(apply Zal;(iterate 3 exact Z);exact Go.ZrJ)|(apply Zak;exact Z;exact Go.ZrJ;exact Z;exact Z)|(apply Zac;exact Z;exact Go.ZrJ))
  all_goals(apply Zaw [];(apply Zad Zab;exact Z);(iterate 4 exact Z))
  all_goals rfl
theorem Zrv [Known](ty num fl F:Nat)(sum:Int)(d:List UInt8)(g:Bool)(hg:decide ((fl:Int) ≥ 16)=g)(hF:g=false->fl=F)(hw:g=true->IntKind.u64.wrap ((fl:Int)-16)=(F:Int))(t0:decide ((ty:Int)<1)=false)(t1:decide ((ty:Int)>255)=true) :
  AP Tryz.prog 30 [.agg [.int .u64 (ty:Int),.int .u64 (num:Int),.int .u64 (fl:Int),.int .i64 sum,byE d]] (.bool false) []:=by
 cases g with
 | false=>
  obtain rfl:=hF rfl
  clear hw hF
  refine AP.ofA ?_
  refine Zan Tryz.func30 rfl Tryz.ntmps30 rfl rfl ?_
  repeat'(first|(apply Zaj Zab;exact Z)|(apply Zah Zab;exact Z)|(apply Zav Zab;exact Z)|(apply Zae;(iterate 3 exact Z);exact Go.ZrJ)|(apply Zal;(iterate 3 exact Z);exact Go.ZrJ)|(apply Zak;exact Z;exact Go.ZrJ;exact Z;exact Z)|(apply Zag;exact Z;exact Go.ZrJ;exact Z;exact Z)|(apply Zac;exact Z;exact Go.ZrJ)|(apply Zaf;exact Z;exact Go.ZrJ))
  all_goals(apply Zaw [];(apply Zad Zab;exact Z);(iterate 4 exact Z))
  all_goals rfl
 | true=>
  have hw:=hw rfl
  clear hF
  refine AP.ofA ?_
  refine Zan Tryz.func30 rfl Tryz.ntmps30 rfl rfl ?_
  repeat'(first|rw[hw]|(apply Zaj Zab;exact Z)|(apply Zah Zab;exact Z)|(apply Zav Zab;exact Z)|(apply Zae;(iterate 3 exact Z);exact Go.ZrJ)|(apply Zal;(iterate 3 exact Z);exact Go.ZrJ)|(apply Zak;exact Z;exact Go.ZrJ;exact Z;exact Z)|(apply Zag;exact Z;exact Go.ZrJ;exact Z;exact Z)|(apply Zac;exact Z;exact Go.ZrJ))
  all_goals(apply Zaw [];(apply Zad Zab;exact Z);(iterate 4 exact Z))
  all_goals rfl
theorem Zrw [Known](ty num fl F:Nat)(sum:Int)(d:List UInt8)(g:Bool)(hg:decide ((fl:Int) ≥ 16)=g)(hF:g=false->fl=F)(hw:g=true->IntKind.u64.wrap ((fl:Int)-16)=(F:Int))(t0:decide ((ty:Int)<1)=false)(t1:decide ((ty:Int)>255)=false)(t2:decide ((num:Int)<1)=true) :
  AP Tryz.prog 30 [.agg [.int .u64 (ty:Int),.int .u64 (num:Int),.int .u64 (fl:Int),.int .i64 sum,byE d]] (.bool false) []:=by
 cases g with
 | false=>
  obtain rfl:=hF rfl
  clear hw hF
  refine AP.ofA ?_
  refine Zan Tryz.func30 rfl Tryz.ntmps30 rfl rfl ?_
  repeat'(first|(apply Zaj Zab;exact Z)|(apply Zah Zab;exact Z)|(apply Zav Zab;exact Z)|(apply Zae;(iterate 3 exact Z);exact Go.ZrJ)|(apply Zal;(iterate 3 exact Z);exact Go.ZrJ)|(apply Zak;exact Z;exact Go.ZrJ;exact Z;exact Z)|(apply Zag;exact Z;exact Go.ZrJ;exact Z;exact Z)|(apply Zac;exact Z;exact Go.ZrJ)|(apply Zaf;exact Z;exact Go.ZrJ))
  all_goals(apply Zaw [];(apply Zad Zab;exact Z);(iterate 4 exact Z))
  all_goals rfl
 | true=>
  have hw:=hw rfl
  clear hF
  refine AP.ofA ?_
  refine Zan Tryz.func30 rfl Tryz.ntmps30 rfl rfl ?_
  repeat'(first|rw[hw]|(apply Zaj Zab;exact Z)|(apply Zah Zab;exact Z)|(apply Zav Zab;exact Z)|(apply Zae;(iterate 3 exact Z);exact Go.ZrJ)|(apply Zal;(iterate 3 exact Z);exact Go.ZrJ)|(apply Zak;exact Z;exact Go.ZrJ;exact Z;exact Z)|(apply Zag;exact Z;exact Go.ZrJ;exact Z;exact Z)|(apply Zac;exact Z;exact Go.ZrJ))
  all_goals(apply Zaw [];(apply Zad Zab;exact Z);(iterate 4 exact Z))
  all_goals rfl
theorem Zrx [Known](ty num fl F:Nat)(sum:Int)(d:List UInt8)(g:Bool)(hg:decide ((fl:Int) ≥ 16)=g)(hF:g=false->fl=F)(hw:g=true->IntKind.u64.wrap ((fl:Int)-16)=(F:Int))(t0:decide ((ty:Int)<1)=false)(t1:decide ((ty:Int)>255)=false)(t2:decide ((num:Int)<1)=false)(t3:decide ((num:Int)>255)=true) :
  AP Tryz.prog 30 [.agg [.int .u64 (ty:Int),.int .u64 (num:Int),.int .u64 (fl:Int),.int .i64 sum,byE d]] (.bool false) []:=by
 cases g with
 | false=>
  obtain rfl:=hF rfl
  clear hw hF
  refine AP.ofA ?_
  refine Zan Tryz.func30 rfl Tryz.ntmps30 rfl rfl ?_
  repeat'(first|(apply Zaj Zab;exact Z)|(apply Zah Zab;exact Z)|(apply Zav Zab;exact Z)|(apply Zae;(iterate 3 exact Z);exact Go.ZrJ)|(apply Zal;(iterate 3 exact Z);exact Go.ZrJ)|(apply Zak;exact Z;exact Go.ZrJ;exact Z;exact Z)|(apply Zag;exact Z;exact Go.ZrJ;exact Z;exact Z)|(apply Zac;exact Z;exact Go.ZrJ)|(apply Zaf;exact Z;exact Go.ZrJ))
  all_goals(apply Zaw [];(apply Zad Zab;exact Z);(iterate 4 exact Z))
  all_goals rfl
 | true=>
  have hw:=hw rfl
  clear hF
  refine AP.ofA ?_
  refine Zan Tryz.func30 rfl Tryz.ntmps30 rfl rfl ?_
  repeat'(first|rw[hw]|(apply Zaj Zab;exact Z)|(apply Zah Zab;exact Z)|(apply Zav Zab;exact Z)|(apply Zae;(iterate 3 exact Z);exact Go.ZrJ)|(apply Zal;(iterate 3 exact Z);exact Go.ZrJ)|(apply Zak;exact Z;exact Go.ZrJ;exact Z;exact Z)|(apply Zag;exact Z;exact Go.ZrJ;exact Z;exact Z)|(apply Zac;exact Z;exact Go.ZrJ))
  all_goals(apply Zaw [];(apply Zad Zab;exact Z);(iterate 4 exact Z))
  all_goals rfl
theorem Zry [Known](ty num fl F:Nat)(sum:Int)(d:List UInt8)(g:Bool)(hg:decide ((fl:Int) ≥ 16)=g)(hF:g=false->fl=F)(hw:g=true->IntKind.u64.wrap ((fl:Int)-16)=(F:Int))(t0:decide ((ty:Int)<1)=false)(t1:decide ((ty:Int)>255)=false)(t2:decide ((num:Int)<1)=false)(t3:decide ((num:Int)>255)=false)(t4:decide ((F:Int)>7)=true) :
  AP Tryz.prog 30 [.agg [.int .u64 (ty:Int),.int .u64 (num:Int),.int .u64 (fl:Int),.int .i64 sum,byE d]] (.bool false) []:=by
 cases g with
 | false=>
  obtain rfl:=hF rfl
  clear hw hF
  refine AP.ofA ?_
  refine Zan Tryz.func30 rfl Tryz.ntmps30 rfl rfl ?_
  repeat'(first|(apply Zaj Zab;exact Z)|(apply Zah Zab;exact Z)|(apply Zav Zab;exact Z)|(apply Zae;(iterate 3 exact Z);exact Go.ZrJ)|(apply Zal;(iterate 3 exact Z);exact Go.ZrJ)|(apply Zak;exact Z;exact Go.ZrJ;exact Z;exact Z)|(apply Zag;exact Z;exact Go.ZrJ;exact Z;exact Z)|(apply Zac;exact Z;exact Go.ZrJ)|(apply Zaf;exact Z;exact Go.ZrJ))
  all_goals(apply Zaw [];(apply Zad Zab;exact Z);(iterate 4 exact Z))
  all_goals rfl
 | true=>
  have hw:=hw rfl
  clear hF
  refine AP.ofA ?_
  refine Zan Tryz.func30 rfl Tryz.ntmps30 rfl rfl ?_
  repeat'(first|rw[hw]|(apply Zaj Zab;exact Z)|(apply Zah Zab;exact Z)|(apply Zav Zab;exact Z)|(apply Zae;(iterate 3 exact Z);exact Go.ZrJ)|(apply Zal;(iterate 3 exact Z);exact Go.ZrJ)|(apply Zak;exact Z;exact Go.ZrJ;exact Z;exact Z)|(apply Zag;exact Z;exact Go.ZrJ;exact Z;exact Z)|(apply Zac;exact Z;exact Go.ZrJ))
  all_goals(apply Zaw [];(apply Zad Zab;exact Z);(iterate 4 exact Z))
  all_goals rfl
theorem Zrz [Known](ty num fl F:Nat)(sum:Int)(d:List UInt8)(g:Bool)(hg:decide ((fl:Int) ≥ 16)=g)(hF:g=false->fl=F)(hw:g=true->IntKind.u64.wrap ((fl:Int)-16)=(F:Int))(t0:decide ((ty:Int)<1)=false)(t1:decide ((ty:Int)>255)=false)(t2:decide ((num:Int)<1)=false)(t3:decide ((num:Int)>255)=false)(t4:decide ((F:Int)>7)=false)(t5:decide (sum<0)=true) :
  AP Tryz.prog 30 [.agg [.int .u64 (ty:Int),.int .u64 (num:Int),.int .u64 (fl:Int),.int .i64 sum,byE d]] (.bool false) []:=by
 cases g with
 | false=>
  obtain rfl:=hF rfl
  clear hw hF
  refine AP.ofA ?_
  refine Zan Tryz.func30 rfl Tryz.ntmps30 rfl rfl ?_
  repeat'(first|(apply Zaj Zab;exact Z)|(apply Zah Zab;exact Z)|(apply Zav Zab;exact Z)|(apply Zae;(iterate 3 exact Z);exact Go.ZrJ)|(apply Zal;(iterate 3 exact Z);exact Go.ZrJ)|(apply Zak;exact Z;exact Go.ZrJ;exact Z;exact Z)|(apply Zag;exact Z;exact Go.ZrJ;exact Z;exact Z)|(apply Zac;exact Z;exact Go.ZrJ)|(apply Zaf;exact Z;exact Go.ZrJ))
  all_goals(apply Zaw [];(apply Zad Zab;exact Z);(iterate 4 exact Z))
  all_goals rfl
 | true=>
  have hw:=hw rfl
  clear hF
  refine AP.ofA ?_
  refine Zan Tryz.func30 rfl Tryz.ntmps30 rfl rfl ?_
  repeat'(first|rw[hw]|(apply Zaj Zab;exact Z)|(apply Zah Zab;exact Z)|(apply Zav Zab;exact Z)|(apply Zae;(iterate 3 exact Z);exact Go.ZrJ)|(apply Zal;(iterate 3 exact Z);exact Go.ZrJ)|(apply Zak;exact Z;exact Go.ZrJ;exact Z;exact Z)|(apply Zag;exact Z;exact Go.ZrJ;exact Z;exact Z)|(apply Zac;exact Z;exact Go.ZrJ))
  all_goals(apply Zaw [];(apply Zad Zab;exact Z);(iterate 4 exact Z))
  all_goals rfl
theorem ZrA [Known](ty num fl F:Nat)(sum:Int)(d:List UInt8)(g:Bool)(hg:decide ((fl:Int) ≥ 16)=g)(hF:g=false->fl=F)(hw:g=true->IntKind.u64.wrap ((fl:Int)-16)=(F:Int))(t0:decide ((ty:Int)<1)=false)(t1:decide ((ty:Int)>255)=false)(t2:decide ((num:Int)<1)=false)(t3:decide ((num:Int)>255)=false)(t4:decide ((F:Int)>7)=false)(t5:decide (sum<0)=false)(t6:decide (sum>2)=true) :
  AP Tryz.prog 30 [.agg [.int .u64 (ty:Int),.int .u64 (num:Int),.int .u64 (fl:Int),.int .i64 sum,byE d]] (.bool false) []:=by
 cases g with
 | false=>
  obtain rfl:=hF rfl
  clear hw hF
  refine AP.ofA ?_
  refine Zan Tryz.func30 rfl Tryz.ntmps30 rfl rfl ?_
  repeat'(first|(apply Zaj Zab;exact Z)|(apply Zah Zab;exact Z)|(apply Zav Zab;exact Z)|(apply Zae;(iterate 3 exact Z);exact Go.ZrJ)|(apply Zal;(iterate 3 exact Z);exact Go.ZrJ)|(apply Zak;exact Z;exact Go.ZrJ;exact Z;exact Z)|(apply Zag;exact Z;exact Go.ZrJ;exact Z;exact Z)|(apply Zac;exact Z;exact Go.ZrJ)|(apply Zaf;exact Z;exact Go.ZrJ))
  all_goals(apply Zaw [];(apply Zad Zab;exact Z);(iterate 4 exact Z))
  all_goals rfl
 | true=>
  have hw:=hw rfl
  clear hF
  refine AP.ofA ?_
  refine Zan Tryz.func30 rfl Tryz.ntmps30 rfl rfl ?_
  repeat'(first|rw[hw]|(apply Zaj Zab;exact Z)|(apply Zah Zab;exact Z)|(apply Zav Zab;exact Z)|(apply Zae;(iterate 3 exact Z);exact Go.ZrJ)|(apply Zal;(iterate 3 exact Z);exact Go.ZrJ)|(apply Zak;exact Z;exact Go.ZrJ;exact Z;exact Z)|(apply Zag;exact Z;exact Go.ZrJ;exact Z;exact Z)|(apply Zac;exact Z;exact Go.ZrJ))
  all_goals(apply Zaw [];(apply Zad Zab;exact Z);(iterate 4 exact Z))
  all_goals rfl
theorem ZrB [Known](ty num fl F:Nat)(sum:Int)(d:List UInt8)(g:Bool)(hg:decide ((fl:Int) ≥ 16)=g)(hF:g=false->fl=F)(hw:g=true->IntKind.u64.wrap ((fl:Int)-16)=(F:Int))(t0:decide ((ty:Int)<1)=false)(t1:decide ((ty:Int)>255)=false)(t2:decide ((num:Int)<1)=false)(t3:decide ((num:Int)>255)=false)(t4:decide ((F:Int)>7)=false)(t5:decide (sum<0)=false)(t6:decide (sum>2)=false)(t7:decide (((d.map E.byte).length:Int)>200)=true) :
  AP Tryz.prog 30 [.agg [.int .u64 (ty:Int),.int .u64 (num:Int),.int .u64 (fl:Int),.int .i64 sum,byE d]] (.bool false) []:=by
 cases g with
 | false=>
  obtain rfl:=hF rfl
  clear hw hF
  refine AP.ofA ?_
  refine Zan Tryz.func30 rfl Tryz.ntmps30 rfl rfl ?_
  repeat'(first|(apply Zaj Zab;exact Z)|(apply Zah Zab;exact Z)|(apply Zav Zab;exact Z)|(apply Zae;(iterate 3 exact Z);exact Go.ZrJ)|(apply Zag;exact Z;exact Go.ZrJ;exact Z;exact Z)|(apply Zac;exact Z;exact Go.ZrJ)|(apply Zaf;exact Z;exact Go.ZrJ)|(apply Zam Zab;(iterate 4 exact Z)))
  all_goals(apply Zaw [];(apply Zad Zab;exact Z);(iterate 4 exact Z))
  all_goals rfl
 | true=>
  have hw:=hw rfl
  clear hF
  refine AP.ofA ?_
  refine Zan Tryz.func30 rfl Tryz.ntmps30 rfl rfl ?_
  repeat'(first|rw[hw]|(apply Zaj Zab;exact Z)|(apply Zah Zab;exact Z)|(apply Zav Zab;exact Z)|(apply Zae;(iterate 3 exact Z);exact Go.ZrJ)|(apply Zag;exact Z;exact Go.ZrJ;exact Z;exact Z)|(apply Zac;exact Z;exact Go.ZrJ)|(apply Zam Zab;(iterate 4 exact Z)))
  all_goals(apply Zaw [];(apply Zad Zab;exact Z);(iterate 4 exact Z))
  all_goals rfl
theorem ZqA [Known](ty num fl F:Nat)(sum:Int)(d:List UInt8)(g:Bool)(zi ok:Bool)(zn zs:Nat)(zh zd:List UInt8)(hg:decide ((fl:Int) ≥ 16)=g)(hF:g=false->fl=F)(hw:g=true->IntKind.u64.wrap ((fl:Int)-16)=(F:Int))(t0:decide ((ty:Int)<1)=false)(t1:decide ((ty:Int)>255)=false)(t2:decide ((num:Int)<1)=false)(t3:decide ((num:Int)>255)=false)(t4:decide ((F:Int)>7)=false)(t5:decide (sum<0)=false)(t6:decide (sum>2)=false)(t7:decide (((d.map E.byte).length:Int)>200)=false)(u6:((ty:Int)==6)=true)(u7:((ty:Int)==7)=false)(u10:((ty:Int)==10)=false)(hP:AP Tryz.prog 38 [byE d] (.tup [.agg [.bool zi,.int .u64 (zn:Int),.int .u64 (zs:Int),.str zh,.str zd],.bool ok]) []) :
  AP Tryz.prog 30 [.agg [.int .u64 (ty:Int),.int .u64 (num:Int),.int .u64 (fl:Int),.int .i64 sum,byE d]] (.bool ok) []:=by
 cases g with
 | false=>
  obtain rfl:=hF rfl
  clear hw hF
  refine AP.ofA ?_
  refine Zan Tryz.func30 rfl Tryz.ntmps30 rfl rfl ?_
  repeat'(first|(apply Zaa (hP);kernel_rfl;(iterate 4 exact Z))|(apply Zaj Zab;exact Z)|(apply Zah Zab;exact Z)|(apply Zav Zab;exact Z)|(apply Zae;(iterate 3 exact Z);exact Go.ZrJ)|(apply Zag;exact Z;exact Go.ZrJ;exact Z;exact Z)|(apply Zac;exact Z;exact Go.ZrJ)|(apply Zaf;exact Z;exact Go.ZrJ)|(apply Zam Zab;(iterate 4 exact Z)))
  all_goals(apply Zaw [];(apply Zad Zab;exact Z);(iterate 4 exact Z))
  all_goals rfl
 | true=>
  have hw:=hw rfl
  clear hF
  refine AP.ofA ?_
  refine Zan Tryz.func30 rfl Tryz.ntmps30 rfl rfl ?_
  repeat'(first|rw[hw]|(apply Zaa (hP);kernel_rfl;(iterate 4 exact Z))|(apply Zaj Zab;exact Z)|(apply Zah Zab;exact Z)|(apply Zav Zab;exact Z)|(apply Zae;(iterate 3 exact Z);exact Go.ZrJ)|(apply Zag;exact Z;exact Go.ZrJ;exact Z;exact Z)|(apply Zac;exact Z;exact Go.ZrJ)|(apply Zaf;exact Z;exact Go.ZrJ)|(apply Zam Zab;(iterate 4 exact Z)))
  all_goals(apply Zaw [];(apply Zad Zab;exact Z);(iterate 4 exact Z))
  all_goals rfl
theorem ZqB [Known](ty num fl F:Nat)(sum:Int)(d:List UInt8)(g:Bool)(ok:Bool)(zn:Nat)(hg:decide ((fl:Int) ≥ 16)=g)(hF:g=false->fl=F)(hw:g=true->IntKind.u64.wrap ((fl:Int)-16)=(F:Int))(t0:decide ((ty:Int)<1)=false)(t1:decide ((ty:Int)>255)=false)(t2:decide ((num:Int)<1)=false)(t3:decide ((num:Int)>255)=false)(t4:decide ((F:Int)>7)=false)(t5:decide (sum<0)=false)(t6:decide (sum>2)=false)(t7:decide (((d.map E.byte).length:Int)>200)=false)(u6:((ty:Int)==6)=false)(u7:((ty:Int)==7)=true)(u10:((ty:Int)==10)=false)(hP:AP Tryz.prog 39 [byE d] (.tup [.int .u64 (zn:Int),.bool ok]) []) :
  AP Tryz.prog 30 [.agg [.int .u64 (ty:Int),.int .u64 (num:Int),.int .u64 (fl:Int),.int .i64 sum,byE d]] (.bool ok) []:=by
 cases g with
 | false=>
  obtain rfl:=hF rfl
  clear hw hF
  refine AP.ofA ?_
  refine Zan Tryz.func30 rfl Tryz.ntmps30 rfl rfl ?_
  repeat'(first|(apply Zaa (hP);kernel_rfl;(iterate 4 exact Z))|(apply Zaj Zab;exact Z)|(apply Zah Zab;exact Z)|(apply Zav Zab;exact Z)|(apply Zae;(iterate 3 exact Z);exact Go.ZrJ)|(apply Zag;exact Z;exact Go.ZrJ;exact Z;exact Z)|(apply Zac;exact Z;exact Go.ZrJ)|(apply Zaf;exact Z;exact Go.ZrJ)|(apply Zam Zab;(iterate 4 exact Z)))
  all_goals(apply Zaw [];(apply Zad Zab;exact Z);(iterate 4 exact Z))
  all_goals rfl
 | true=>
  have hw:=hw rfl
  clear hF
  refine AP.ofA ?_
  refine Zan Tryz.func30 rfl Tryz.ntmps30 rfl rfl ?_
  repeat'(first|rw[hw]|(apply Zaa (hP);kernel_rfl;(iterate 4 exact Z))|(apply Zaj Zab;exact Z)|(apply Zah Zab;exact Z)|(apply Zav Zab;exact Z)|(apply Zae;(iterate 3 exact Z);exact Go.ZrJ)|(apply Zag;exact Z;exact Go.ZrJ;exact Z;exact Z)|(apply Zac;exact Z;exact Go.ZrJ)|(apply Zaf;exact Z;exact Go.ZrJ)|(apply Zam Zab;(iterate 4 exact Z)))
  all_goals(apply Zaw [];(apply Zad Zab;exact Z);(iterate 4 exact Z))
  all_goals rfl
theorem ZpN [Known](ty num fl F:Nat)(sum:Int)(d:List UInt8)(g:Bool)(ok:Bool)(zn zm:Nat)(hg:decide ((fl:Int) ≥ 16)=g)(hF:g=false->fl=F)(hw:g=true->IntKind.u64.wrap ((fl:Int)-16)=(F:Int))(t0:decide ((ty:Int)<1)=false)(t1:decide ((ty:Int)>255)=false)(t2:decide ((num:Int)<1)=false)(t3:decide ((num:Int)>255)=false)(t4:decide ((F:Int)>7)=false)(t5:decide (sum<0)=false)(t6:decide (sum>2)=false)(t7:decide (((d.map E.byte).length:Int)>200)=false)(u6:((ty:Int)==6)=false)(u7:((ty:Int)==7)=false)(u10:((ty:Int)==10)=true)(hP:AP Tryz.prog 40 [byE d] (.tup [.int .u64 (zn:Int),.int .u64 (zm:Int),.bool ok]) []) :
  AP Tryz.prog 30 [.agg [.int .u64 (ty:Int),.int .u64 (num:Int),.int .u64 (fl:Int),.int .i64 sum,byE d]] (.bool ok) []:=by
 cases g with
 | false=>
  obtain rfl:=hF rfl
  clear hw hF
  refine AP.ofA ?_
  refine Zan Tryz.func30 rfl Tryz.ntmps30 rfl rfl ?_
  repeat'(first|(apply Zaa (hP);kernel_rfl;(iterate 4 exact Z))|(apply Zaj Zab;exact Z)|(apply Zah Zab;exact Z)|(apply Zav Zab;exact Z)|(apply Zae;(iterate 3 exact Z);exact Go.ZrJ)|(apply Zag;exact Z;exact Go.ZrJ;exact Z;exact Z)|(apply Zac;exact Z;exact Go.ZrJ)|(apply Zaf;exact Z;exact Go.ZrJ)|(apply Zam Zab;(iterate 4 exact Z)))
  all_goals(apply Zaw [];(apply Zad Zab;exact Z);(iterate 4 exact Z))
  all_goals rfl
 | true=>
  have hw:=hw rfl
  clear hF
  refine AP.ofA ?_
  refine Zan Tryz.func30 rfl Tryz.ntmps30 rfl rfl ?_
  repeat'(first|rw[hw]|(apply Zaa (hP);kernel_rfl;(iterate 4 exact Z))|(apply Zaj Zab;exact Z)|(apply Zah Zab;exact Z)|(apply Zav Zab;exact Z)|(apply Zae;(iterate 3 exact Z);exact Go.ZrJ)|(apply Zag;exact Z;exact Go.ZrJ;exact Z;exact Z)|(apply Zac;exact Z;exact Go.ZrJ)|(apply Zaf;exact Z;exact Go.ZrJ)|(apply Zam Zab;(iterate 4 exact Z)))
  all_goals(apply Zaw [];(apply Zad Zab;exact Z);(iterate 4 exact Z))
  all_goals rfl
theorem ZqC [Known](ty num fl F:Nat)(sum:Int)(d:List UInt8)(g:Bool)(hg:decide ((fl:Int) ≥ 16)=g)(hF:g=false->fl=F)(hw:g=true->IntKind.u64.wrap ((fl:Int)-16)=(F:Int))(t0:decide ((ty:Int)<1)=false)(t1:decide ((ty:Int)>255)=false)(t2:decide ((num:Int)<1)=false)(t3:decide ((num:Int)>255)=false)(t4:decide ((F:Int)>7)=false)(t5:decide (sum<0)=false)(t6:decide (sum>2)=false)(t7:decide (((d.map E.byte).length:Int)>200)=false)(u6:((ty:Int)==6)=false)(u7:((ty:Int)==7)=false)(u10:((ty:Int)==10)=false) :
  AP Tryz.prog 30 [.agg [.int .u64 (ty:Int),.int .u64 (num:Int),.int .u64 (fl:Int),.int .i64 sum,byE d]] (.bool true) []:=by
 cases g with
 | false=>
  obtain rfl:=hF rfl
  clear hw hF
  refine AP.ofA ?_
  refine Zan Tryz.func30 rfl Tryz.ntmps30 rfl rfl ?_
  repeat'(first|(apply Zaj Zab;exact Z)|(apply Zah Zab;exact Z)|(apply Zav Zab;exact Z)|(apply Zae;(iterate 3 exact Z);exact Go.ZrJ)|(apply Zag;exact Z;exact Go.ZrJ;exact Z;exact Z)|(apply Zaf;exact Z;exact Go.ZrJ)|(apply Zam Zab;(iterate 4 exact Z)))
  all_goals(apply Zaw [];(apply Zad Zab;exact Z);(iterate 4 exact Z))
  all_goals rfl
 | true=>
  have hw:=hw rfl
  clear hF
  refine AP.ofA ?_
  refine Zan Tryz.func30 rfl Tryz.ntmps30 rfl rfl ?_
  repeat'(first|rw[hw]|(apply Zaj Zab;exact Z)|(apply Zah Zab;exact Z)|(apply Zav Zab;exact Z)|(apply Zae;(iterate 3 exact Z);exact Go.ZrJ)|(apply Zag;exact Z;exact Go.ZrJ;exact Z;exact Z)|(apply Zac;exact Z;exact Go.ZrJ)|(apply Zaf;exact Z;exact Go.ZrJ)|(apply Zam Zab;(iterate 4 exact Z)))
  all_goals(apply Zaw [];(apply Zad Zab;exact Z);(iterate 4 exact Z))
  all_goals rfl
theorem ZqD (fl:Nat)(h:fl<18446744073709551616):(bits .andNot .u64 (fl:Int) 23==0) = !decide (((if fl ≥ 16 then fl-16 else fl:Nat):Int)>7):=by
 rw[show(23:Int)=((23:Nat):Int) from rfl,u64_andNot_nat fl 23 h (by omega)]
 have hs:fl=fl/32*32+fl % 32:=by omega
 rcases Nat.lt_or_ge fl 32 with h1|h1
 ·have:∀ x,x<32->((((x &&& (18446744073709551615-23):Nat):Int))==0) = !decide (((if x ≥ 16 then x-16 else x:Nat):Int)>7):=by decide +kernel
  exact this fl h1
 ·have e1:decide (((if fl ≥ 16 then fl-16 else fl:Nat):Int)>7)=true:=decide_eq_true (by rw[if_pos (by omega)];omega)
  rw[e1]
  have hne:fl &&& (18446744073709551615-23) ≠ 0:=fun e=>by
   have h5:(fl &&& (18446744073709551615-23))/32=fl/32:=by
    have:(18446744073709551615-23:Nat)/32=2 ^ 59-1:=by decide
    rw[show(32:Nat)=2 ^ 5 from rfl,<- Nat.shiftRight_eq_div_pow,Nat.shiftRight_and_distrib,Nat.shiftRight_eq_div_pow,Nat.shiftRight_eq_div_pow]
    rw[show(18446744073709551615-23:Nat)/2 ^ 5=2 ^ 59-1 from by decide,Nat.and_two_pow_sub_one_eq_mod,Nat.mod_eq_of_lt (by omega)]
   rw[e]at h5
   omega
  simpa using hne
theorem Zh1 [Known][KnownU8](b:BlkV)(hfl:b.fl<18446744073709551616)(hd:b.data.length<=100000):AP Tryz.prog 30 [.agg (bkC b)] (.bool (Zbh b)) []:=by
 have hP:=Znr b.data hd
 have hA:=ZoR b.data hd
 have hH:=Zns b.data hd
 have hk:=ZqD b.fl hfl
 obtain⟨ty,num,fl,sum,d⟩:=b
 dsimp only at *
 unfold Zbh ZiO ZoU Zie
 dsimp only
 rw[hk]
 have hdl:(d.map E.byte).length=d.length:=List.length_map ..
 generalize hF:(if fl ≥ 16 then fl-16 else fl)=F at *
 have hg1:decide ((fl:Int) ≥ 16)=false->fl=F:=fun h=>by
  have:=of_decide_eq_false h
  rw[<- hF,if_neg (by omega)]
 have hg2:decide ((fl:Int) ≥ 16)=true->IntKind.u64.wrap ((fl:Int)-16)=(F:Int):=fun h=>by
  have:=of_decide_eq_true h
  rw[<- hF,if_pos (by omega),IntKind.wrap_u64]
  omega
 rw[<- hdl]
 cases t0:decide ((ty:Int)<1) with
 | true=>
  have h:=Zru ty num fl F sum d _ rfl hg1 hg2 t0
  simpa[bne]using h
 | false=>
 cases t1:decide ((ty:Int)>255) with
 | true=>
  have h:=Zrv ty num fl F sum d _ rfl hg1 hg2 t0 t1
  simpa[bne]using h
 | false=>
 cases t2:decide ((num:Int)<1) with
 | true=>
  have h:=Zrw ty num fl F sum d _ rfl hg1 hg2 t0 t1 t2
  simpa[bne]using h
 | false=>
 cases t3:decide ((num:Int)>255) with
 | true=>
  have h:=Zrx ty num fl F sum d _ rfl hg1 hg2 t0 t1 t2 t3
  simpa[bne]using h
 | false=>
 cases t4:decide ((F:Int)>7) with
 | true=>
  have h:=Zry ty num fl F sum d _ rfl hg1 hg2 t0 t1 t2 t3 t4
  simpa[bne]using h
 | false=>
 cases t5:decide (sum<0) with
 | true=>
  have c5:decide (sum ≥ 0)=false:=decide_eq_false (by have:=of_decide_eq_true t5;omega)
  have h:=Zrz ty num fl F sum d _ rfl hg1 hg2 t0 t1 t2 t3 t4 t5
  simpa[c5]using h
 | false=>
 cases t6:decide (sum>2) with
 | true=>
  have c6:decide (sum<=2)=false:=decide_eq_false (by have:=of_decide_eq_true t6;omega)
  have h:=ZrA ty num fl F sum d _ rfl hg1 hg2 t0 t1 t2 t3 t4 t5 t6
  simpa[c6]using h
 | false=>
 cases t7:decide (((d.map E.byte).length:Int)>200) with
 | true=>
  have c7:decide ((d.length:Int)<=200)=false:=decide_eq_false (by have:=of_decide_eq_true t7;rw[hdl]at this;omega)
  have h:=ZrB ty num fl F sum d _ rfl hg1 hg2 t0 t1 t2 t3 t4 t5 t6 t7
  simpa[c7]using h
 | false=>
 have c5:decide (sum ≥ 0)=true:=decide_eq_true (by have:=of_decide_eq_false t5;omega)
 have c6:decide (sum<=2)=true:=decide_eq_true (by have:=of_decide_eq_false t6;omega)
 have c7:decide (((d.map E.byte).length:Int)<=200)=true:=decide_eq_true (by have:=of_decide_eq_false t7;omega)
 rw[c5,c6,c7]
 simp only[Bool.or_self,Bool.not_false,Bool.true_and,Bool.and_true]
 cases u6:((ty:Int)==6) with
 | true=>
  have e6:(ty:Int)=6:=by simpa using u6
  dsimp only
  generalize ZoS d=z at *
  obtain⟨zi,zn,zs,zh,zd⟩:=z
  exact ZqA ty num fl F sum d _ zi _ zn zs zh zd rfl hg1 hg2 t0 t1 t2 t3 t4 t5 t6 t7 u6 (by rw[e6];rfl) (by rw[e6];rfl) hP
 | false=>
 cases u7:((ty:Int)==7) with
 | true=>
  have e7:(ty:Int)=7:=by simpa using u7
  exact ZqB ty num fl F sum d _ _ _ rfl hg1 hg2 t0 t1 t2 t3 t4 t5 t6 t7 u6 u7 (by rw[e7];rfl) hA
 | false=>
 cases u10:((ty:Int)==10) with
 | true=>exact ZpN ty num fl F sum d _ _ _ _ rfl hg1 hg2 t0 t1 t2 t3 t4 t5 t6 t7 u6 u7 u10 hH
 | false=>exact ZqC ty num fl F sum d _ rfl hg1 hg2 t0 t1 t2 t3 t4 t5 t6 t7 u6 u7 u10
def bk0:BlkV:=⟨0,0,0,0,[]⟩
abbrev ZnP (r:BlkV × Int):D:=.tup [.agg (bkC r.1),.int .i64 r.2]
def ofV (kind Zbr:Nat)(sum:Int)(x:It)(e:Int):BlkV × Int:=match e != 0 with
 | true=>(bk0,3)
 | false=>match ZaC x with
  | false=>(bk0,3)
  | true=>match Zbh ⟨kind,Zbr,0,sum,Za9 x⟩ with
   | true=>(⟨kind,Zbr,0,sum,Za9 x⟩,0)
   | false=>(bk0,3)
theorem ZpO [Known][KnownU8](kind Zbr:Nat)(sum:Int)(x:It)(e:Int)(hw:wfI x)(hx:(Za9 x).length<=100000):AP Tryz.prog 108 [.int .u64 (kind:Int),.int .u64 (Zbr:Int),.int .i64 sum,itD x,.int .i64 e] (ZnP (ofV kind Zbr sum x e)) []:=by
 have hW:=ZhA x hw (by omega) (Zch x hw)
 have hR:=ZdI ⟨kind,Zbr,0,sum,Za9 x⟩ hx
 have hR0:=ZdI ⟨kind,Zbr,0,sum,[]⟩ (by simp)
 unfold ofV
 cases te:(e != 0) with
 | true=>
  dsimp only[bk0]
  cases hr:ZaC x<;>rw[hr]at hW
  all_goals
   obtain⟨k,n,b,l⟩:=x
   refine AP.ofA ?_
   refine Zan Tryz.func108 rfl Tryz.ntmps108 rfl rfl ?_
   repeat'(first|(apply Zaa (hW);kernel_rfl;(iterate 4 exact Z))|(apply Zaj Zab;exact Z)|(apply Zah Zab;exact Z)|(apply Zav Zab;exact Z)|(apply Zal;(iterate 3 exact Z);exact Go.ZrJ)|(apply Zak;exact Z;exact Go.ZrJ;exact Z;exact Z)|(apply Zac;exact Z;exact Go.ZrJ))
   all_goals(apply Zaw [];(apply Zad Zab;exact Z);(iterate 4 exact Z))
   all_goals rfl
 | false=>
 cases hr:ZaC x with
 | false=>
  rw[hr]at hW
  replace hW:AP Tryz.prog 112 [itD x] (.tup [.sl .ext [],.int .i64 3]) []:=hW
  obtain⟨k,n,b,l⟩:=x
  dsimp only[bk0]
  refine AP.ofA ?_
  refine Zan Tryz.func108 rfl Tryz.ntmps108 rfl rfl ?_
  repeat'(first|(apply Zaa (hW);kernel_rfl;(iterate 4 exact Z))|(apply Zaj Zab;exact Z)|(apply Zah Zab;exact Z)|(apply Zav Zab;exact Z)|(apply Zae;(iterate 3 exact Z);exact Go.ZrJ)|(apply Zal;(iterate 3 exact Z);exact Go.ZrJ)|(apply Zak;exact Z;exact Go.ZrJ;exact Z;exact Z)|(apply Zag;exact Z;exact Go.ZrJ;exact Z;exact Z)|(apply Zac;exact Z;exact Go.ZrJ))
  all_goals(apply Zaw [];(apply Zad Zab;exact Z);(iterate 4 exact Z))
  all_goals rfl
 | true=>
  rw[hr]at hW
  replace hW:AP Tryz.prog 112 [itD x] (.tup [byE (Za9 x),.int .i64 0]) []:=hW
  generalize Za9 x=P at *
  obtain⟨k,n,b,l⟩:=x
  dsimp only
  cases hb1:Zbh ⟨kind,Zbr,0,sum,P⟩
  all_goals
   rw[hb1]at hR
   dsimp only[bk0]
   refine AP.ofA ?_
   refine Zan Tryz.func108 rfl Tryz.ntmps108 rfl rfl ?_
   repeat'(first|(apply Zaa (hW);kernel_rfl;(iterate 4 exact Z))|(apply Zaa (hR);kernel_rfl;(iterate 4 exact Z))|(apply Zaj Zab;exact Z)|(apply Zah Zab;exact Z)|(apply Zav Zab;exact Z)|(apply Zae;(iterate 3 exact Z);exact Go.ZrJ)|(apply Zag;exact Z;exact Go.ZrJ;exact Z;exact Z)|(apply Zac;exact Z;exact Go.ZrJ)|(apply Zaf;exact Z;exact Go.ZrJ))
   all_goals(apply Zaw [];(apply Zad Zab;exact Z);(iterate 4 exact Z))
   all_goals rfl
theorem Znt [Known][KnownU8](Zbr:Nat)(sum:Int)(age:Nat)(ha:age<18446744073709551616):AP Tryz.prog 43 [.int .u64 (Zbr:Int),.int .i64 sum,.int .u64 (age:Int)] (ZnP (ofV 7 Zbr sum (.mk 0 age [] []) 0)) []:=by
 have hw:wfI (.mk 0 age [] []):=⟨ha,by simp,by simp,trivial⟩
 have hl:=(ZcT (.mk 0 age [] []) 1 300 (by omega) (by simp[Za7,Zbk]) ⟨ha,trivial⟩).2.1
 have hg:Za7 (.mk 0 age [] []) 1 300=299:=by simp[Za7,Zbk]
 have hO:=ZpO 7 Zbr sum (.mk 0 age [] []) 0 hw (by omega)
 have hN:=ZdS age
 clear hl hg
 generalize ofV 7 Zbr sum (.mk 0 age [] []) 0=r at *
 obtain⟨⟨a,b,c,d,f⟩,e⟩:=r
 refine AP.ofA ?_
 refine Zan Tryz.func43 rfl Tryz.ntmps43 rfl rfl ?_
 repeat'(first|(apply Zaa (hN);kernel_rfl;(iterate 4 exact Z))|(apply Zaa (hO);kernel_rfl;(iterate 4 exact Z))|(apply Zaj Zab;exact Z)|(apply Zah Zab;exact Z))
 all_goals(apply Zaw [];(apply Zad Zab;exact Z);(iterate 4 exact Z))
 all_goals rfl
abbrev Znu (n m:Nat):It:=.mk 4 0 [] [.mk 0 n [] [],.mk 0 m [] []]
theorem Zh2 [Known][KnownU8](Zbr:Nat)(sum:Int)(n m:Nat)(hn:n<18446744073709551616)(hm:m<18446744073709551616):AP Tryz.prog 44 [.int .u64 (Zbr:Int),.int .i64 sum,.int .u64 (n:Int),.int .u64 (m:Int)] (ZnP (ofV 10 Zbr sum (Znu n m) 0)) []:=by
 have hw:wfI (Znu n m):=⟨by decide,by simp,by simp,⟨hn,by simp,by simp,trivial⟩,⟨hm,by simp,by simp,trivial⟩,trivial⟩
 have hg:Za7 (Znu n m) 1 300=297:=by simp[Za7,Zbk]
 have hl:=(ZcT (Znu n m) 1 300 (by omega) (by omega) ⟨by decide,⟨hn,trivial⟩,⟨hm,trivial⟩,trivial⟩).2.1
 have hO:=ZpO 10 Zbr sum (Znu n m) 0 hw (by omega)
 have hN:=ZfN n m
 clear hl hg
 replace hO:AP Tryz.prog 108 [.int .u64 10,.int .u64 (Zbr:Int),.int .i64 sum,.agg [.int .i64 4,.int .u64 0,.sl .ext [],.sl .ext [nmE n,nmE m]],.int .i64 0] (ZnP (ofV 10 Zbr sum (Znu n m) 0)) []:=hO
 generalize ofV 10 Zbr sum (Znu n m) 0=r at *
 obtain⟨⟨a,b,c,d,f⟩,e⟩:=r
 refine AP.ofA ?_
 refine Zan Tryz.func44 rfl Tryz.ntmps44 rfl rfl ?_
 repeat'(first|(apply Zaa (hN);kernel_rfl;(iterate 4 exact Z))|(apply Zaa (hO);kernel_rfl;(iterate 4 exact Z))|(apply Zaj Zab;exact Z)|(apply Zah Zab;exact Z)|(apply ZaX Zab;(iterate 12 exact Z)))
 all_goals(apply Zaw [];(apply Zad Zab;exact Z);(iterate 4 exact Z))
 all_goals rfl
def ZkC (b:BlkV)(kind:Nat):Int:=match((b.ty:Int) != (kind:Int)) with
 | true=>4
 | false=>match Zbh b with
  | false=>3
  | true=>0
theorem ZnQ [Known][KnownU8](b:BlkV)(kind:Nat)(hd:b.data.length<=100000):AP Tryz.prog 102 [.agg (bkC b),.int .u64 (kind:Int)] (.int .i64 (ZkC b kind)) []:=by
 have hR:=ZdI b hd
 unfold ZkC
 cases t1:((b.ty:Int) != (kind:Int)) with
 | true=>
  obtain⟨ty,num,fl,sum,data⟩:=b
  dsimp only at t1
  refine AP.ofA ?_
  refine Zan Tryz.func102 rfl Tryz.ntmps102 rfl rfl ?_
  repeat'(first|(apply Zah Zab;exact Z)|(apply Zav Zab;exact Z)|(apply Zac;exact Z;exact Go.ZrJ))
  all_goals(apply Zaw [];(apply Zad Zab;exact Z);(iterate 4 exact Z))
  all_goals rfl
 | false=>
  cases hr:Zbh b<;>rw[hr]at hR
  all_goals
   obtain⟨ty,num,fl,sum,data⟩:=b
   dsimp only at t1
   refine AP.ofA ?_
   refine Zan Tryz.func102 rfl Tryz.ntmps102 rfl rfl ?_
   repeat'(first|(apply Zaa (hR);kernel_rfl;(iterate 4 exact Z))|(apply Zaj Zab;exact Z)|(apply Zah Zab;exact Z)|(apply Zav Zab;exact Z)|(apply Zac;exact Z;exact Go.ZrJ)|(apply Zaf;exact Z;exact Go.ZrJ))
   all_goals(apply Zaw [];(apply Zad Zab;exact Z);(iterate 4 exact Z))
   all_goals rfl
theorem Znv [Known][KnownU8](b:BlkV)(hd:b.data.length<=100000):AP Tryz.prog 35 [.agg (bkC b)] (.tup [.int .u64 ((match ZkC b 7 != 0 with|true=>0|false=>(ZiA b.data).1:Nat):Int),.int .i64 (ZkC b 7)]) []:=by
 have hA:=ZnQ b 7 hd
 have hG:=ZnL b.data hd
 generalize ZkC b 7=q at *
 generalize (ZiA b.data).1=a at *
 generalize (ZiA b.data).2=o at *
 obtain⟨ty,num,fl,sum,data⟩:=b
 cases t1:(q != 0) with
 | true=>
  refine AP.ofA ?_
  refine Zan Tryz.func35 rfl Tryz.ntmps35 rfl rfl ?_
  repeat'(first|(apply Zaa (hA);kernel_rfl;(iterate 4 exact Z))|(apply Zaj Zab;exact Z)|(apply Zah Zab;exact Z)|(apply Zav Zab;exact Z)|(apply Zac;exact Z;exact Go.ZrJ))
  all_goals(apply Zaw [];(apply Zad Zab;exact Z);(iterate 4 exact Z))
  all_goals rfl
 | false=>
  have eq0:q=0:=by simpa[bne]using t1
  subst eq0
  refine AP.ofA ?_
  refine Zan Tryz.func35 rfl Tryz.ntmps35 rfl rfl ?_
  repeat'(first|(apply Zaa (hA);kernel_rfl;(iterate 4 exact Z))|(apply Zaa (hG);kernel_rfl;(iterate 4 exact Z))|(apply Zaj Zab;exact Z)|(apply Zah Zab;exact Z)|(apply Zaf;exact Z;exact Go.ZrJ))
  all_goals(apply Zaw [];(apply Zad Zab;exact Z);(iterate 4 exact Z))
  all_goals rfl
theorem Zh3 [Known][KnownU8](b:BlkV)(hd:b.data.length<=100000):AP Tryz.prog 36 [.agg (bkC b)] (.tup [.int .u64 ((match ZkC b 10 != 0 with|true=>0|false=>(ZcX b.data).1:Nat):Int),.int .u64 ((match ZkC b 10 != 0 with|true=>0|false=>(ZcX b.data).2.1:Nat):Int),.int .i64 (ZkC b 10)]) []:=by
 have hA:=ZnQ b 10 hd
 have hG:=Zma b.data hd
 generalize ZkC b 10=q at *
 generalize (ZcX b.data).1=a at *
 generalize (ZcX b.data).2.1=c at *
 generalize (ZcX b.data).2.2=o at *
 obtain⟨ty,num,fl,sum,data⟩:=b
 cases t1:(q != 0) with
 | true=>
  refine AP.ofA ?_
  refine Zan Tryz.func36 rfl Tryz.ntmps36 rfl rfl ?_
  repeat'(first|(apply Zaa (hA);kernel_rfl;(iterate 4 exact Z))|(apply Zaj Zab;exact Z)|(apply Zah Zab;exact Z)|(apply Zav Zab;exact Z)|(apply Zac;exact Z;exact Go.ZrJ))
  all_goals(apply Zaw [];(apply Zad Zab;exact Z);(iterate 4 exact Z))
  all_goals rfl
 | false=>
  have eq0:q=0:=by simpa[bne]using t1
  subst eq0
  refine AP.ofA ?_
  refine Zan Tryz.func36 rfl Tryz.ntmps36 rfl rfl ?_
  repeat'(first|(apply Zaa (hA);kernel_rfl;(iterate 4 exact Z))|(apply Zaa (hG);kernel_rfl;(iterate 4 exact Z))|(apply Zaj Zab;exact Z)|(apply Zah Zab;exact Z)|(apply Zaf;exact Z;exact Go.ZrJ))
  all_goals(apply Zaw [];(apply Zad Zab;exact Z);(iterate 4 exact Z))
  all_goals rfl
theorem Zmc [Known](b:BlkV):AP Tryz.prog 25 [.agg (bkC b)] (.agg (bkC b)) []:=by
 obtain⟨ty,num,fl,sum,d⟩:=b
 refine AP.ofA ?_
 refine Zan Tryz.func25 rfl Tryz.ntmps25 rfl rfl ?_
 repeat'(first|(apply Zah Zab;exact Z))
 all_goals(apply Zaw [];(apply Zad Zab;exact Z);(iterate 4 exact Z))
 all_goals rfl
end Go.Proofs.YtakblclkflnnpaaGreatDoor
end
