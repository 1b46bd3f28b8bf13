/- Package canon: which blocks may be. -/
import Derived.Test.YtakblclkflnnpaaGreatDoorM35
import Derived.Test.YtakblclkflnnpaaGreatDoorM33
set_option linter.unusedVariables false
set_option linter.unusedSimpArgs false
section
open Go.RowKit Go.Pl Go.Av
namespace Go.Proofs.YtakblclkflnnpaaGreatDoor
set_option maxHeartbeats 4000000
def ZnJ (kind:Nat)(d:List UInt8):Bool:=match((kind:Int)==6) with
 | true=>(ZfG d).2
 | false=>match((kind:Int)==7) with
  | true=>(ZhW d).2
  | false=>match((kind:Int)==10) with
   | true=>(ZcL d).2.2
   | false=>true
def ZjE (kind:Nat)(d:List UInt8):Bool:=ZnJ kind d&&decide ((d.length:Int)<=200)
theorem Zk8 [Known][KnownU8](kind:Nat)(d:List UInt8)(hd:d.length<=100000):AP Tryz.prog 100 [.int .u64 (kind:Int),byE d] (.bool (ZjE kind d)) []:=by
 have hP:=ZhV d hd
 have hA:=ZmA d hd
 have hH:=Zk7 d hd
 have hdl:(d.map E.byte).length=d.length:=List.length_map ..
 unfold ZjE ZnJ
 rw[<- hdl]
 generalize (ZfG d).1=pz at *
 obtain⟨zi,zn,zs,zh,zd⟩:=pz
 generalize (ZfG d).2=p1 at *
 generalize (ZhW d).1=a0 at *
 generalize (ZhW d).2=a1 at *
 generalize (ZcL d).1=h0 at *
 generalize (ZcL d).2.1=h1 at *
 generalize (ZcL d).2.2=h2 at *
 cases t1:((kind:Int)==6) with
 | true=>
  cases p1
  all_goals
   refine AP.ofA ?_
   refine Zan Tryz.func100 rfl Tryz.ntmps100 rfl rfl ?_
   repeat'(first|(apply Zaa (hP);kernel_rfl;(iterate 4 exact Z))|(apply Zai Zab;exact Z)|(apply Zah Zab;exact Z)|(apply Zae;(iterate 3 exact Z);exact Go.Zqy)|(apply Zau;(iterate 3 exact Z);exact Go.Zqy)|(apply Zaj;exact Z;exact Go.Zqy;exact Z;exact Z)|(apply Zag;exact Z;exact Go.Zqy;exact Z;exact Z)|(apply Zac;exact Z;exact Go.Zqy)|(apply Zao Zab;(iterate 4 exact Z)))
   all_goals(apply Zaz [];(apply Zad Zab;exact Z);(iterate 4 exact Z))
   all_goals rfl
 | false=>
 cases t2:((kind:Int)==7) with
 | true=>
  cases a1
  all_goals
   refine AP.ofA ?_
   refine Zan Tryz.func100 rfl Tryz.ntmps100 rfl rfl ?_
   repeat'(first|(apply Zaa (hA);kernel_rfl;(iterate 4 exact Z))|(apply Zai Zab;exact Z)|(apply Zah Zab;exact Z)|(apply Zae;(iterate 3 exact Z);exact Go.Zqy)|(apply Zau;(iterate 3 exact Z);exact Go.Zqy)|(apply Zaj;exact Z;exact Go.Zqy;exact Z;exact Z)|(apply Zag;exact Z;exact Go.Zqy;exact Z;exact Z)|(apply Zac;exact Z;exact Go.Zqy)|(apply Zaf;exact Z;exact Go.Zqy)|(apply Zao Zab;(iterate 4 exact Z)))
   all_goals(apply Zaz [];(apply Zad Zab;exact Z);(iterate 4 exact Z))
   all_goals rfl
 | false=>
 cases t3:((kind:Int)==10) with
 | true=>
  cases h2
  all_goals
   refine AP.ofA ?_
   refine Zan Tryz.func100 rfl Tryz.ntmps100 rfl rfl ?_
   repeat'(first|(apply Zaa (hH);kernel_rfl;(iterate 4 exact Z))|(apply Zai Zab;exact Z)|(apply Zah Zab;exact Z)|(apply Zae;(iterate 3 exact Z);exact Go.Zqy)|(apply Zau;(iterate 3 exact Z);exact Go.Zqy)|(apply Zaj;exact Z;exact Go.Zqy;exact Z;exact Z)|(apply Zag;exact Z;exact Go.Zqy;exact Z;exact Z)|(apply Zac;exact Z;exact Go.Zqy)|(apply Zaf;exact Z;exact Go.Zqy)|(apply Zao Zab;(iterate 4 exact Z)))
   all_goals(apply Zaz [];(apply Zad Zab;exact Z);(iterate 4 exact Z))
   all_goals rfl
 | false=>
  refine AP.ofA ?_
  refine Zan Tryz.func100 rfl Tryz.ntmps100 rfl rfl ?_
  repeat'(first|(apply Zai Zab;exact Z)|(apply Zah Zab;exact Z)|(apply Zae;(iterate 3 exact Z);exact Go.Zqy)|(apply Zaj;exact Z;exact Go.Zqy;exact Z;exact Z)|(apply Zaf;exact Z;exact Go.Zqy)|(apply Zao Zab;(iterate 4 exact Z)))
  all_goals(apply Zaz [];(apply Zad Zab;exact Z);(iterate 4 exact Z))
  all_goals rfl
def Zbg (b:BlkV):Bool:=!(Zhz b.ty||Zhz b.num)&&((bits .andNot .u64 (b.fl:Int) 23==0)&&(decide (b.sum ≥ 0)&&(decide (b.sum<=2)&&ZjE b.ty b.data)))
theorem Zeb [Known][KnownU8](b:BlkV)(hd:b.data.length<=100000):AP Tryz.prog 29 [.agg (bkC b)] (.bool (Zbg b)) []:=by
 have hW:=Zjw b.ty b.num
 have hD:=Zk8 b.ty b.data hd
 obtain⟨ty,num,fl,sum,data⟩:=b
 unfold Zbg
 dsimp only at hW hD ⊢
 generalize ZjE ty data=dv at *
 cases hb1:(Zhz ty||Zhz num) with
 | true=>
  rw[hb1]at hW
  replace hW:AP Tryz.prog _ _ (.bool false) []:=hW
  refine AP.ofA ?_
  refine Zan Tryz.func29 rfl Tryz.ntmps29 rfl rfl ?_
  repeat'(first|(apply Zaa (hW);kernel_rfl;(iterate 4 exact Z))|(apply Zai Zab;exact Z)|(apply Zah Zab;exact Z)|(apply Zau;(iterate 3 exact Z);exact Go.Zqy)|(apply Zag;exact Z;exact Go.Zqy;exact Z;exact Z)|(apply ZaR Zab;(iterate 12 exact Z)))
  all_goals(apply Zaz [];(apply Zad Zab;exact Z);(iterate 4 exact Z))
  all_goals rfl
 | false=>
 rw[hb1]at hW
 replace hW:AP Tryz.prog _ _ (.bool true) []:=hW
 cases t1:(bits .andNot .u64 (fl:Int) 23==0) with
 | false=>
  refine AP.ofA ?_
  refine Zan Tryz.func29 rfl Tryz.ntmps29 rfl rfl ?_
  repeat'(first|(apply Zaa (hW);kernel_rfl;(iterate 4 exact Z))|(apply Zai Zab;exact Z)|(apply Zah Zab;exact Z)|(apply Zae;(iterate 3 exact Z);exact Go.Zqy)|(apply Zau;(iterate 3 exact Z);exact Go.Zqy)|(apply Zaj;exact Z;exact Go.Zqy;exact Z;exact Z)|(apply Zag;exact Z;exact Go.Zqy;exact Z;exact Z)|(apply ZaR Zab;(iterate 12 exact Z)))
  all_goals(apply Zaz [];(apply Zad Zab;exact Z);(iterate 4 exact Z))
  all_goals rfl
 | true=>
 cases t2:decide (sum ≥ 0) with
 | false=>
  refine AP.ofA ?_
  refine Zan Tryz.func29 rfl Tryz.ntmps29 rfl rfl ?_
  repeat'(first|(apply Zaa (hW);kernel_rfl;(iterate 4 exact Z))|(apply Zai Zab;exact Z)|(apply Zah Zab;exact Z)|(apply Zae;(iterate 3 exact Z);exact Go.Zqy)|(apply Zau;(iterate 3 exact Z);exact Go.Zqy)|(apply Zaj;exact Z;exact Go.Zqy;exact Z;exact Z)|(apply Zag;exact Z;exact Go.Zqy;exact Z;exact Z)|(apply ZaR Zab;(iterate 12 exact Z)))
  all_goals(apply Zaz [];(apply Zad Zab;exact Z);(iterate 4 exact Z))
  all_goals rfl
 | true=>
 cases t3:decide (sum<=2) with
 | false=>
  refine AP.ofA ?_
  refine Zan Tryz.func29 rfl Tryz.ntmps29 rfl rfl ?_
  repeat'(first|(apply Zaa (hW);kernel_rfl;(iterate 4 exact Z))|(apply Zai Zab;exact Z)|(apply Zah Zab;exact Z)|(apply Zae;(iterate 3 exact Z);exact Go.Zqy)|(apply Zau;(iterate 3 exact Z);exact Go.Zqy)|(apply Zaj;exact Z;exact Go.Zqy;exact Z;exact Z)|(apply Zag;exact Z;exact Go.Zqy;exact Z;exact Z)|(apply ZaR Zab;(iterate 12 exact Z)))
  all_goals(apply Zaz [];(apply Zad Zab;exact Z);(iterate 4 exact Z))
  all_goals rfl
 | true=>
  refine AP.ofA ?_
  refine Zan Tryz.func29 rfl Tryz.ntmps29 rfl rfl ?_
  repeat'(first|(apply Zaa (hW);kernel_rfl;(iterate 4 exact Z))|(apply Zaa (hD);kernel_rfl;(iterate 4 exact Z))|(apply Zai Zab;exact Z)|(apply Zah Zab;exact Z)|(apply Zae;(iterate 3 exact Z);exact Go.Zqy)|(apply Zaj;exact Z;exact Go.Zqy;exact Z;exact Z)|(apply ZaR Zab;(iterate 12 exact Z)))
  all_goals(apply Zaz [];(apply Zad Zab;exact Z);(iterate 4 exact Z))
  all_goals rfl

theorem Zqk [Known](ty num fl F:Nat)(sum:Int)(d:List UInt8)(g:Bool)(hg:decide ((fl:Int) ≥ 16)=g)(hF:g=false->fl=F)(hw:g=true->IntKind.u64.wrap ((fl:Int)-16)=(F:Int))(t0:decide ((ty:Int)<1)=true) :
  AP Tryz.prog 30 [.agg [.int .u64 (ty:Int),.int .u64 (num:Int),.int .u64 (fl:Int),.int .i64 sum,byE d]] (.bool false) []:=by
 cases g with
 | false=>
  obtain rfl:=hF rfl
  clear hw hF
  refine AP.ofA ?_
  refine Zan Tryz.func30 rfl Tryz.ntmps30 rfl rfl ?_
  repeat'(first|(apply Zai Zab;exact Z)|(apply Zah Zab;exact Z)|(apply Zaw Zab;exact Z)|(apply Zal;(iterate 3 exact Z);exact Go.Zqy)|(apply Zaj;exact Z;exact Go.Zqy;exact Z;exact Z)|(apply Zac;exact Z;exact Go.Zqy)|(apply Zaf;exact Z;exact Go.Zqy))
  all_goals(apply Zaz [];(apply Zad Zab;exact Z);(iterate 4 exact Z))
  all_goals rfl
 | true=>
  have hw:=hw rfl
  clear hF
  refine AP.ofA ?_
  refine Zan Tryz.func30 rfl Tryz.ntmps30 rfl rfl ?_
  repeat'(first|rw[hw]|(apply Zai Zab;exact Z)|(apply Zah Zab;exact Z)|(apply Zaw Zab;exact Z)|(apply Zal;(iterate 3 exact Z);exact Go.Zqy)|(apply Zaj;exact Z;exact Go.Zqy;exact Z;exact Z)|(apply Zac;exact Z;exact Go.Zqy))
  all_goals(apply Zaz [];(apply Zad Zab;exact Z);(iterate 4 exact Z))
  all_goals rfl
theorem Zql [Known](ty num fl F:Nat)(sum:Int)(d:List UInt8)(g:Bool)(hg:decide ((fl:Int) ≥ 16)=g)(hF:g=false->fl=F)(hw:g=true->IntKind.u64.wrap ((fl:Int)-16)=(F:Int))(t0:decide ((ty:Int)<1)=false)(t1:decide ((ty:Int)>255)=true) :
  AP Tryz.prog 30 [.agg [.int .u64 (ty:Int),.int .u64 (num:Int),.int .u64 (fl:Int),.int .i64 sum,byE d]] (.bool false) []:=by
 cases g with
 | false=>
  obtain rfl:=hF rfl
  clear hw hF
  refine AP.ofA ?_
  refine Zan Tryz.func30 rfl Tryz.ntmps30 rfl rfl ?_
  repeat'(first|(apply Zai Zab;exact Z)|(apply Zah Zab;exact Z)|(apply Zaw Zab;exact Z)|(apply Zae;(iterate 3 exact Z);exact Go.Zqy)|(apply Zal;(iterate 3 exact Z);exact Go.Zqy)|(apply Zaj;exact Z;exact Go.Zqy;exact Z;exact Z)|(apply Zag;exact Z;exact Go.Zqy;exact Z;exact Z)|(apply Zac;exact Z;exact Go.Zqy)|(apply Zaf;exact Z;exact Go.Zqy))
  all_goals(apply Zaz [];(apply Zad Zab;exact Z);(iterate 4 exact Z))
  all_goals rfl
 | true=>
  have hw:=hw rfl
  clear hF
  refine AP.ofA ?_
  refine Zan Tryz.func30 rfl Tryz.ntmps30 rfl rfl ?_
  repeat'(first|rw[hw]|(apply Zai Zab;exact Z)|(apply Zah Zab;exact Z)|(apply Zaw Zab;exact Z)|(apply Zae;(iterate 3 exact Z);exact Go.Zqy)|(apply Zal;(iterate 3 exact Z);exact Go.Zqy)|(apply Zaj;exact Z;exact Go.Zqy;exact Z;exact Z)|(apply Zag;exact Z;exact Go.Zqy;exact Z;exact Z)|(apply Zac;exact Z;exact Go.Zqy))
  all_goals(apply Zaz [];(apply Zad Zab;exact Z);(iterate 4 exact Z))
  all_goals rfl
theorem Zqm [Known](ty num fl F:Nat)(sum:Int)(d:List UInt8)(g:Bool)(hg:decide ((fl:Int) ≥ 16)=g)(hF:g=false->fl=F)(hw:g=true->IntKind.u64.wrap ((fl:Int)-16)=(F:Int))(t0:decide ((ty:Int)<1)=false)(t1:decide ((ty:Int)>255)=false)(t2:decide ((num:Int)<1)=true) :
  AP Tryz.prog 30 [.agg [.int .u64 (ty:Int),.int .u64 (num:Int),.int .u64 (fl:Int),.int .i64 sum,byE d]] (.bool false) []:=by
 cases g with
 | false=>
  obtain rfl:=hF rfl
  clear hw hF
  refine AP.ofA ?_
  refine Zan Tryz.func30 rfl Tryz.ntmps30 rfl rfl ?_
  repeat'(first|(apply Zai Zab;exact Z)|(apply Zah Zab;exact Z)|(apply Zaw Zab;exact Z)|(apply Zae;(iterate 3 exact Z);exact Go.Zqy)|(apply Zal;(iterate 3 exact Z);exact Go.Zqy)|(apply Zaj;exact Z;exact Go.Zqy;exact Z;exact Z)|(apply Zag;exact Z;exact Go.Zqy;exact Z;exact Z)|(apply Zac;exact Z;exact Go.Zqy)|(apply Zaf;exact Z;exact Go.Zqy))
  all_goals(apply Zaz [];(apply Zad Zab;exact Z);(iterate 4 exact Z))
  all_goals rfl
 | true=>
  have hw:=hw rfl
  clear hF
  refine AP.ofA ?_
  refine Zan Tryz.func30 rfl Tryz.ntmps30 rfl rfl ?_
  repeat'(first|rw[hw]|(apply Zai Zab;exact Z)|(apply Zah Zab;exact Z)|(apply Zaw Zab;exact Z)|(apply Zae;(iterate 3 exact Z);exact Go.Zqy)|(apply Zal;(iterate 3 exact Z);exact Go.Zqy)|(apply Zaj;exact Z;exact Go.Zqy;exact Z;exact Z)|(apply Zag;exact Z;exact Go.Zqy;exact Z;exact Z)|(apply Zac;exact Z;exact Go.Zqy))
  all_goals(apply Zaz [];(apply Zad Zab;exact Z);(iterate 4 exact Z))
  all_goals rfl
theorem Zqn [Known](ty num fl F:Nat)(sum:Int)(d:List UInt8)(g:Bool)(hg:decide ((fl:Int) ≥ 16)=g)(hF:g=false->fl=F)(hw:g=true->IntKind.u64.wrap ((fl:Int)-16)=(F:Int))(t0:decide ((ty:Int)<1)=false)(t1:decide ((ty:Int)>255)=false)(t2:decide ((num:Int)<1)=false)(t3:decide ((num:Int)>255)=true) :
  AP Tryz.prog 30 [.agg [.int .u64 (ty:Int),.int .u64 (num:Int),.int .u64 (fl:Int),.int .i64 sum,byE d]] (.bool false) []:=by
 cases g with
 | false=>
  obtain rfl:=hF rfl
  clear hw hF
  refine AP.ofA ?_
  refine Zan Tryz.func30 rfl Tryz.ntmps30 rfl rfl ?_
  repeat'(first|(apply Zai Zab;exact Z)|(apply Zah Zab;exact Z)|(apply Zaw Zab;exact Z)|(apply Zae;(iterate 3 exact Z);exact Go.Zqy)|(apply Zal;(iterate 3 exact Z);exact Go.Zqy)|(apply Zaj;exact Z;exact Go.Zqy;exact Z;exact Z)|(apply Zag;exact Z;exact Go.Zqy;exact Z;exact Z)|(apply Zac;exact Z;exact Go.Zqy)|(apply Zaf;exact Z;exact Go.Zqy))
  all_goals(apply Zaz [];(apply Zad Zab;exact Z);(iterate 4 exact Z))
  all_goals rfl
 | true=>
  have hw:=hw rfl
  clear hF
  refine AP.ofA ?_
  refine Zan Tryz.func30 rfl Tryz.ntmps30 rfl rfl ?_
  repeat'(first|rw[hw]|(apply Zai Zab;exact Z)|(apply Zah Zab;exact Z)|(apply Zaw Zab;exact Z)|(apply Zae;(iterate 3 exact Z);exact Go.Zqy)|(apply Zal;(iterate 3 exact Z);exact Go.Zqy)|(apply Zaj;exact Z;exact Go.Zqy;exact Z;exact Z)|(apply Zag;exact Z;exact Go.Zqy;exact Z;exact Z)|(apply Zac;exact Z;exact Go.Zqy))
  all_goals(apply Zaz [];(apply Zad Zab;exact Z);(iterate 4 exact Z))
  all_goals rfl
theorem Zqo [Known](ty num fl F:Nat)(sum:Int)(d:List UInt8)(g:Bool)(hg:decide ((fl:Int) ≥ 16)=g)(hF:g=false->fl=F)(hw:g=true->IntKind.u64.wrap ((fl:Int)-16)=(F:Int))(t0:decide ((ty:Int)<1)=false)(t1:decide ((ty:Int)>255)=false)(t2:decide ((num:Int)<1)=false)(t3:decide ((num:Int)>255)=false)(t4:decide ((F:Int)>7)=true) :
  AP Tryz.prog 30 [.agg [.int .u64 (ty:Int),.int .u64 (num:Int),.int .u64 (fl:Int),.int .i64 sum,byE d]] (.bool false) []:=by
 cases g with
 | false=>
  obtain rfl:=hF rfl
  clear hw hF
  refine AP.ofA ?_
  refine Zan Tryz.func30 rfl Tryz.ntmps30 rfl rfl ?_
  repeat'(first|(apply Zai Zab;exact Z)|(apply Zah Zab;exact Z)|(apply Zaw Zab;exact Z)|(apply Zae;(iterate 3 exact Z);exact Go.Zqy)|(apply Zal;(iterate 3 exact Z);exact Go.Zqy)|(apply Zaj;exact Z;exact Go.Zqy;exact Z;exact Z)|(apply Zag;exact Z;exact Go.Zqy;exact Z;exact Z)|(apply Zac;exact Z;exact Go.Zqy)|(apply Zaf;exact Z;exact Go.Zqy))
  all_goals(apply Zaz [];(apply Zad Zab;exact Z);(iterate 4 exact Z))
  all_goals rfl
 | true=>
  have hw:=hw rfl
  clear hF
  refine AP.ofA ?_
  refine Zan Tryz.func30 rfl Tryz.ntmps30 rfl rfl ?_
  repeat'(first|rw[hw]|(apply Zai Zab;exact Z)|(apply Zah Zab;exact Z)|(apply Zaw Zab;exact Z)|(apply Zae;(iterate 3 exact Z);exact Go.Zqy)|(apply Zal;(iterate 3 exact Z);exact Go.Zqy)|(apply Zaj;exact Z;exact Go.Zqy;exact Z;exact Z)|(apply Zag;exact Z;exact Go.Zqy;exact Z;exact Z)|(apply Zac;exact Z;exact Go.Zqy))
  all_goals(apply Zaz [];(apply Zad Zab;exact Z);(iterate 4 exact Z))
  all_goals rfl
theorem Zqp [Known](ty num fl F:Nat)(sum:Int)(d:List UInt8)(g:Bool)(hg:decide ((fl:Int) ≥ 16)=g)(hF:g=false->fl=F)(hw:g=true->IntKind.u64.wrap ((fl:Int)-16)=(F:Int))(t0:decide ((ty:Int)<1)=false)(t1:decide ((ty:Int)>255)=false)(t2:decide ((num:Int)<1)=false)(t3:decide ((num:Int)>255)=false)(t4:decide ((F:Int)>7)=false)(t5:decide (sum<0)=true) :
  AP Tryz.prog 30 [.agg [.int .u64 (ty:Int),.int .u64 (num:Int),.int .u64 (fl:Int),.int .i64 sum,byE d]] (.bool false) []:=by
 cases g with
 | false=>
  obtain rfl:=hF rfl
  clear hw hF
  refine AP.ofA ?_
  refine Zan Tryz.func30 rfl Tryz.ntmps30 rfl rfl ?_
  repeat'(first|(apply Zai Zab;exact Z)|(apply Zah Zab;exact Z)|(apply Zaw Zab;exact Z)|(apply Zae;(iterate 3 exact Z);exact Go.Zqy)|(apply Zal;(iterate 3 exact Z);exact Go.Zqy)|(apply Zaj;exact Z;exact Go.Zqy;exact Z;exact Z)|(apply Zag;exact Z;exact Go.Zqy;exact Z;exact Z)|(apply Zac;exact Z;exact Go.Zqy)|(apply Zaf;exact Z;exact Go.Zqy))
  all_goals(apply Zaz [];(apply Zad Zab;exact Z);(iterate 4 exact Z))
  all_goals rfl
 | true=>
  have hw:=hw rfl
  clear hF
  refine AP.ofA ?_
  refine Zan Tryz.func30 rfl Tryz.ntmps30 rfl rfl ?_
  repeat'(first|rw[hw]|(apply Zai Zab;exact Z)|(apply Zah Zab;exact Z)|(apply Zaw Zab;exact Z)|(apply Zae;(iterate 3 exact Z);exact Go.Zqy)|(apply Zal;(iterate 3 exact Z);exact Go.Zqy)|(apply Zaj;exact Z;exact Go.Zqy;exact Z;exact Z)|(apply Zag;exact Z;exact Go.Zqy;exact Z;exact Z)|(apply Zac;exact Z;exact Go.Zqy))
  all_goals(apply Zaz [];(apply Zad Zab;exact Z);(iterate 4 exact Z))
  all_goals rfl
theorem Zqq [Known](ty num fl F:Nat)(sum:Int)(d:List UInt8)(g:Bool)(hg:decide ((fl:Int) ≥ 16)=g)(hF:g=false->fl=F)(hw:g=true->IntKind.u64.wrap ((fl:Int)-16)=(F:Int))(t0:decide ((ty:Int)<1)=false)(t1:decide ((ty:Int)>255)=false)(t2:decide ((num:Int)<1)=false)(t3:decide ((num:Int)>255)=false)(t4:decide ((F:Int)>7)=false)(t5:decide (sum<0)=false)(t6:decide (sum>2)=true) :
  AP Tryz.prog 30 [.agg [.int .u64 (ty:Int),.int .u64 (num:Int),.int .u64 (fl:Int),.int .i64 sum,byE d]] (.bool false) []:=by
 cases g with
 | false=>
  obtain rfl:=hF rfl
  clear hw hF
  refine AP.ofA ?_
  refine Zan Tryz.func30 rfl Tryz.ntmps30 rfl rfl ?_
  repeat'(first|(apply Zai Zab;exact Z)|(apply Zah Zab;exact Z)|(apply Zaw Zab;exact Z)|(apply Zae;(iterate 3 exact Z);exact Go.Zqy)|(apply Zal;(iterate 3 exact Z);exact Go.Zqy)|(apply Zaj;exact Z;exact Go.Zqy;exact Z;exact Z)|(apply Zag;exact Z;exact Go.Zqy;exact Z;exact Z)|(apply Zac;exact Z;exact Go.Zqy)|(apply Zaf;exact Z;exact Go.Zqy))
  all_goals(apply Zaz [];(apply Zad Zab;exact Z);(iterate 4 exact Z))
  all_goals rfl
 | true=>
  have hw:=hw rfl
  clear hF
  refine AP.ofA ?_
  refine Zan Tryz.func30 rfl Tryz.ntmps30 rfl rfl ?_
  repeat'(first|rw[hw]|(apply Zai Zab;exact Z)|(apply Zah Zab;exact Z)|(apply Zaw Zab;exact Z)|(apply Zae;(iterate 3 exact Z);exact Go.Zqy)|(apply Zal;(iterate 3 exact Z);exact Go.Zqy)|(apply Zaj;exact Z;exact Go.Zqy;exact Z;exact Z)|(apply Zag;exact Z;exact Go.Zqy;exact Z;exact Z)|(apply Zac;exact Z;exact Go.Zqy))
  all_goals(apply Zaz [];(apply Zad Zab;exact Z);(iterate 4 exact Z))
  all_goals rfl
theorem Zqr [Known](ty num fl F:Nat)(sum:Int)(d:List UInt8)(g:Bool)(hg:decide ((fl:Int) ≥ 16)=g)(hF:g=false->fl=F)(hw:g=true->IntKind.u64.wrap ((fl:Int)-16)=(F:Int))(t0:decide ((ty:Int)<1)=false)(t1:decide ((ty:Int)>255)=false)(t2:decide ((num:Int)<1)=false)(t3:decide ((num:Int)>255)=false)(t4:decide ((F:Int)>7)=false)(t5:decide (sum<0)=false)(t6:decide (sum>2)=false)(t7:decide (((d.map E.byte).length:Int)>200)=true) :
  AP Tryz.prog 30 [.agg [.int .u64 (ty:Int),.int .u64 (num:Int),.int .u64 (fl:Int),.int .i64 sum,byE d]] (.bool false) []:=by
 cases g with
 | false=>
  obtain rfl:=hF rfl
  clear hw hF
  refine AP.ofA ?_
  refine Zan Tryz.func30 rfl Tryz.ntmps30 rfl rfl ?_
  repeat'(first|(apply Zai Zab;exact Z)|(apply Zah Zab;exact Z)|(apply Zaw Zab;exact Z)|(apply Zae;(iterate 3 exact Z);exact Go.Zqy)|(apply Zag;exact Z;exact Go.Zqy;exact Z;exact Z)|(apply Zac;exact Z;exact Go.Zqy)|(apply Zaf;exact Z;exact Go.Zqy)|(apply Zao Zab;(iterate 4 exact Z)))
  all_goals(apply Zaz [];(apply Zad Zab;exact Z);(iterate 4 exact Z))
  all_goals rfl
 | true=>
  have hw:=hw rfl
  clear hF
  refine AP.ofA ?_
  refine Zan Tryz.func30 rfl Tryz.ntmps30 rfl rfl ?_
  repeat'(first|rw[hw]|(apply Zai Zab;exact Z)|(apply Zah Zab;exact Z)|(apply Zaw Zab;exact Z)|(apply Zae;(iterate 3 exact Z);exact Go.Zqy)|(apply Zag;exact Z;exact Go.Zqy;exact Z;exact Z)|(apply Zac;exact Z;exact Go.Zqy)|(apply Zao Zab;(iterate 4 exact Z)))
  all_goals(apply Zaz [];(apply Zad Zab;exact Z);(iterate 4 exact Z))
  all_goals rfl
theorem Zpy [Known](ty num fl F:Nat)(sum:Int)(d:List UInt8)(g:Bool)(zi ok:Bool)(zn zs:Nat)(zh zd:List UInt8)(hg:decide ((fl:Int) ≥ 16)=g)(hF:g=false->fl=F)(hw:g=true->IntKind.u64.wrap ((fl:Int)-16)=(F:Int))(t0:decide ((ty:Int)<1)=false)(t1:decide ((ty:Int)>255)=false)(t2:decide ((num:Int)<1)=false)(t3:decide ((num:Int)>255)=false)(t4:decide ((F:Int)>7)=false)(t5:decide (sum<0)=false)(t6:decide (sum>2)=false)(t7:decide (((d.map E.byte).length:Int)>200)=false)(u6:((ty:Int)==6)=true)(u7:((ty:Int)==7)=false)(u10:((ty:Int)==10)=false)(hP:AP Tryz.prog 38 [byE d] (.tup [.agg [.bool zi,.int .u64 (zn:Int),.int .u64 (zs:Int),.str zh,.str zd],.bool ok]) []) :
  AP Tryz.prog 30 [.agg [.int .u64 (ty:Int),.int .u64 (num:Int),.int .u64 (fl:Int),.int .i64 sum,byE d]] (.bool ok) []:=by
 cases g with
 | false=>
  obtain rfl:=hF rfl
  clear hw hF
  refine AP.ofA ?_
  refine Zan Tryz.func30 rfl Tryz.ntmps30 rfl rfl ?_
  repeat'(first|(apply Zaa (hP);kernel_rfl;(iterate 4 exact Z))|(apply Zai Zab;exact Z)|(apply Zah Zab;exact Z)|(apply Zaw Zab;exact Z)|(apply Zae;(iterate 3 exact Z);exact Go.Zqy)|(apply Zag;exact Z;exact Go.Zqy;exact Z;exact Z)|(apply Zac;exact Z;exact Go.Zqy)|(apply Zaf;exact Z;exact Go.Zqy)|(apply Zao Zab;(iterate 4 exact Z)))
  all_goals(apply Zaz [];(apply Zad Zab;exact Z);(iterate 4 exact Z))
  all_goals rfl
 | true=>
  have hw:=hw rfl
  clear hF
  refine AP.ofA ?_
  refine Zan Tryz.func30 rfl Tryz.ntmps30 rfl rfl ?_
  repeat'(first|rw[hw]|(apply Zaa (hP);kernel_rfl;(iterate 4 exact Z))|(apply Zai Zab;exact Z)|(apply Zah Zab;exact Z)|(apply Zaw Zab;exact Z)|(apply Zae;(iterate 3 exact Z);exact Go.Zqy)|(apply Zag;exact Z;exact Go.Zqy;exact Z;exact Z)|(apply Zac;exact Z;exact Go.Zqy)|(apply Zaf;exact Z;exact Go.Zqy)|(apply Zao Zab;(iterate 4 exact Z)))
  all_goals(apply Zaz [];(apply Zad Zab;exact Z);(iterate 4 exact Z))
  all_goals rfl
theorem Zpz [Known](ty num fl F:Nat)(sum:Int)(d:List UInt8)(g:Bool)(ok:Bool)(zn:Nat)(hg:decide ((fl:Int) ≥ 16)=g)(hF:g=false->fl=F)(hw:g=true->IntKind.u64.wrap ((fl:Int)-16)=(F:Int))(t0:decide ((ty:Int)<1)=false)(t1:decide ((ty:Int)>255)=false)(t2:decide ((num:Int)<1)=false)(t3:decide ((num:Int)>255)=false)(t4:decide ((F:Int)>7)=false)(t5:decide (sum<0)=false)(t6:decide (sum>2)=false)(t7:decide (((d.map E.byte).length:Int)>200)=false)(u6:((ty:Int)==6)=false)(u7:((ty:Int)==7)=true)(u10:((ty:Int)==10)=false)(hP:AP Tryz.prog 39 [byE d] (.tup [.int .u64 (zn:Int),.bool ok]) []) :
  AP Tryz.prog 30 [.agg [.int .u64 (ty:Int),.int .u64 (num:Int),.int .u64 (fl:Int),.int .i64 sum,byE d]] (.bool ok) []:=by
 cases g with
 | false=>
  obtain rfl:=hF rfl
  clear hw hF
  refine AP.ofA ?_
  refine Zan Tryz.func30 rfl Tryz.ntmps30 rfl rfl ?_
  repeat'(first|(apply Zaa (hP);kernel_rfl;(iterate 4 exact Z))|(apply Zai Zab;exact Z)|(apply Zah Zab;exact Z)|(apply Zaw Zab;exact Z)|(apply Zae;(iterate 3 exact Z);exact Go.Zqy)|(apply Zag;exact Z;exact Go.Zqy;exact Z;exact Z)|(apply Zac;exact Z;exact Go.Zqy)|(apply Zaf;exact Z;exact Go.Zqy)|(apply Zao Zab;(iterate 4 exact Z)))
  all_goals(apply Zaz [];(apply Zad Zab;exact Z);(iterate 4 exact Z))
  all_goals rfl
 | true=>
  have hw:=hw rfl
  clear hF
  refine AP.ofA ?_
  refine Zan Tryz.func30 rfl Tryz.ntmps30 rfl rfl ?_
  repeat'(first|rw[hw]|(apply Zaa (hP);kernel_rfl;(iterate 4 exact Z))|(apply Zai Zab;exact Z)|(apply Zah Zab;exact Z)|(apply Zaw Zab;exact Z)|(apply Zae;(iterate 3 exact Z);exact Go.Zqy)|(apply Zag;exact Z;exact Go.Zqy;exact Z;exact Z)|(apply Zac;exact Z;exact Go.Zqy)|(apply Zaf;exact Z;exact Go.Zqy)|(apply Zao Zab;(iterate 4 exact Z)))
  all_goals(apply Zaz [];(apply Zad Zab;exact Z);(iterate 4 exact Z))
  all_goals rfl
theorem ZoO [Known](ty num fl F:Nat)(sum:Int)(d:List UInt8)(g:Bool)(ok:Bool)(zn zm:Nat)(hg:decide ((fl:Int) ≥ 16)=g)(hF:g=false->fl=F)(hw:g=true->IntKind.u64.wrap ((fl:Int)-16)=(F:Int))(t0:decide ((ty:Int)<1)=false)(t1:decide ((ty:Int)>255)=false)(t2:decide ((num:Int)<1)=false)(t3:decide ((num:Int)>255)=false)(t4:decide ((F:Int)>7)=false)(t5:decide (sum<0)=false)(t6:decide (sum>2)=false)(t7:decide (((d.map E.byte).length:Int)>200)=false)(u6:((ty:Int)==6)=false)(u7:((ty:Int)==7)=false)(u10:((ty:Int)==10)=true)(hP:AP Tryz.prog 40 [byE d] (.tup [.int .u64 (zn:Int),.int .u64 (zm:Int),.bool ok]) []) :
  AP Tryz.prog 30 [.agg [.int .u64 (ty:Int),.int .u64 (num:Int),.int .u64 (fl:Int),.int .i64 sum,byE d]] (.bool ok) []:=by
 cases g with
 | false=>
  obtain rfl:=hF rfl
  clear hw hF
  refine AP.ofA ?_
  refine Zan Tryz.func30 rfl Tryz.ntmps30 rfl rfl ?_
  repeat'(first|(apply Zaa (hP);kernel_rfl;(iterate 4 exact Z))|(apply Zai Zab;exact Z)|(apply Zah Zab;exact Z)|(apply Zaw Zab;exact Z)|(apply Zae;(iterate 3 exact Z);exact Go.Zqy)|(apply Zag;exact Z;exact Go.Zqy;exact Z;exact Z)|(apply Zac;exact Z;exact Go.Zqy)|(apply Zaf;exact Z;exact Go.Zqy)|(apply Zao Zab;(iterate 4 exact Z)))
  all_goals(apply Zaz [];(apply Zad Zab;exact Z);(iterate 4 exact Z))
  all_goals rfl
 | true=>
  have hw:=hw rfl
  clear hF
  refine AP.ofA ?_
  refine Zan Tryz.func30 rfl Tryz.ntmps30 rfl rfl ?_
  repeat'(first|rw[hw]|(apply Zaa (hP);kernel_rfl;(iterate 4 exact Z))|(apply Zai Zab;exact Z)|(apply Zah Zab;exact Z)|(apply Zaw Zab;exact Z)|(apply Zae;(iterate 3 exact Z);exact Go.Zqy)|(apply Zag;exact Z;exact Go.Zqy;exact Z;exact Z)|(apply Zac;exact Z;exact Go.Zqy)|(apply Zaf;exact Z;exact Go.Zqy)|(apply Zao Zab;(iterate 4 exact Z)))
  all_goals(apply Zaz [];(apply Zad Zab;exact Z);(iterate 4 exact Z))
  all_goals rfl
theorem ZpA [Known](ty num fl F:Nat)(sum:Int)(d:List UInt8)(g:Bool)(hg:decide ((fl:Int) ≥ 16)=g)(hF:g=false->fl=F)(hw:g=true->IntKind.u64.wrap ((fl:Int)-16)=(F:Int))(t0:decide ((ty:Int)<1)=false)(t1:decide ((ty:Int)>255)=false)(t2:decide ((num:Int)<1)=false)(t3:decide ((num:Int)>255)=false)(t4:decide ((F:Int)>7)=false)(t5:decide (sum<0)=false)(t6:decide (sum>2)=false)(t7:decide (((d.map E.byte).length:Int)>200)=false)(u6:((ty:Int)==6)=false)(u7:((ty:Int)==7)=false)(u10:((ty:Int)==10)=false) :
  AP Tryz.prog 30 [.agg [.int .u64 (ty:Int),.int .u64 (num:Int),.int .u64 (fl:Int),.int .i64 sum,byE d]] (.bool true) []:=by
 cases g with
 | false=>
  obtain rfl:=hF rfl
  clear hw hF
  refine AP.ofA ?_
  refine Zan Tryz.func30 rfl Tryz.ntmps30 rfl rfl ?_
  repeat'(first|(apply Zai Zab;exact Z)|(apply Zah Zab;exact Z)|(apply Zaw Zab;exact Z)|(apply Zae;(iterate 3 exact Z);exact Go.Zqy)|(apply Zag;exact Z;exact Go.Zqy;exact Z;exact Z)|(apply Zaf;exact Z;exact Go.Zqy)|(apply Zao Zab;(iterate 4 exact Z)))
  all_goals(apply Zaz [];(apply Zad Zab;exact Z);(iterate 4 exact Z))
  all_goals rfl
 | true=>
  have hw:=hw rfl
  clear hF
  refine AP.ofA ?_
  refine Zan Tryz.func30 rfl Tryz.ntmps30 rfl rfl ?_
  repeat'(first|rw[hw]|(apply Zai Zab;exact Z)|(apply Zah Zab;exact Z)|(apply Zaw Zab;exact Z)|(apply Zae;(iterate 3 exact Z);exact Go.Zqy)|(apply Zag;exact Z;exact Go.Zqy;exact Z;exact Z)|(apply Zac;exact Z;exact Go.Zqy)|(apply Zaf;exact Z;exact Go.Zqy)|(apply Zao Zab;(iterate 4 exact Z)))
  all_goals(apply Zaz [];(apply Zad Zab;exact Z);(iterate 4 exact Z))
  all_goals rfl
theorem ZpB (fl:Nat)(h:fl<18446744073709551616):(bits .andNot .u64 (fl:Int) 23==0) = !decide (((if fl ≥ 16 then fl-16 else fl:Nat):Int)>7):=by
 rw[show(23:Int)=((23:Nat):Int) from rfl,u64_andNot_nat fl 23 h (by omega)]
 have hs:fl=fl/32*32+fl % 32:=by omega
 rcases Nat.lt_or_ge fl 32 with h1|h1
 ·have:∀ x,x<32->((((x &&& (18446744073709551615-23):Nat):Int))==0) = !decide (((if x ≥ 16 then x-16 else x:Nat):Int)>7):=by decide +kernel
  exact this fl h1
 ·have e1:decide (((if fl ≥ 16 then fl-16 else fl:Nat):Int)>7)=true:=decide_eq_true (by rw[if_pos (by omega)];omega)
  rw[e1]
  have hne:fl &&& (18446744073709551615-23) ≠ 0:=fun e=>by
   have h5:(fl &&& (18446744073709551615-23))/32=fl/32:=by
    have:(18446744073709551615-23:Nat)/32=2 ^ 59-1:=by decide
    rw[show(32:Nat)=2 ^ 5 from rfl,<- Nat.shiftRight_eq_div_pow,Nat.shiftRight_and_distrib,Nat.shiftRight_eq_div_pow,Nat.shiftRight_eq_div_pow]
    rw[show(18446744073709551615-23:Nat)/2 ^ 5=2 ^ 59-1 from by decide,Nat.and_two_pow_sub_one_eq_mod,Nat.mod_eq_of_lt (by omega)]
   rw[e]at h5
   omega
  simpa using hne
theorem Zk9 [Known][KnownU8](b:BlkV)(hfl:b.fl<18446744073709551616)(hd:b.data.length<=100000):AP Tryz.prog 30 [.agg (bkC b)] (.bool (Zbg b)) []:=by
 have hP:=Zmk b.data hd
 have hA:=ZnG b.data hd
 have hH:=Zml b.data hd
 have hk:=ZpB b.fl hfl
 obtain⟨ty,num,fl,sum,d⟩:=b
 dsimp only at *
 unfold Zbg ZjE ZnJ Zhz
 dsimp only
 rw[hk]
 have hdl:(d.map E.byte).length=d.length:=List.length_map ..
 generalize hF:(if fl ≥ 16 then fl-16 else fl)=F at *
 have hg1:decide ((fl:Int) ≥ 16)=false->fl=F:=fun h=>by
  have:=of_decide_eq_false h
  rw[<- hF,if_neg (by omega)]
 have hg2:decide ((fl:Int) ≥ 16)=true->IntKind.u64.wrap ((fl:Int)-16)=(F:Int):=fun h=>by
  have:=of_decide_eq_true h
  rw[<- hF,if_pos (by omega),IntKind.wrap_u64]
  omega
 rw[<- hdl]
 cases t0:decide ((ty:Int)<1) with
 | true=>
  have h:=Zqk ty num fl F sum d _ rfl hg1 hg2 t0
  simpa[bne]using h
 | false=>
 cases t1:decide ((ty:Int)>255) with
 | true=>
  have h:=Zql ty num fl F sum d _ rfl hg1 hg2 t0 t1
  simpa[bne]using h
 | false=>
 cases t2:decide ((num:Int)<1) with
 | true=>
  have h:=Zqm ty num fl F sum d _ rfl hg1 hg2 t0 t1 t2
  simpa[bne]using h
 | false=>
 cases t3:decide ((num:Int)>255) with
 | true=>
  have h:=Zqn ty num fl F sum d _ rfl hg1 hg2 t0 t1 t2 t3
  simpa[bne]using h
 | false=>
 cases t4:decide ((F:Int)>7) with
 | true=>
  have h:=Zqo ty num fl F sum d _ rfl hg1 hg2 t0 t1 t2 t3 t4
  simpa[bne]using h
 | false=>
 cases t5:decide (sum<0) with
 | true=>
  have c5:decide (sum ≥ 0)=false:=decide_eq_false (by have:=of_decide_eq_true t5;omega)
  have h:=Zqp ty num fl F sum d _ rfl hg1 hg2 t0 t1 t2 t3 t4 t5
  simpa[c5]using h
 | false=>
 cases t6:decide (sum>2) with
 | true=>
  have c6:decide (sum<=2)=false:=decide_eq_false (by have:=of_decide_eq_true t6;omega)
  have h:=Zqq ty num fl F sum d _ rfl hg1 hg2 t0 t1 t2 t3 t4 t5 t6
  simpa[c6]using h
 | false=>
 cases t7:decide (((d.map E.byte).length:Int)>200) with
 | true=>
  have c7:decide ((d.length:Int)<=200)=false:=decide_eq_false (by have:=of_decide_eq_true t7;rw[hdl]at this;omega)
  have h:=Zqr ty num fl F sum d _ rfl hg1 hg2 t0 t1 t2 t3 t4 t5 t6 t7
  simpa[c7]using h
 | false=>
 have c5:decide (sum ≥ 0)=true:=decide_eq_true (by have:=of_decide_eq_false t5;omega)
 have c6:decide (sum<=2)=true:=decide_eq_true (by have:=of_decide_eq_false t6;omega)
 have c7:decide (((d.map E.byte).length:Int)<=200)=true:=decide_eq_true (by have:=of_decide_eq_false t7;omega)
 rw[c5,c6,c7]
 simp only[Bool.or_self,Bool.not_false,Bool.true_and,Bool.and_true]
 cases u6:((ty:Int)==6) with
 | true=>
  have e6:(ty:Int)=6:=by simpa using u6
  dsimp only
  generalize ZnH d=z at *
  obtain⟨zi,zn,zs,zh,zd⟩:=z
  exact Zpy ty num fl F sum d _ zi _ zn zs zh zd rfl hg1 hg2 t0 t1 t2 t3 t4 t5 t6 t7 u6 (by rw[e6];rfl) (by rw[e6];rfl) hP
 | false=>
 cases u7:((ty:Int)==7) with
 | true=>
  have e7:(ty:Int)=7:=by simpa using u7
  exact Zpz ty num fl F sum d _ _ _ rfl hg1 hg2 t0 t1 t2 t3 t4 t5 t6 t7 u6 u7 (by rw[e7];rfl) hA
 | false=>
 cases u10:((ty:Int)==10) with
 | true=>exact ZoO ty num fl F sum d _ _ _ _ rfl hg1 hg2 t0 t1 t2 t3 t4 t5 t6 t7 u6 u7 u10 hH
 | false=>exact ZpA ty num fl F sum d _ rfl hg1 hg2 t0 t1 t2 t3 t4 t5 t6 t7 u6 u7 u10
end Go.Proofs.YtakblclkflnnpaaGreatDoor
end
