/- Package hop: what is not sent on. -/
import Derived.Test.YtmljabhmajehnaaGreatDoorT30
set_option linter.unusedVariables false
set_option linter.unusedSimpArgs false
section
open Go.RowKit Go.Pl Go.Av
namespace Go.Proofs.YtmljabhmajehnaaGreatDoor
set_option maxHeartbeats 4000000
theorem RL [Known][KnownU8](fl:Nat)(sum:Int)(di ri xi:Bool)(dn ds rn rs xn xs t q life:Nat)(dh dd rh rd xh xd:List UInt8)(bl:List E)(si:Bool)(sn ss:Nat)(sh sd:List UInt8)(since now e:Int)
  (ov:Bool)
  (hK:AP Tryz.prog 50 [.agg [.int .u64 (fl:Int),.int .i64 sum,.bool di,.int .u64 (dn:Int),.int .u64 (ds:Int),.str dh,.str dd,.bool ri,.int .u64 (rn:Int),.int .u64 (rs:Int),.str rh,.str rd,.bool xi,.int .u64 (xn:Int),.int .u64 (xs:Int),.str xh,.str xd,.int .u64 (t:Int),.int .u64 (q:Int),.int .u64 (life:Int),.sl .ext bl],.int .u64 since,.int .u64 now] (.int .i64 e) [])
  (hO:AP Tryz.prog 11 [.agg [.int .u64 (fl:Int),.int .i64 sum,.bool di,.int .u64 (dn:Int),.int .u64 (ds:Int),.str dh,.str dd,.bool ri,.int .u64 (rn:Int),.int .u64 (rs:Int),.str rh,.str rd,.bool xi,.int .u64 (xn:Int),.int .u64 (xs:Int),.str xh,.str xd,.int .u64 (t:Int),.int .u64 (q:Int),.int .u64 (life:Int),.sl .ext bl],.int .u64 since,.int .u64 now] (.tup [.bool ov,.int .i64 e]) [])
  (t1:(e==3)=true) :
  AP Tryz.prog 14 [.agg [.int .u64 (fl:Int),.int .i64 sum,.bool di,.int .u64 (dn:Int),.int .u64 (ds:Int),.str dh,.str dd,.bool ri,.int .u64 (rn:Int),.int .u64 (rs:Int),.str rh,.str rd,.bool xi,.int .u64 (xn:Int),.int .u64 (xs:Int),.str xh,.str xd,.int .u64 (t:Int),.int .u64 (q:Int),.int .u64 (life:Int),.sl .ext bl],.agg [.bool si,.int .u64 (sn:Int),.int .u64 (ss:Int),.str sh,.str sd],.int .u64 since,.int .u64 now] (.tup [.agg [.int .u64 0,.int .i64 0,.bool false,.int .u64 0,.int .u64 0,.str [],.str [],.bool false,.int .u64 0,.int .u64 0,.str [],.str [],.bool false,.int .u64 0,.int .u64 0,.str [],.str [],.int .u64 0,.int .u64 0,.int .u64 0,.sl .ext []],.int .i64 3]) []:=by
 refine AP.ofA (Zk Tryz.func14 Z Tryz.ntmps14 Z Z ?_)
 repeat'(first|(apply Zb (hK);kernel_rfl;(iterate 4 exact Z))|(apply Zb (hO);kernel_rfl;(iterate 4 exact Z))|(apply Zh Za;exact Z)|(apply Ze Za;exact Z)|(apply Zq Za;exact Z)|refine Zp Z Z Z Qt ?_|refine Zl Z Qt Z Z ?_|refine Zd Z Qt ?_)
 all_goals exact Qe
theorem RM [Known][KnownU8](fl:Nat)(sum:Int)(di ri xi:Bool)(dn ds rn rs xn xs t q life:Nat)(dh dd rh rd xh xd:List UInt8)(bl:List E)(si:Bool)(sn ss:Nat)(sh sd:List UInt8)(since now e:Int)
  (ov:Bool)
  (hK:AP Tryz.prog 50 [.agg [.int .u64 (fl:Int),.int .i64 sum,.bool di,.int .u64 (dn:Int),.int .u64 (ds:Int),.str dh,.str dd,.bool ri,.int .u64 (rn:Int),.int .u64 (rs:Int),.str rh,.str rd,.bool xi,.int .u64 (xn:Int),.int .u64 (xs:Int),.str xh,.str xd,.int .u64 (t:Int),.int .u64 (q:Int),.int .u64 (life:Int),.sl .ext bl],.int .u64 since,.int .u64 now] (.int .i64 e) [])
  (hO:AP Tryz.prog 11 [.agg [.int .u64 (fl:Int),.int .i64 sum,.bool di,.int .u64 (dn:Int),.int .u64 (ds:Int),.str dh,.str dd,.bool ri,.int .u64 (rn:Int),.int .u64 (rs:Int),.str rh,.str rd,.bool xi,.int .u64 (xn:Int),.int .u64 (xs:Int),.str xh,.str xd,.int .u64 (t:Int),.int .u64 (q:Int),.int .u64 (life:Int),.sl .ext bl],.int .u64 since,.int .u64 now] (.tup [.bool ov,.int .i64 e]) [])
  (t1:(e==3)=false)
  (hE:AP Tryz.prog 51 [.agg [.bool si,.int .u64 (sn:Int),.int .u64 (ss:Int),.str sh,.str sd]] (.bool false) []) :
  AP Tryz.prog 14 [.agg [.int .u64 (fl:Int),.int .i64 sum,.bool di,.int .u64 (dn:Int),.int .u64 (ds:Int),.str dh,.str dd,.bool ri,.int .u64 (rn:Int),.int .u64 (rs:Int),.str rh,.str rd,.bool xi,.int .u64 (xn:Int),.int .u64 (xs:Int),.str xh,.str xd,.int .u64 (t:Int),.int .u64 (q:Int),.int .u64 (life:Int),.sl .ext bl],.agg [.bool si,.int .u64 (sn:Int),.int .u64 (ss:Int),.str sh,.str sd],.int .u64 since,.int .u64 now] (.tup [.agg [.int .u64 0,.int .i64 0,.bool false,.int .u64 0,.int .u64 0,.str [],.str [],.bool false,.int .u64 0,.int .u64 0,.str [],.str [],.bool false,.int .u64 0,.int .u64 0,.str [],.str [],.int .u64 0,.int .u64 0,.int .u64 0,.sl .ext []],.int .i64 3]) []:=by
 refine AP.ofA (Zk Tryz.func14 Z Tryz.ntmps14 Z Z ?_)
 repeat'(first|(apply Zb (hK);kernel_rfl;(iterate 4 exact Z))|(apply Zb (hO);kernel_rfl;(iterate 4 exact Z))|(apply Zb (hE);kernel_rfl;(iterate 4 exact Z))|(apply Zh Za;exact Z)|(apply Ze Za;exact Z)|(apply Zq Za;exact Z)|refine Zg Z Z Z Qt ?_|refine Zp Z Z Z Qt ?_|refine Zl Z Qt Z Z ?_|refine Zi Z Qt Z Z ?_|refine Zd Z Qt ?_)
 all_goals exact Qe
theorem RN [Known][KnownU8](fl:Nat)(sum:Int)(di ri xi:Bool)(dn ds rn rs xn xs t q life:Nat)(dh dd rh rd xh xd:List UInt8)(bl:List E)(si:Bool)(sn ss:Nat)(sh sd:List UInt8)(since now e:Int)
  (ov:Bool)
  (hK:AP Tryz.prog 50 [.agg [.int .u64 (fl:Int),.int .i64 sum,.bool di,.int .u64 (dn:Int),.int .u64 (ds:Int),.str dh,.str dd,.bool ri,.int .u64 (rn:Int),.int .u64 (rs:Int),.str rh,.str rd,.bool xi,.int .u64 (xn:Int),.int .u64 (xs:Int),.str xh,.str xd,.int .u64 (t:Int),.int .u64 (q:Int),.int .u64 (life:Int),.sl .ext bl],.int .u64 since,.int .u64 now] (.int .i64 e) [])
  (hO:AP Tryz.prog 11 [.agg [.int .u64 (fl:Int),.int .i64 sum,.bool di,.int .u64 (dn:Int),.int .u64 (ds:Int),.str dh,.str dd,.bool ri,.int .u64 (rn:Int),.int .u64 (rs:Int),.str rh,.str rd,.bool xi,.int .u64 (xn:Int),.int .u64 (xs:Int),.str xh,.str xd,.int .u64 (t:Int),.int .u64 (q:Int),.int .u64 (life:Int),.sl .ext bl],.int .u64 since,.int .u64 now] (.tup [.bool ov,.int .i64 e]) [])
  (t1:(e==3)=false)
  (hE:AP Tryz.prog 51 [.agg [.bool si,.int .u64 (sn:Int),.int .u64 (ss:Int),.str sh,.str sd]] (.bool true) [])
  (t2:((si==false)&&(((sn:Int)==0)&&(((ss:Int)==0)&&((sh==[])&&((sd==[])&&true)))))=true) :
  AP Tryz.prog 14 [.agg [.int .u64 (fl:Int),.int .i64 sum,.bool di,.int .u64 (dn:Int),.int .u64 (ds:Int),.str dh,.str dd,.bool ri,.int .u64 (rn:Int),.int .u64 (rs:Int),.str rh,.str rd,.bool xi,.int .u64 (xn:Int),.int .u64 (xs:Int),.str xh,.str xd,.int .u64 (t:Int),.int .u64 (q:Int),.int .u64 (life:Int),.sl .ext bl],.agg [.bool si,.int .u64 (sn:Int),.int .u64 (ss:Int),.str sh,.str sd],.int .u64 since,.int .u64 now] (.tup [.agg [.int .u64 0,.int .i64 0,.bool false,.int .u64 0,.int .u64 0,.str [],.str [],.bool false,.int .u64 0,.int .u64 0,.str [],.str [],.bool false,.int .u64 0,.int .u64 0,.str [],.str [],.int .u64 0,.int .u64 0,.int .u64 0,.sl .ext []],.int .i64 3]) []:=by
 refine AP.ofA (Zk Tryz.func14 Z Tryz.ntmps14 Z Z ?_)
 repeat'(first|(apply Zb (hK);kernel_rfl;(iterate 4 exact Z))|(apply Zb (hO);kernel_rfl;(iterate 4 exact Z))|(apply Zb (hE);kernel_rfl;(iterate 4 exact Z))|(apply Zh Za;exact Z)|(apply Ze Za;exact Z)|(apply Zq Za;exact Z)|refine Zg Z Z Z Qt ?_|refine Zi Z Qt Z Z ?_|refine Zd Z Qt ?_|refine Wo Za Z Z Z Z Qk Qk Z Z Z ?_)
 all_goals exact Qe
theorem RO [Known][KnownU8](fl:Nat)(sum:Int)(di ri xi:Bool)(dn ds rn rs xn xs t q life:Nat)(dh dd rh rd xh xd:List UInt8)(bl:List E)(si:Bool)(sn ss:Nat)(sh sd:List UInt8)(since now e:Int)
  (ov:Bool)
  (hK:AP Tryz.prog 50 [.agg [.int .u64 (fl:Int),.int .i64 sum,.bool di,.int .u64 (dn:Int),.int .u64 (ds:Int),.str dh,.str dd,.bool ri,.int .u64 (rn:Int),.int .u64 (rs:Int),.str rh,.str rd,.bool xi,.int .u64 (xn:Int),.int .u64 (xs:Int),.str xh,.str xd,.int .u64 (t:Int),.int .u64 (q:Int),.int .u64 (life:Int),.sl .ext bl],.int .u64 since,.int .u64 now] (.int .i64 e) [])
  (hO:AP Tryz.prog 11 [.agg [.int .u64 (fl:Int),.int .i64 sum,.bool di,.int .u64 (dn:Int),.int .u64 (ds:Int),.str dh,.str dd,.bool ri,.int .u64 (rn:Int),.int .u64 (rs:Int),.str rh,.str rd,.bool xi,.int .u64 (xn:Int),.int .u64 (xs:Int),.str xh,.str xd,.int .u64 (t:Int),.int .u64 (q:Int),.int .u64 (life:Int),.sl .ext bl],.int .u64 since,.int .u64 now] (.tup [.bool ov,.int .i64 e]) [])
  (t1:(e==3)=false)
  (hE:AP Tryz.prog 51 [.agg [.bool si,.int .u64 (sn:Int),.int .u64 (ss:Int),.str sh,.str sd]] (.bool true) [])
  (t2:((si==false)&&(((sn:Int)==0)&&(((ss:Int)==0)&&((sh==[])&&((sd==[])&&true)))))=false)
  (t3:(e != 0)=true) :
  AP Tryz.prog 14 [.agg [.int .u64 (fl:Int),.int .i64 sum,.bool di,.int .u64 (dn:Int),.int .u64 (ds:Int),.str dh,.str dd,.bool ri,.int .u64 (rn:Int),.int .u64 (rs:Int),.str rh,.str rd,.bool xi,.int .u64 (xn:Int),.int .u64 (xs:Int),.str xh,.str xd,.int .u64 (t:Int),.int .u64 (q:Int),.int .u64 (life:Int),.sl .ext bl],.agg [.bool si,.int .u64 (sn:Int),.int .u64 (ss:Int),.str sh,.str sd],.int .u64 since,.int .u64 now] (.tup [.agg [.int .u64 0,.int .i64 0,.bool false,.int .u64 0,.int .u64 0,.str [],.str [],.bool false,.int .u64 0,.int .u64 0,.str [],.str [],.bool false,.int .u64 0,.int .u64 0,.str [],.str [],.int .u64 0,.int .u64 0,.int .u64 0,.sl .ext []],.int .i64 e]) []:=by
 refine AP.ofA (Zk Tryz.func14 Z Tryz.ntmps14 Z Z ?_)
 repeat'(first|(apply Zb (hK);kernel_rfl;(iterate 4 exact Z))|(apply Zb (hO);kernel_rfl;(iterate 4 exact Z))|(apply Zb (hE);kernel_rfl;(iterate 4 exact Z))|(apply Zh Za;exact Z)|(apply Ze Za;exact Z)|(apply Zq Za;exact Z)|refine Zg Z Z Z Qt ?_|refine Zi Z Qt Z Z ?_|refine Zd Z Qt ?_|refine Zf Z Qt ?_|refine Wo Za Z Z Z Z Qk Qk Z Z Z ?_)
 all_goals exact Qe
theorem RP [Known][KnownU8](fl:Nat)(sum:Int)(di ri xi:Bool)(dn ds rn rs xn xs t q life:Nat)(dh dd rh rd xh xd:List UInt8)(bl:List E)(si:Bool)(sn ss:Nat)(sh sd:List UInt8)(since now e:Int)
  (hK:AP Tryz.prog 50 [.agg [.int .u64 (fl:Int),.int .i64 sum,.bool di,.int .u64 (dn:Int),.int .u64 (ds:Int),.str dh,.str dd,.bool ri,.int .u64 (rn:Int),.int .u64 (rs:Int),.str rh,.str rd,.bool xi,.int .u64 (xn:Int),.int .u64 (xs:Int),.str xh,.str xd,.int .u64 (t:Int),.int .u64 (q:Int),.int .u64 (life:Int),.sl .ext bl],.int .u64 since,.int .u64 now] (.int .i64 e) [])
  (hO:AP Tryz.prog 11 [.agg [.int .u64 (fl:Int),.int .i64 sum,.bool di,.int .u64 (dn:Int),.int .u64 (ds:Int),.str dh,.str dd,.bool ri,.int .u64 (rn:Int),.int .u64 (rs:Int),.str rh,.str rd,.bool xi,.int .u64 (xn:Int),.int .u64 (xs:Int),.str xh,.str xd,.int .u64 (t:Int),.int .u64 (q:Int),.int .u64 (life:Int),.sl .ext bl],.int .u64 since,.int .u64 now] (.tup [.bool true,.int .i64 e]) [])
  (t1:(e==3)=false)
  (hE:AP Tryz.prog 51 [.agg [.bool si,.int .u64 (sn:Int),.int .u64 (ss:Int),.str sh,.str sd]] (.bool true) [])
  (t2:((si==false)&&(((sn:Int)==0)&&(((ss:Int)==0)&&((sh==[])&&((sd==[])&&true)))))=false)
  (t3:(e != 0)=false) :
  AP Tryz.prog 14 [.agg [.int .u64 (fl:Int),.int .i64 sum,.bool di,.int .u64 (dn:Int),.int .u64 (ds:Int),.str dh,.str dd,.bool ri,.int .u64 (rn:Int),.int .u64 (rs:Int),.str rh,.str rd,.bool xi,.int .u64 (xn:Int),.int .u64 (xs:Int),.str xh,.str xd,.int .u64 (t:Int),.int .u64 (q:Int),.int .u64 (life:Int),.sl .ext bl],.agg [.bool si,.int .u64 (sn:Int),.int .u64 (ss:Int),.str sh,.str sd],.int .u64 since,.int .u64 now] (.tup [.agg [.int .u64 0,.int .i64 0,.bool false,.int .u64 0,.int .u64 0,.str [],.str [],.bool false,.int .u64 0,.int .u64 0,.str [],.str [],.bool false,.int .u64 0,.int .u64 0,.str [],.str [],.int .u64 0,.int .u64 0,.int .u64 0,.sl .ext []],.int .i64 18]) []:=by
 refine AP.ofA (Zk Tryz.func14 Z Tryz.ntmps14 Z Z ?_)
 repeat'(first|(apply Zb (hK);kernel_rfl;(iterate 4 exact Z))|(apply Zb (hO);kernel_rfl;(iterate 4 exact Z))|(apply Zb (hE);kernel_rfl;(iterate 4 exact Z))|(apply Zh Za;exact Z)|(apply Ze Za;exact Z)|(apply Zq Za;exact Z)|refine Zg Z Z Z Qt ?_|refine Zi Z Qt Z Z ?_|refine Zd Z Qt ?_|refine Zf Z Qt ?_|refine Wo Za Z Z Z Z Qk Qk Z Z Z ?_)
 all_goals exact Qe
theorem RQ [Known][KnownU8](fl:Nat)(sum:Int)(di ri xi:Bool)(dn ds rn rs xn xs t q life:Nat)(dh dd rh rd xh xd:List UInt8)(bl:List E)(si:Bool)(sn ss:Nat)(sh sd:List UInt8)(since now e:Int)
  (hK:AP Tryz.prog 50 [.agg [.int .u64 (fl:Int),.int .i64 sum,.bool di,.int .u64 (dn:Int),.int .u64 (ds:Int),.str dh,.str dd,.bool ri,.int .u64 (rn:Int),.int .u64 (rs:Int),.str rh,.str rd,.bool xi,.int .u64 (xn:Int),.int .u64 (xs:Int),.str xh,.str xd,.int .u64 (t:Int),.int .u64 (q:Int),.int .u64 (life:Int),.sl .ext bl],.int .u64 since,.int .u64 now] (.int .i64 e) [])
  (hO:AP Tryz.prog 11 [.agg [.int .u64 (fl:Int),.int .i64 sum,.bool di,.int .u64 (dn:Int),.int .u64 (ds:Int),.str dh,.str dd,.bool ri,.int .u64 (rn:Int),.int .u64 (rs:Int),.str rh,.str rd,.bool xi,.int .u64 (xn:Int),.int .u64 (xs:Int),.str xh,.str xd,.int .u64 (t:Int),.int .u64 (q:Int),.int .u64 (life:Int),.sl .ext bl],.int .u64 since,.int .u64 now] (.tup [.bool false,.int .i64 e]) [])
  (t1:(e==3)=false)
  (hE:AP Tryz.prog 51 [.agg [.bool si,.int .u64 (sn:Int),.int .u64 (ss:Int),.str sh,.str sd]] (.bool true) [])
  (t2:((si==false)&&(((sn:Int)==0)&&(((ss:Int)==0)&&((sh==[])&&((sd==[])&&true)))))=false)
  (t3:(e != 0)=false)
  (hS:AP Tryz.prog 52 [.agg [.int .u64 (fl:Int),.int .i64 sum,.bool di,.int .u64 (dn:Int),.int .u64 (ds:Int),.str dh,.str dd,.bool ri,.int .u64 (rn:Int),.int .u64 (rs:Int),.str rh,.str rd,.bool xi,.int .u64 (xn:Int),.int .u64 (xs:Int),.str xh,.str xd,.int .u64 (t:Int),.int .u64 (q:Int),.int .u64 (life:Int),.sl .ext bl]] (.bool true) []) :
  AP Tryz.prog 14 [.agg [.int .u64 (fl:Int),.int .i64 sum,.bool di,.int .u64 (dn:Int),.int .u64 (ds:Int),.str dh,.str dd,.bool ri,.int .u64 (rn:Int),.int .u64 (rs:Int),.str rh,.str rd,.bool xi,.int .u64 (xn:Int),.int .u64 (xs:Int),.str xh,.str xd,.int .u64 (t:Int),.int .u64 (q:Int),.int .u64 (life:Int),.sl .ext bl],.agg [.bool si,.int .u64 (sn:Int),.int .u64 (ss:Int),.str sh,.str sd],.int .u64 since,.int .u64 now] (.tup [.agg [.int .u64 0,.int .i64 0,.bool false,.int .u64 0,.int .u64 0,.str [],.str [],.bool false,.int .u64 0,.int .u64 0,.str [],.str [],.bool false,.int .u64 0,.int .u64 0,.str [],.str [],.int .u64 0,.int .u64 0,.int .u64 0,.sl .ext []],.int .i64 19]) []:=by
 refine AP.ofA (Zk Tryz.func14 Z Tryz.ntmps14 Z Z ?_)
 repeat'(first|(apply Zb (hK);kernel_rfl;(iterate 4 exact Z))|(apply Zb (hO);kernel_rfl;(iterate 4 exact Z))|(apply Zb (hE);kernel_rfl;(iterate 4 exact Z))|(apply Zb (hS);kernel_rfl;(iterate 4 exact Z))|(apply Zh Za;exact Z)|(apply Ze Za;exact Z)|(apply Zq Za;exact Z)|refine Zg Z Z Z Qt ?_|refine Zi Z Qt Z Z ?_|refine Zd Z Qt ?_|refine Zf Z Qt ?_|refine Wo Za Z Z Z Z Qk Qk Z Z Z ?_)
 all_goals exact Qe
theorem RR [Known][KnownU8](fl:Nat)(sum:Int)(di ri xi:Bool)(dn ds rn rs xn xs t q life:Nat)(dh dd rh rd xh xd:List UInt8)(bl:List BlkV)(si:Bool)(sn ss:Nat)(sh sd:List UInt8)(since now e:Int)
  (hK:AP Tryz.prog 50 [.agg [.int .u64 (fl:Int),.int .i64 sum,.bool di,.int .u64 (dn:Int),.int .u64 (ds:Int),.str dh,.str dd,.bool ri,.int .u64 (rn:Int),.int .u64 (rs:Int),.str rh,.str rd,.bool xi,.int .u64 (xn:Int),.int .u64 (xs:Int),.str xh,.str xd,.int .u64 (t:Int),.int .u64 (q:Int),.int .u64 (life:Int),.sl .ext (ZU bl)],.int .u64 since,.int .u64 now] (.int .i64 e) [])
  (hO:AP Tryz.prog 11 [.agg [.int .u64 (fl:Int),.int .i64 sum,.bool di,.int .u64 (dn:Int),.int .u64 (ds:Int),.str dh,.str dd,.bool ri,.int .u64 (rn:Int),.int .u64 (rs:Int),.str rh,.str rd,.bool xi,.int .u64 (xn:Int),.int .u64 (xs:Int),.str xh,.str xd,.int .u64 (t:Int),.int .u64 (q:Int),.int .u64 (life:Int),.sl .ext (ZU bl)],.int .u64 since,.int .u64 now] (.tup [.bool false,.int .i64 e]) []) (t1:(e==3)=false)
  (hE:AP Tryz.prog 51 [.agg [.bool si,.int .u64 (sn:Int),.int .u64 (ss:Int),.str sh,.str sd]] (.bool true) []) (t2:((si==false)&&(((sn:Int)==0)&&(((ss:Int)==0)&&((sh==[])&&((sd==[])&&true)))))=false) (t3:(e != 0)=false)
  (hS:AP Tryz.prog 52 [.agg [.int .u64 (fl:Int),.int .i64 sum,.bool di,.int .u64 (dn:Int),.int .u64 (ds:Int),.str dh,.str dd,.bool ri,.int .u64 (rn:Int),.int .u64 (rs:Int),.str rh,.str rd,.bool xi,.int .u64 (xn:Int),.int .u64 (xs:Int),.str xh,.str xd,.int .u64 (t:Int),.int .u64 (q:Int),.int .u64 (life:Int),.sl .ext (ZU bl)]] (.bool false) [])
  (hbl:bl.length<=1000) (hok:∀ c ∈ bl,XD c) (hfl:fl<18446744073709551616)
  (preB:BlkV) (hpre:XD preB) (nn:Int) (hN:AP Tryz.prog 54 [.agg [.int .u64 (fl:Int),.int .i64 sum,.bool di,.int .u64 (dn:Int),.int .u64 (ds:Int),.str dh,.str dd,.bool ri,.int .u64 (rn:Int),.int .u64 (rs:Int),.str rh,.str rd,.bool xi,.int .u64 (xn:Int),.int .u64 (xs:Int),.str xh,.str xd,.int .u64 (t:Int),.int .u64 (q:Int),.int .u64 (life:Int),.sl .ext (ZU bl)]] (.int .u64 nn) []) (pe:Int) (hP:AP Tryz.prog 53 [.int .u64 nn,.int .i64 0,.agg [.bool si,.int .u64 (sn:Int),.int .u64 (ss:Int),.str sh,.str sd]] (.tup [.agg (bkC preB),.int .i64 pe]) [])
  (hF:AP Tryz.prog 12 [.agg [.int .u64 (fl:Int),.int .i64 sum,.bool di,.int .u64 (dn:Int),.int .u64 (ds:Int),.str dh,.str dd,.bool ri,.int .u64 (rn:Int),.int .u64 (rs:Int),.str rh,.str rd,.bool xi,.int .u64 (xn:Int),.int .u64 (xs:Int),.str xh,.str xd,.int .u64 (t:Int),.int .u64 (q:Int),.int .u64 (life:Int),.sl .ext (ZU bl)],.int .u64 6] (UP none) []) (d:D) (hd:onD (Ur ⟨fl,sum,⟨di,dn,ds,dh,dd⟩,⟨ri,rn,rs,rh,rd⟩,⟨xi,xn,xs,xh,xd⟩,t,q,life⟩ (onC ⟨si,sn,ss,sh,sd⟩ (IntKind.u64.wrap (now-since)) [preB] bl))=d) :
  AP Tryz.prog 14 [.agg [.int .u64 (fl:Int),.int .i64 sum,.bool di,.int .u64 (dn:Int),.int .u64 (ds:Int),.str dh,.str dd,.bool ri,.int .u64 (rn:Int),.int .u64 (rs:Int),.str rh,.str rd,.bool xi,.int .u64 (xn:Int),.int .u64 (xs:Int),.str xh,.str xd,.int .u64 (t:Int),.int .u64 (q:Int),.int .u64 (life:Int),.sl .ext (ZU bl)],.agg [.bool si,.int .u64 (sn:Int),.int .u64 (ss:Int),.str sh,.str sd],.int .u64 since,.int .u64 now] d []:=by
 have hlen:=Wn bl
 have hU:=Qx bl
 generalize hFq:onC ⟨si,sn,ss,sh,sd⟩ (IntKind.u64.wrap (now-since)) [preB] bl=F at hd
 obtain⟨pty,pnum,pfl,psum,pdata⟩:=preB
 dsimp only[UP]at hF
 refine AP.ofA (Zk Tryz.func14 Z Tryz.ntmps14 Z Z ?_)
 repeat'(first|(apply Zb (hK);kernel_rfl;(iterate 4 exact Z))|(apply Zb (hO);kernel_rfl;(iterate 4 exact Z))|(apply Zb (hE);kernel_rfl;(iterate 4 exact Z))|(apply Zb (hS);kernel_rfl;(iterate 4 exact Z))|(apply Zb (hF);kernel_rfl;(iterate 4 exact Z))|(apply Zb (hN);kernel_rfl;(iterate 4 exact Z))|(apply Zb (hP);kernel_rfl;(iterate 4 exact Z))|refine ZZ Za Z Z Z Z Z Z (Zj rfl) (List.cons_ne_nil _ _) Z Qd Qd Z Z Z ?_|(apply Zh Za;exact Z)|(apply Ze Za;exact Z)|(apply Zq Za;exact Z)|refine Zg Z Z Z Qt ?_|refine Zi Z Qt Z Z ?_|refine Zd Z Qt ?_|refine Zf Z Qt ?_|refine Zm Za Z Z Z Z ?_|refine ZT Za Z Z Z Z Z Z Z Z Z Z Z Z ?_|refine Wo Za Z Z Z Z Qk Qk Z Z Z ?_|(apply Zn 9 ZF;decide +kernel;kernel_rfl;kernel_rfl;kernel_rfl;exact Z;exact Z)|(apply Zs;(iterate 4 exact Z))|exact AE.nil _ _ _ _|(apply Zx;exact Z)|(apply Ye;exact Z)|(apply Vs;exact Z)|(apply ZA;exact Z;exact Z;decide +kernel;exact Z)|(apply ZB;exact Z)|(apply Yu;exact Z)|(apply UB;exact Z)|exact AO.nil _ _ _|(apply Zr;(decide +kernel))|(apply Z4;(iterate 3 exact Z))|exact AOs.nil|exact ZM rfl rfl|exact Y4 rfl rfl|exact VR rfl)
 show AW _ _ _ _
 refine ZW (fun f tm bx fr=>∃(i c:Nat) (acc:List BlkV) (f0:Fr),f+i=bl.length/\c=(ZU acc).length/\(∀ c ∈ acc,XD c)/\acc.length<=i+1/\onC ⟨si,sn,ss,sh,sd⟩ (IntKind.u64.wrap (now-since)) acc (bl.drop i)=F/\tm=[(2,.int .u64 since),(3,.int .u64 now),(4,.ptr 0 0),(5,.ptr 1 0),(8,.ptr 2 0),(13,.ptr 3 0),(83,.sl .ext (ZU bl)),(84,.int .i64 ((ZU bl).length:Int)),(85,.int .i64 (i:Int))] /\
   ((acc=[]/\bx=[[.int .u64 (fl:Int),.int .i64 sum,.bool di,.int .u64 (dn:Int),.int .u64 (ds:Int),.str dh,.str dd,.bool ri,.int .u64 (rn:Int),.int .u64 (rs:Int),.str rh,.str rd,.bool xi,.int .u64 (xn:Int),.int .u64 (xs:Int),.str xh,.str xd,.int .u64 (t:Int),.int .u64 (q:Int),.int .u64 (life:Int),.sl .ext (ZU bl)],[.bool si,.int .u64 (sn:Int),.int .u64 (ss:Int),.str sh,.str sd],[.int .u64 0,.int .i64 0,.bool false,.int .u64 0,.int .u64 0,.str [],.str [],.bool false,.int .u64 0,.int .u64 0,.str [],.str [],.bool false,.int .u64 0,.int .u64 0,.str [],.str [],.int .u64 0,.int .u64 0,.int .u64 0,.sl .nil []],[.int .u64 (fl:Int),.int .i64 sum,.bool di,.int .u64 (dn:Int),.int .u64 (ds:Int),.str dh,.str dd,.bool ri,.int .u64 (rn:Int),.int .u64 (rs:Int),.str rh,.str rd,.bool xi,.int .u64 (xn:Int),.int .u64 (xs:Int),.str xh,.str xd,.int .u64 (t:Int),.int .u64 (q:Int),.int .u64 (life:Int),.sl .nil []]]/\fr=[]) \/
   (bx=[[.int .u64 (fl:Int),.int .i64 sum,.bool di,.int .u64 (dn:Int),.int .u64 (ds:Int),.str dh,.str dd,.bool ri,.int .u64 (rn:Int),.int .u64 (rs:Int),.str rh,.str rd,.bool xi,.int .u64 (xn:Int),.int .u64 (xs:Int),.str xh,.str xd,.int .u64 (t:Int),.int .u64 (q:Int),.int .u64 (life:Int),.sl .ext (ZU bl)],[.bool si,.int .u64 (sn:Int),.int .u64 (ss:Int),.str sh,.str sd],[.int .u64 0,.int .i64 0,.bool false,.int .u64 0,.int .u64 0,.str [],.str [],.bool false,.int .u64 0,.int .u64 0,.str [],.str [],.bool false,.int .u64 0,.int .u64 0,.str [],.str [],.int .u64 0,.int .u64 0,.int .u64 0,.sl .nil []],[.int .u64 (fl:Int),.int .i64 sum,.bool di,.int .u64 (dn:Int),.int .u64 (ds:Int),.str dh,.str dd,.bool ri,.int .u64 (rn:Int),.int .u64 (rs:Int),.str rh,.str rd,.bool xi,.int .u64 (xn:Int),.int .u64 (xs:Int),.str xh,.str xd,.int .u64 (t:Int),.int .u64 (q:Int),.int .u64 (life:Int),.sl (.own 1) (ZU acc)]]/\fr=[f0,⟨c,5,40⟩]))) (bl.length+1) (Lands.mk' (m:=bl.length) (Nat.lt_succ_self _) ⟨0,1,[⟨pty,pnum,pfl,psum,pdata⟩],_,by omega,rfl,fun c hc=>by simp at hc;subst hc;exact hpre,by simp,hFq,rfl,.inr ⟨rfl,rfl⟩⟩ ?_ rfl rfl rfl rfl rfl rfl) ?_
 ·exact .cons rfl (.cons rfl (.cons rfl (.cons rfl (.cons rfl (.cons rfl (.cons rfl (.cons rfl (.cons rfl .nil))))))))
 rintro f tm bx fr ⟨i,c,acc,f0,hf,hc,hab,hal,hq,rfl,hst⟩
 rcases Nat.lt_or_ge i bl.length with hlt|hge
 ·have hdl:decide ((i:Int)<((ZU bl).length:Int))=true:=decide_eq_true (by omega)
  obtain⟨z,hy⟩:∃ y,bl[i]?=some y:=⟨_,List.getElem?_eq_getElem hlt⟩
  have hzo:=hok z (List.mem_of_getElem? hy)
  have hG:=XA z ⟨si,sn,ss,sh,sd⟩ (IntKind.u64.wrap (now-since)) (Nat.le_trans hzo.2 (by omega)) (GS (Nat.le_trans hzo.2 (by omega)))
  have hco:=Jp ⟨si,sn,ss,sh,sd⟩ (IntKind.u64.wrap (now-since)) hzo
  have hdr:bl.drop i=z::bl.drop (i+1):=by
   rw[List.drop_eq_getElem_cons hlt];congr 1
   exact(List.getElem?_eq_some_iff.1 hy).2
  rw[hdr,onC]at hq
  have ei:IntKind.i64.wrap ((i:Int)+1)=((i+1:Nat):Int):=by rw[IntWalk.i64_in _ (by omega)];omega
  have hv:=W3 hy
  generalize YO z ⟨si,sn,ss,sh,sd⟩ (IntKind.u64.wrap (now-since))=r at *
  obtain⟨cb,ok⟩:=r
  obtain⟨zty,znum,zfl,zsum,zdata⟩:=z
  dsimp only at hq hco
  cases ok with
  | false=>
   replace hG:AP Tryz.prog 55 _ (.tup [.agg (bkC cb),.bool false]) []:=hG
   dsimp only at hq
   subst hq
   dsimp only[Ur]at hd
   subst hd
   rcases hst with⟨rfl,rfl,rfl⟩ | ⟨rfl,rfl⟩
   ·repeat'(first|(apply Zb (hG);kernel_rfl;(iterate 4 exact Z))|(apply Zh Za;exact Z)|(apply Ze Za;exact Z)|(apply Zq Za;exact Z)|refine Zd Z Qt ?_|(apply Zu Za;(iterate 6 exact Z);(first|exact Qt|rotate_left);(first|with_reducible assumption|decide +kernel|exact Z);(first|exact Zj rfl|with_reducible assumption|decide +kernel|rotate_left)))
    all_goals exact Qe
   ·repeat'(first|(apply Zb (hG);kernel_rfl;(iterate 4 exact Z))|(apply Zh Za;exact Z)|(apply Ze Za;exact Z)|(apply Zq Za;exact Z)|refine Zd Z Qt ?_|(apply Zu Za;(iterate 6 exact Z);(first|exact Qt|rotate_left);(first|with_reducible assumption|decide +kernel|exact Z);(first|exact Zj rfl|with_reducible assumption|decide +kernel|rotate_left)))
    all_goals exact Qe
  | true=>
   replace hG:AP Tryz.prog 55 _ (.tup [.agg (bkC cb),.bool true]) []:=hG
   dsimp only at hq
   have hab2:∀ c ∈ acc++[cb],XD c:=fun c hc=>by
    rcases List.mem_append.1 hc with hc|hc
    ·exact hab c hc
    ·simp at hc;subst hc;exact hco
   have hU5:=Qx acc
   have hUc:=Qx [cb]
   subst hc
   have hbk:=Wn acc
   rcases hst with⟨rfl,rfl,rfl⟩ | ⟨rfl,rfl⟩
   ·repeat'(first|(apply Zb (hG);kernel_rfl;(iterate 4 exact Z))|rw[ei]|refine ZZ Za Z Z Z Z Z Z (Zj rfl) (List.cons_ne_nil _ _) Z Qd Qd Z Z Z ?_|(apply Zh Za;exact Z)|(apply Ze Za;exact Z)|refine Zd Z Qt ?_|refine Zf Z Qt ?_|refine ZT Za Z Z Z Z Z Z Z Z Z Z Z Z ?_|(apply Zu Za;(iterate 6 exact Z);(first|exact Qt|rotate_left);(first|with_reducible assumption|decide +kernel|exact Z);(first|exact Zj rfl|with_reducible assumption|decide +kernel|rotate_left)))
    refine Lands.mk' (m:=f-1) (by omega) ⟨i+1,1,[cb],_,by omega,rfl,hab2,by simp,hq,rfl,.inr ⟨rfl,rfl⟩⟩ ?_ rfl rfl rfl rfl rfl rfl
    exact .cons rfl (.cons rfl (.cons rfl (.cons rfl (.cons rfl (.cons rfl (.cons rfl (.cons rfl (.cons rfl .nil))))))))
   ·have hs:ZU acc++[bkE cb]=ZU (acc++[cb]):=(List.map_append (f:=bkE) (l₁:=acc) (l₂:=[cb])).symm
    repeat'(first|(apply Zb (hG);kernel_rfl;(iterate 4 exact Z))|rw[ei]|(apply Zh Za;exact Z)|(apply Ze Za;exact Z)|refine Zd Z Qt ?_|refine Zf Z Qt ?_|refine ZT Za Z Z Z Z Z Z Z Z Z Z Z Z ?_|(apply Z1 Za;(iterate 6 exact Z);(first|with_reducible assumption|decide +kernel|exact Z|rotate_left);exact Z;exact Z;(first|exact Zj rfl|with_reducible assumption|decide +kernel|rotate_left);(first|exact Zj rfl|with_reducible assumption|decide +kernel|rotate_left);(first|exact Qt|rotate_left);(first|exact Qt|rotate_left);(first|exact Qt|rotate_left);exact Z;exact Z)|(apply Zu Za;(iterate 6 exact Z);(first|exact Qt|rotate_left);(first|with_reducible assumption|decide +kernel|exact Z);(first|exact Zj rfl|with_reducible assumption|decide +kernel|rotate_left)))
    ·refine Lands.mk' (m:=f-1) (by omega) ⟨i+1,(ZU acc).length+1,acc++[cb],f0,by omega,by rw[<- hs,List.length_append];rfl,hab2,by simp;omega,hq,rfl,.inr ⟨by rw[<- hs],rfl⟩⟩ ?_ rfl rfl rfl rfl rfl rfl
     exact .cons rfl (.cons rfl (.cons rfl (.cons rfl (.cons rfl (.cons rfl (.cons rfl (.cons rfl (.cons rfl .nil))))))))
    all_goals(first|rfl|(simp only[List.length_append,List.length_cons,List.length_nil,List.length_map,Zw];done)|(simp only[List.length_append,List.length_cons,List.length_nil,List.length_map,Zw]at *;(try unfold maxLen);(try simp only[Nat.add_mul]);omega))
 ·have hdl:decide ((i:Int)<((ZU bl).length:Int))=false:=decide_eq_false (by omega)
  have hqn:F=some acc:=by
   rw[<- hq,List.drop_eq_nil_of_le hge,onC]
  subst hqn
  dsimp only[Ur]at hd
  have hRt:=VF ⟨⟨fl,sum,⟨di,dn,ds,dh,dd⟩,⟨ri,rn,rs,rh,rd⟩,⟨xi,xn,xs,xh,xd⟩,t,q,life⟩,acc⟩ ⟨hfl,by show acc.length<=_;omega,hab⟩
  cases t13:ZP ⟨⟨fl,sum,⟨di,dn,ds,dh,dd⟩,⟨ri,rn,rs,rh,rd⟩,⟨xi,xn,xs,xh,xd⟩,t,q,life⟩,acc⟩ with
  | false=>
   rw[t13]at hRt hd
   dsimp only at hd
   subst hd
   rcases hst with⟨rfl,rfl,rfl⟩ | ⟨rfl,rfl⟩
   ·repeat'(first|(apply Zb (hRt);kernel_rfl;(iterate 4 exact Z))|(apply Zh Za;exact Z)|(apply Ze Za;exact Z)|(apply Zq Za;exact Z)|refine Zd Z Qt ?_|refine Zf Z Qt ?_)
    all_goals exact Qe
   ·repeat'(first|(apply Zb (hRt);kernel_rfl;(iterate 4 exact Z))|(apply Zh Za;exact Z)|(apply Ze Za;exact Z)|(apply Zq Za;exact Z)|refine Zd Z Qt ?_|refine Zf Z Qt ?_)
    all_goals exact Qe
  | true=>
   rw[t13]at hRt hd
   dsimp only at hd
   subst hd
   rcases hst with⟨rfl,rfl,rfl⟩ | ⟨rfl,rfl⟩
   ·repeat'(first|(apply Zb (hRt);kernel_rfl;(iterate 4 exact Z))|(apply Zh Za;exact Z)|(apply Ze Za;exact Z)|(apply Zq Za;exact Z)|refine Zf Z Qt ?_)
    all_goals exact Qe
   ·repeat'(first|(apply Zb (hRt);kernel_rfl;(iterate 4 exact Z))|(apply Zh Za;exact Z)|(apply Ze Za;exact Z)|(apply Zq Za;exact Z)|refine Zf Z Qt ?_)
    all_goals exact Qe
end Go.Proofs.YtmljabhmajehnaaGreatDoor
end
