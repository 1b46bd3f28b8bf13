/- Package hop: what is not sent on. -/
import Derived.Test.YtmljabhmajehnaaGreatDoorO42
set_option linter.unusedVariables false
set_option linter.unusedSimpArgs false
section
open Go.RowKit Go.Pl Go.Av
namespace Go.Proofs.YtmljabhmajehnaaGreatDoor
set_option maxHeartbeats 4000000
theorem FT [Known][KnownU8](fl:Nat)(sum:Int)(di ri xi:Bool)(dn ds rn rs xn xs t q life:Nat)(dh dd rh rd xh xd:List UInt8)(bl:List E)(si:Bool)(sn ss:Nat)(sh sd:List UInt8)(since now e:Int)
  (ov:Bool)
  (hK:AP Tryz.prog 50 [.agg [.int .u64 (fl:Int),.int .i64 sum,.bool di,.int .u64 (dn:Int),.int .u64 (ds:Int),.str dh,.str dd,.bool ri,.int .u64 (rn:Int),.int .u64 (rs:Int),.str rh,.str rd,.bool xi,.int .u64 (xn:Int),.int .u64 (xs:Int),.str xh,.str xd,.int .u64 (t:Int),.int .u64 (q:Int),.int .u64 (life:Int),.sl .ext bl],.int .u64 since,.int .u64 now] (.int .i64 e) [])
  (hO:AP Tryz.prog 11 [.agg [.int .u64 (fl:Int),.int .i64 sum,.bool di,.int .u64 (dn:Int),.int .u64 (ds:Int),.str dh,.str dd,.bool ri,.int .u64 (rn:Int),.int .u64 (rs:Int),.str rh,.str rd,.bool xi,.int .u64 (xn:Int),.int .u64 (xs:Int),.str xh,.str xd,.int .u64 (t:Int),.int .u64 (q:Int),.int .u64 (life:Int),.sl .ext bl],.int .u64 since,.int .u64 now] (.tup [.bool ov,.int .i64 e]) [])
  (t1:(e==3)=true) :
  AP Tryz.prog 14 [.agg [.int .u64 (fl:Int),.int .i64 sum,.bool di,.int .u64 (dn:Int),.int .u64 (ds:Int),.str dh,.str dd,.bool ri,.int .u64 (rn:Int),.int .u64 (rs:Int),.str rh,.str rd,.bool xi,.int .u64 (xn:Int),.int .u64 (xs:Int),.str xh,.str xd,.int .u64 (t:Int),.int .u64 (q:Int),.int .u64 (life:Int),.sl .ext bl],.agg [.bool si,.int .u64 (sn:Int),.int .u64 (ss:Int),.str sh,.str sd],.int .u64 since,.int .u64 now] (.tup [.agg [.int .u64 0,.int .i64 0,.bool false,.int .u64 0,.int .u64 0,.str [],.str [],.bool false,.int .u64 0,.int .u64 0,.str [],.str [],.bool false,.int .u64 0,.int .u64 0,.str [],.str [],.int .u64 0,.int .u64 0,.int .u64 0,.sl .ext []],.int .i64 3]) []:=by
 refine AP.ofA (Zl Tryz.func14 U Tryz.ntmps14 U U ?_)
 repeat'(first|(apply Zb (hK);kernel_rfl;(iterate 4 exact U))|(apply Zb (hO);kernel_rfl;(iterate 4 exact U))|(apply Zh Za;exact U)|(apply Zg Za;exact U)|(apply Zo Za;exact U)|refine Zn U U U Qt ?_|refine Zk U Qt U U ?_|refine Zd U Qt ?_)
 all_goals exact Qe
theorem FU [Known][KnownU8](fl:Nat)(sum:Int)(di ri xi:Bool)(dn ds rn rs xn xs t q life:Nat)(dh dd rh rd xh xd:List UInt8)(bl:List E)(si:Bool)(sn ss:Nat)(sh sd:List UInt8)(since now e:Int)
  (ov:Bool)
  (hK:AP Tryz.prog 50 [.agg [.int .u64 (fl:Int),.int .i64 sum,.bool di,.int .u64 (dn:Int),.int .u64 (ds:Int),.str dh,.str dd,.bool ri,.int .u64 (rn:Int),.int .u64 (rs:Int),.str rh,.str rd,.bool xi,.int .u64 (xn:Int),.int .u64 (xs:Int),.str xh,.str xd,.int .u64 (t:Int),.int .u64 (q:Int),.int .u64 (life:Int),.sl .ext bl],.int .u64 since,.int .u64 now] (.int .i64 e) [])
  (hO:AP Tryz.prog 11 [.agg [.int .u64 (fl:Int),.int .i64 sum,.bool di,.int .u64 (dn:Int),.int .u64 (ds:Int),.str dh,.str dd,.bool ri,.int .u64 (rn:Int),.int .u64 (rs:Int),.str rh,.str rd,.bool xi,.int .u64 (xn:Int),.int .u64 (xs:Int),.str xh,.str xd,.int .u64 (t:Int),.int .u64 (q:Int),.int .u64 (life:Int),.sl .ext bl],.int .u64 since,.int .u64 now] (.tup [.bool ov,.int .i64 e]) [])
  (t1:(e==3)=false)
  (hE:AP Tryz.prog 51 [.agg [.bool si,.int .u64 (sn:Int),.int .u64 (ss:Int),.str sh,.str sd]] (.bool false) []) :
  AP Tryz.prog 14 [.agg [.int .u64 (fl:Int),.int .i64 sum,.bool di,.int .u64 (dn:Int),.int .u64 (ds:Int),.str dh,.str dd,.bool ri,.int .u64 (rn:Int),.int .u64 (rs:Int),.str rh,.str rd,.bool xi,.int .u64 (xn:Int),.int .u64 (xs:Int),.str xh,.str xd,.int .u64 (t:Int),.int .u64 (q:Int),.int .u64 (life:Int),.sl .ext bl],.agg [.bool si,.int .u64 (sn:Int),.int .u64 (ss:Int),.str sh,.str sd],.int .u64 since,.int .u64 now] (.tup [.agg [.int .u64 0,.int .i64 0,.bool false,.int .u64 0,.int .u64 0,.str [],.str [],.bool false,.int .u64 0,.int .u64 0,.str [],.str [],.bool false,.int .u64 0,.int .u64 0,.str [],.str [],.int .u64 0,.int .u64 0,.int .u64 0,.sl .ext []],.int .i64 3]) []:=by
 refine AP.ofA (Zl Tryz.func14 U Tryz.ntmps14 U U ?_)
 repeat'(first|(apply Zb (hK);kernel_rfl;(iterate 4 exact U))|(apply Zb (hO);kernel_rfl;(iterate 4 exact U))|(apply Zb (hE);kernel_rfl;(iterate 4 exact U))|(apply Zh Za;exact U)|(apply Zg Za;exact U)|(apply Zo Za;exact U)|refine Ze U U U Qt ?_|refine Zn U U U Qt ?_|refine Zk U Qt U U ?_|refine Zi U Qt U U ?_|refine Zd U Qt ?_)
 all_goals exact Qe
theorem FV [Known][KnownU8](fl:Nat)(sum:Int)(di ri xi:Bool)(dn ds rn rs xn xs t q life:Nat)(dh dd rh rd xh xd:List UInt8)(bl:List E)(si:Bool)(sn ss:Nat)(sh sd:List UInt8)(since now e:Int)
  (ov:Bool)
  (hK:AP Tryz.prog 50 [.agg [.int .u64 (fl:Int),.int .i64 sum,.bool di,.int .u64 (dn:Int),.int .u64 (ds:Int),.str dh,.str dd,.bool ri,.int .u64 (rn:Int),.int .u64 (rs:Int),.str rh,.str rd,.bool xi,.int .u64 (xn:Int),.int .u64 (xs:Int),.str xh,.str xd,.int .u64 (t:Int),.int .u64 (q:Int),.int .u64 (life:Int),.sl .ext bl],.int .u64 since,.int .u64 now] (.int .i64 e) [])
  (hO:AP Tryz.prog 11 [.agg [.int .u64 (fl:Int),.int .i64 sum,.bool di,.int .u64 (dn:Int),.int .u64 (ds:Int),.str dh,.str dd,.bool ri,.int .u64 (rn:Int),.int .u64 (rs:Int),.str rh,.str rd,.bool xi,.int .u64 (xn:Int),.int .u64 (xs:Int),.str xh,.str xd,.int .u64 (t:Int),.int .u64 (q:Int),.int .u64 (life:Int),.sl .ext bl],.int .u64 since,.int .u64 now] (.tup [.bool ov,.int .i64 e]) [])
  (t1:(e==3)=false)
  (hE:AP Tryz.prog 51 [.agg [.bool si,.int .u64 (sn:Int),.int .u64 (ss:Int),.str sh,.str sd]] (.bool true) [])
  (t2:((si==false)&&(((sn:Int)==0)&&(((ss:Int)==0)&&((sh==[])&&((sd==[])&&true)))))=true) :
  AP Tryz.prog 14 [.agg [.int .u64 (fl:Int),.int .i64 sum,.bool di,.int .u64 (dn:Int),.int .u64 (ds:Int),.str dh,.str dd,.bool ri,.int .u64 (rn:Int),.int .u64 (rs:Int),.str rh,.str rd,.bool xi,.int .u64 (xn:Int),.int .u64 (xs:Int),.str xh,.str xd,.int .u64 (t:Int),.int .u64 (q:Int),.int .u64 (life:Int),.sl .ext bl],.agg [.bool si,.int .u64 (sn:Int),.int .u64 (ss:Int),.str sh,.str sd],.int .u64 since,.int .u64 now] (.tup [.agg [.int .u64 0,.int .i64 0,.bool false,.int .u64 0,.int .u64 0,.str [],.str [],.bool false,.int .u64 0,.int .u64 0,.str [],.str [],.bool false,.int .u64 0,.int .u64 0,.str [],.str [],.int .u64 0,.int .u64 0,.int .u64 0,.sl .ext []],.int .i64 3]) []:=by
 refine AP.ofA (Zl Tryz.func14 U Tryz.ntmps14 U U ?_)
 repeat'(first|(apply Zb (hK);kernel_rfl;(iterate 4 exact U))|(apply Zb (hO);kernel_rfl;(iterate 4 exact U))|(apply Zb (hE);kernel_rfl;(iterate 4 exact U))|(apply Zh Za;exact U)|(apply Zg Za;exact U)|(apply Zo Za;exact U)|refine Ze U U U Qt ?_|refine Zi U Qt U U ?_|refine Zd U Qt ?_|refine W1 Za U U U U Qk Qk U U U ?_)
 all_goals exact Qe
theorem FW [Known][KnownU8](fl:Nat)(sum:Int)(di ri xi:Bool)(dn ds rn rs xn xs t q life:Nat)(dh dd rh rd xh xd:List UInt8)(bl:List E)(si:Bool)(sn ss:Nat)(sh sd:List UInt8)(since now e:Int)
  (ov:Bool)
  (hK:AP Tryz.prog 50 [.agg [.int .u64 (fl:Int),.int .i64 sum,.bool di,.int .u64 (dn:Int),.int .u64 (ds:Int),.str dh,.str dd,.bool ri,.int .u64 (rn:Int),.int .u64 (rs:Int),.str rh,.str rd,.bool xi,.int .u64 (xn:Int),.int .u64 (xs:Int),.str xh,.str xd,.int .u64 (t:Int),.int .u64 (q:Int),.int .u64 (life:Int),.sl .ext bl],.int .u64 since,.int .u64 now] (.int .i64 e) [])
  (hO:AP Tryz.prog 11 [.agg [.int .u64 (fl:Int),.int .i64 sum,.bool di,.int .u64 (dn:Int),.int .u64 (ds:Int),.str dh,.str dd,.bool ri,.int .u64 (rn:Int),.int .u64 (rs:Int),.str rh,.str rd,.bool xi,.int .u64 (xn:Int),.int .u64 (xs:Int),.str xh,.str xd,.int .u64 (t:Int),.int .u64 (q:Int),.int .u64 (life:Int),.sl .ext bl],.int .u64 since,.int .u64 now] (.tup [.bool ov,.int .i64 e]) [])
  (t1:(e==3)=false)
  (hE:AP Tryz.prog 51 [.agg [.bool si,.int .u64 (sn:Int),.int .u64 (ss:Int),.str sh,.str sd]] (.bool true) [])
  (t2:((si==false)&&(((sn:Int)==0)&&(((ss:Int)==0)&&((sh==[])&&((sd==[])&&true)))))=false)
  (t3:(e != 0)=true) :
  AP Tryz.prog 14 [.agg [.int .u64 (fl:Int),.int .i64 sum,.bool di,.int .u64 (dn:Int),.int .u64 (ds:Int),.str dh,.str dd,.bool ri,.int .u64 (rn:Int),.int .u64 (rs:Int),.str rh,.str rd,.bool xi,.int .u64 (xn:Int),.int .u64 (xs:Int),.str xh,.str xd,.int .u64 (t:Int),.int .u64 (q:Int),.int .u64 (life:Int),.sl .ext bl],.agg [.bool si,.int .u64 (sn:Int),.int .u64 (ss:Int),.str sh,.str sd],.int .u64 since,.int .u64 now] (.tup [.agg [.int .u64 0,.int .i64 0,.bool false,.int .u64 0,.int .u64 0,.str [],.str [],.bool false,.int .u64 0,.int .u64 0,.str [],.str [],.bool false,.int .u64 0,.int .u64 0,.str [],.str [],.int .u64 0,.int .u64 0,.int .u64 0,.sl .ext []],.int .i64 e]) []:=by
 refine AP.ofA (Zl Tryz.func14 U Tryz.ntmps14 U U ?_)
 repeat'(first|(apply Zb (hK);kernel_rfl;(iterate 4 exact U))|(apply Zb (hO);kernel_rfl;(iterate 4 exact U))|(apply Zb (hE);kernel_rfl;(iterate 4 exact U))|(apply Zh Za;exact U)|(apply Zg Za;exact U)|(apply Zo Za;exact U)|refine Ze U U U Qt ?_|refine Zi U Qt U U ?_|refine Zd U Qt ?_|refine Zf U Qt ?_|refine W1 Za U U U U Qk Qk U U U ?_)
 all_goals exact Qe
theorem FX [Known][KnownU8](fl:Nat)(sum:Int)(di ri xi:Bool)(dn ds rn rs xn xs t q life:Nat)(dh dd rh rd xh xd:List UInt8)(bl:List E)(si:Bool)(sn ss:Nat)(sh sd:List UInt8)(since now e:Int)
  (hK:AP Tryz.prog 50 [.agg [.int .u64 (fl:Int),.int .i64 sum,.bool di,.int .u64 (dn:Int),.int .u64 (ds:Int),.str dh,.str dd,.bool ri,.int .u64 (rn:Int),.int .u64 (rs:Int),.str rh,.str rd,.bool xi,.int .u64 (xn:Int),.int .u64 (xs:Int),.str xh,.str xd,.int .u64 (t:Int),.int .u64 (q:Int),.int .u64 (life:Int),.sl .ext bl],.int .u64 since,.int .u64 now] (.int .i64 e) [])
  (hO:AP Tryz.prog 11 [.agg [.int .u64 (fl:Int),.int .i64 sum,.bool di,.int .u64 (dn:Int),.int .u64 (ds:Int),.str dh,.str dd,.bool ri,.int .u64 (rn:Int),.int .u64 (rs:Int),.str rh,.str rd,.bool xi,.int .u64 (xn:Int),.int .u64 (xs:Int),.str xh,.str xd,.int .u64 (t:Int),.int .u64 (q:Int),.int .u64 (life:Int),.sl .ext bl],.int .u64 since,.int .u64 now] (.tup [.bool true,.int .i64 e]) [])
  (t1:(e==3)=false)
  (hE:AP Tryz.prog 51 [.agg [.bool si,.int .u64 (sn:Int),.int .u64 (ss:Int),.str sh,.str sd]] (.bool true) [])
  (t2:((si==false)&&(((sn:Int)==0)&&(((ss:Int)==0)&&((sh==[])&&((sd==[])&&true)))))=false)
  (t3:(e != 0)=false) :
  AP Tryz.prog 14 [.agg [.int .u64 (fl:Int),.int .i64 sum,.bool di,.int .u64 (dn:Int),.int .u64 (ds:Int),.str dh,.str dd,.bool ri,.int .u64 (rn:Int),.int .u64 (rs:Int),.str rh,.str rd,.bool xi,.int .u64 (xn:Int),.int .u64 (xs:Int),.str xh,.str xd,.int .u64 (t:Int),.int .u64 (q:Int),.int .u64 (life:Int),.sl .ext bl],.agg [.bool si,.int .u64 (sn:Int),.int .u64 (ss:Int),.str sh,.str sd],.int .u64 since,.int .u64 now] (.tup [.agg [.int .u64 0,.int .i64 0,.bool false,.int .u64 0,.int .u64 0,.str [],.str [],.bool false,.int .u64 0,.int .u64 0,.str [],.str [],.bool false,.int .u64 0,.int .u64 0,.str [],.str [],.int .u64 0,.int .u64 0,.int .u64 0,.sl .ext []],.int .i64 18]) []:=by
 refine AP.ofA (Zl Tryz.func14 U Tryz.ntmps14 U U ?_)
 repeat'(first|(apply Zb (hK);kernel_rfl;(iterate 4 exact U))|(apply Zb (hO);kernel_rfl;(iterate 4 exact U))|(apply Zb (hE);kernel_rfl;(iterate 4 exact U))|(apply Zh Za;exact U)|(apply Zg Za;exact U)|(apply Zo Za;exact U)|refine Ze U U U Qt ?_|refine Zi U Qt U U ?_|refine Zd U Qt ?_|refine Zf U Qt ?_|refine W1 Za U U U U Qk Qk U U U ?_)
 all_goals exact Qe
theorem FY [Known][KnownU8](fl:Nat)(sum:Int)(di ri xi:Bool)(dn ds rn rs xn xs t q life:Nat)(dh dd rh rd xh xd:List UInt8)(bl:List E)(si:Bool)(sn ss:Nat)(sh sd:List UInt8)(since now e:Int)
  (hK:AP Tryz.prog 50 [.agg [.int .u64 (fl:Int),.int .i64 sum,.bool di,.int .u64 (dn:Int),.int .u64 (ds:Int),.str dh,.str dd,.bool ri,.int .u64 (rn:Int),.int .u64 (rs:Int),.str rh,.str rd,.bool xi,.int .u64 (xn:Int),.int .u64 (xs:Int),.str xh,.str xd,.int .u64 (t:Int),.int .u64 (q:Int),.int .u64 (life:Int),.sl .ext bl],.int .u64 since,.int .u64 now] (.int .i64 e) [])
  (hO:AP Tryz.prog 11 [.agg [.int .u64 (fl:Int),.int .i64 sum,.bool di,.int .u64 (dn:Int),.int .u64 (ds:Int),.str dh,.str dd,.bool ri,.int .u64 (rn:Int),.int .u64 (rs:Int),.str rh,.str rd,.bool xi,.int .u64 (xn:Int),.int .u64 (xs:Int),.str xh,.str xd,.int .u64 (t:Int),.int .u64 (q:Int),.int .u64 (life:Int),.sl .ext bl],.int .u64 since,.int .u64 now] (.tup [.bool false,.int .i64 e]) [])
  (t1:(e==3)=false)
  (hE:AP Tryz.prog 51 [.agg [.bool si,.int .u64 (sn:Int),.int .u64 (ss:Int),.str sh,.str sd]] (.bool true) [])
  (t2:((si==false)&&(((sn:Int)==0)&&(((ss:Int)==0)&&((sh==[])&&((sd==[])&&true)))))=false)
  (t3:(e != 0)=false)
  (hS:AP Tryz.prog 52 [.agg [.int .u64 (fl:Int),.int .i64 sum,.bool di,.int .u64 (dn:Int),.int .u64 (ds:Int),.str dh,.str dd,.bool ri,.int .u64 (rn:Int),.int .u64 (rs:Int),.str rh,.str rd,.bool xi,.int .u64 (xn:Int),.int .u64 (xs:Int),.str xh,.str xd,.int .u64 (t:Int),.int .u64 (q:Int),.int .u64 (life:Int),.sl .ext bl]] (.bool true) []) :
  AP Tryz.prog 14 [.agg [.int .u64 (fl:Int),.int .i64 sum,.bool di,.int .u64 (dn:Int),.int .u64 (ds:Int),.str dh,.str dd,.bool ri,.int .u64 (rn:Int),.int .u64 (rs:Int),.str rh,.str rd,.bool xi,.int .u64 (xn:Int),.int .u64 (xs:Int),.str xh,.str xd,.int .u64 (t:Int),.int .u64 (q:Int),.int .u64 (life:Int),.sl .ext bl],.agg [.bool si,.int .u64 (sn:Int),.int .u64 (ss:Int),.str sh,.str sd],.int .u64 since,.int .u64 now] (.tup [.agg [.int .u64 0,.int .i64 0,.bool false,.int .u64 0,.int .u64 0,.str [],.str [],.bool false,.int .u64 0,.int .u64 0,.str [],.str [],.bool false,.int .u64 0,.int .u64 0,.str [],.str [],.int .u64 0,.int .u64 0,.int .u64 0,.sl .ext []],.int .i64 19]) []:=by
 refine AP.ofA (Zl Tryz.func14 U Tryz.ntmps14 U U ?_)
 repeat'(first|(apply Zb (hK);kernel_rfl;(iterate 4 exact U))|(apply Zb (hO);kernel_rfl;(iterate 4 exact U))|(apply Zb (hE);kernel_rfl;(iterate 4 exact U))|(apply Zb (hS);kernel_rfl;(iterate 4 exact U))|(apply Zh Za;exact U)|(apply Zg Za;exact U)|(apply Zo Za;exact U)|refine Ze U U U Qt ?_|refine Zi U Qt U U ?_|refine Zd U Qt ?_|refine Zf U Qt ?_|refine W1 Za U U U U Qk Qk U U U ?_)
 all_goals exact Qe
theorem FZ [Known][KnownU8](fl:Nat)(sum:Int)(di ri xi:Bool)(dn ds rn rs xn xs t q life:Nat)(dh dd rh rd xh xd:List UInt8)(bl:List BlkV)(si:Bool)(sn ss:Nat)(sh sd:List UInt8)(since now e:Int)
  (hK:AP Tryz.prog 50 [.agg [.int .u64 (fl:Int),.int .i64 sum,.bool di,.int .u64 (dn:Int),.int .u64 (ds:Int),.str dh,.str dd,.bool ri,.int .u64 (rn:Int),.int .u64 (rs:Int),.str rh,.str rd,.bool xi,.int .u64 (xn:Int),.int .u64 (xs:Int),.str xh,.str xd,.int .u64 (t:Int),.int .u64 (q:Int),.int .u64 (life:Int),.sl .ext (ZP bl)],.int .u64 since,.int .u64 now] (.int .i64 e) [])
  (hO:AP Tryz.prog 11 [.agg [.int .u64 (fl:Int),.int .i64 sum,.bool di,.int .u64 (dn:Int),.int .u64 (ds:Int),.str dh,.str dd,.bool ri,.int .u64 (rn:Int),.int .u64 (rs:Int),.str rh,.str rd,.bool xi,.int .u64 (xn:Int),.int .u64 (xs:Int),.str xh,.str xd,.int .u64 (t:Int),.int .u64 (q:Int),.int .u64 (life:Int),.sl .ext (ZP bl)],.int .u64 since,.int .u64 now] (.tup [.bool false,.int .i64 e]) []) (t1:(e==3)=false)
  (hE:AP Tryz.prog 51 [.agg [.bool si,.int .u64 (sn:Int),.int .u64 (ss:Int),.str sh,.str sd]] (.bool true) []) (t2:((si==false)&&(((sn:Int)==0)&&(((ss:Int)==0)&&((sh==[])&&((sd==[])&&true)))))=false) (t3:(e != 0)=false)
  (hS:AP Tryz.prog 52 [.agg [.int .u64 (fl:Int),.int .i64 sum,.bool di,.int .u64 (dn:Int),.int .u64 (ds:Int),.str dh,.str dd,.bool ri,.int .u64 (rn:Int),.int .u64 (rs:Int),.str rh,.str rd,.bool xi,.int .u64 (xn:Int),.int .u64 (xs:Int),.str xh,.str xd,.int .u64 (t:Int),.int .u64 (q:Int),.int .u64 (life:Int),.sl .ext (ZP bl)]] (.bool false) [])
  (hbl:bl.length<=1000) (hok:∀ c ∈ bl,UB c) (hfl:fl<18446744073709551616)
  (preB:BlkV) (hpre:UB preB) (nn:Int) (hN:AP Tryz.prog 54 [.agg [.int .u64 (fl:Int),.int .i64 sum,.bool di,.int .u64 (dn:Int),.int .u64 (ds:Int),.str dh,.str dd,.bool ri,.int .u64 (rn:Int),.int .u64 (rs:Int),.str rh,.str rd,.bool xi,.int .u64 (xn:Int),.int .u64 (xs:Int),.str xh,.str xd,.int .u64 (t:Int),.int .u64 (q:Int),.int .u64 (life:Int),.sl .ext (ZP bl)]] (.int .u64 nn) []) (pe:Int) (hP:AP Tryz.prog 53 [.int .u64 nn,.int .i64 0,.agg [.bool si,.int .u64 (sn:Int),.int .u64 (ss:Int),.str sh,.str sd]] (.tup [.agg (bkC preB),.int .i64 pe]) [])
  (hF:AP Tryz.prog 12 [.agg [.int .u64 (fl:Int),.int .i64 sum,.bool di,.int .u64 (dn:Int),.int .u64 (ds:Int),.str dh,.str dd,.bool ri,.int .u64 (rn:Int),.int .u64 (rs:Int),.str rh,.str rd,.bool xi,.int .u64 (xn:Int),.int .u64 (xs:Int),.str xh,.str xd,.int .u64 (t:Int),.int .u64 (q:Int),.int .u64 (life:Int),.sl .ext (ZP bl)],.int .u64 6] (QV none) []) (d:D) (hd:onD (Vk ⟨fl,sum,⟨di,dn,ds,dh,dd⟩,⟨ri,rn,rs,rh,rd⟩,⟨xi,xn,xs,xh,xd⟩,t,q,life⟩ (onC ⟨si,sn,ss,sh,sd⟩ (IntKind.u64.wrap (now-since)) [preB] bl))=d) :
  AP Tryz.prog 14 [.agg [.int .u64 (fl:Int),.int .i64 sum,.bool di,.int .u64 (dn:Int),.int .u64 (ds:Int),.str dh,.str dd,.bool ri,.int .u64 (rn:Int),.int .u64 (rs:Int),.str rh,.str rd,.bool xi,.int .u64 (xn:Int),.int .u64 (xs:Int),.str xh,.str xd,.int .u64 (t:Int),.int .u64 (q:Int),.int .u64 (life:Int),.sl .ext (ZP bl)],.agg [.bool si,.int .u64 (sn:Int),.int .u64 (ss:Int),.str sh,.str sd],.int .u64 since,.int .u64 now] d []:=by
 have hlen:=Yx bl
 have hU:=Vl bl
 generalize hFq:onC ⟨si,sn,ss,sh,sd⟩ (IntKind.u64.wrap (now-since)) [preB] bl=F at hd
 obtain⟨pty,pnum,pfl,psum,pdata⟩:=preB
 dsimp only[QV]at hF
 refine AP.ofA (Zl Tryz.func14 U Tryz.ntmps14 U U ?_)
 repeat'(first|(apply Zb (hK);kernel_rfl;(iterate 4 exact U))|(apply Zb (hO);kernel_rfl;(iterate 4 exact U))|(apply Zb (hE);kernel_rfl;(iterate 4 exact U))|(apply Zb (hS);kernel_rfl;(iterate 4 exact U))|(apply Zb (hF);kernel_rfl;(iterate 4 exact U))|(apply Zb (hN);kernel_rfl;(iterate 4 exact U))|(apply Zb (hP);kernel_rfl;(iterate 4 exact U))|refine ZT Za U U U U U U (Zj rfl) (List.cons_ne_nil _ _) U Qd Qd U U U ?_|(apply Zh Za;exact U)|(apply Zg Za;exact U)|(apply Zo Za;exact U)|refine Ze U U U Qt ?_|refine Zi U Qt U U ?_|refine Zd U Qt ?_|refine Zf U Qt ?_|refine Zm Za U U U U ?_|refine ZO Za U U U U U U U U U U U U ?_|refine W1 Za U U U U Qk Qk U U U ?_|(apply Zq 9 ZF;decide +kernel;kernel_rfl;kernel_rfl;kernel_rfl;exact U;exact U)|(apply Zt;(iterate 4 exact U))|exact AE.nil _ _ _ _|(apply Zw;exact U)|(apply Yp;exact U)|(apply WI;exact U)|(apply Zz;exact U;exact U;decide +kernel;exact U)|(apply ZA;exact U)|(apply YQ;exact U)|(apply VA;exact U)|exact AO.nil _ _ _|(apply Zs;(decide +kernel))|(apply Yf;(iterate 3 exact U))|exact AOs.nil|exact ZI rfl rfl|exact WB rfl rfl|exact WP rfl)
 show AW _ _ _ _
 refine ZJ (fun f tm bx fr=>∃(i c:Nat) (acc:List BlkV) (f0:Fr),f+i=bl.length/\c=(ZP acc).length/\(∀ c ∈ acc,UB c)/\acc.length<=i+1/\onC ⟨si,sn,ss,sh,sd⟩ (IntKind.u64.wrap (now-since)) acc (bl.drop i)=F/\tm=[(2,.int .u64 since),(3,.int .u64 now),(4,.ptr 0 0),(5,.ptr 1 0),(8,.ptr 2 0),(13,.ptr 3 0),(83,.sl .ext (ZP bl)),(84,.int .i64 ((ZP bl).length:Int)),(85,.int .i64 (i:Int))] /\
   ((acc=[]/\bx=[[.int .u64 (fl:Int),.int .i64 sum,.bool di,.int .u64 (dn:Int),.int .u64 (ds:Int),.str dh,.str dd,.bool ri,.int .u64 (rn:Int),.int .u64 (rs:Int),.str rh,.str rd,.bool xi,.int .u64 (xn:Int),.int .u64 (xs:Int),.str xh,.str xd,.int .u64 (t:Int),.int .u64 (q:Int),.int .u64 (life:Int),.sl .ext (ZP bl)],[.bool si,.int .u64 (sn:Int),.int .u64 (ss:Int),.str sh,.str sd],[.int .u64 0,.int .i64 0,.bool false,.int .u64 0,.int .u64 0,.str [],.str [],.bool false,.int .u64 0,.int .u64 0,.str [],.str [],.bool false,.int .u64 0,.int .u64 0,.str [],.str [],.int .u64 0,.int .u64 0,.int .u64 0,.sl .nil []],[.int .u64 (fl:Int),.int .i64 sum,.bool di,.int .u64 (dn:Int),.int .u64 (ds:Int),.str dh,.str dd,.bool ri,.int .u64 (rn:Int),.int .u64 (rs:Int),.str rh,.str rd,.bool xi,.int .u64 (xn:Int),.int .u64 (xs:Int),.str xh,.str xd,.int .u64 (t:Int),.int .u64 (q:Int),.int .u64 (life:Int),.sl .nil []]]/\fr=[]) \/
   (bx=[[.int .u64 (fl:Int),.int .i64 sum,.bool di,.int .u64 (dn:Int),.int .u64 (ds:Int),.str dh,.str dd,.bool ri,.int .u64 (rn:Int),.int .u64 (rs:Int),.str rh,.str rd,.bool xi,.int .u64 (xn:Int),.int .u64 (xs:Int),.str xh,.str xd,.int .u64 (t:Int),.int .u64 (q:Int),.int .u64 (life:Int),.sl .ext (ZP bl)],[.bool si,.int .u64 (sn:Int),.int .u64 (ss:Int),.str sh,.str sd],[.int .u64 0,.int .i64 0,.bool false,.int .u64 0,.int .u64 0,.str [],.str [],.bool false,.int .u64 0,.int .u64 0,.str [],.str [],.bool false,.int .u64 0,.int .u64 0,.str [],.str [],.int .u64 0,.int .u64 0,.int .u64 0,.sl .nil []],[.int .u64 (fl:Int),.int .i64 sum,.bool di,.int .u64 (dn:Int),.int .u64 (ds:Int),.str dh,.str dd,.bool ri,.int .u64 (rn:Int),.int .u64 (rs:Int),.str rh,.str rd,.bool xi,.int .u64 (xn:Int),.int .u64 (xs:Int),.str xh,.str xd,.int .u64 (t:Int),.int .u64 (q:Int),.int .u64 (life:Int),.sl (.own 1) (ZP acc)]]/\fr=[f0,⟨c,5,40⟩]))) (bl.length+1) (Lands.mk' (m:=bl.length) (Nat.lt_succ_self _) ⟨0,1,[⟨pty,pnum,pfl,psum,pdata⟩],_,by omega,rfl,fun c hc=>by simp at hc;subst hc;exact hpre,by simp,hFq,rfl,.inr ⟨rfl,rfl⟩⟩ ?_ rfl rfl rfl rfl rfl rfl) ?_
 ·exact .cons rfl (.cons rfl (.cons rfl (.cons rfl (.cons rfl (.cons rfl (.cons rfl (.cons rfl (.cons rfl .nil))))))))
 rintro f tm bx fr ⟨i,c,acc,f0,hf,hc,hab,hal,hq,rfl,hst⟩
 rcases Nat.lt_or_ge i bl.length with hlt|hge
 ·have hdl:decide ((i:Int)<((ZP bl).length:Int))=true:=decide_eq_true (by omega)
  obtain⟨z,hy⟩:∃ y,bl[i]?=some y:=⟨_,List.getElem?_eq_getElem hlt⟩
  have hzo:=hok z (List.mem_of_getElem? hy)
  have hG:=Og z ⟨si,sn,ss,sh,sd⟩ (IntKind.u64.wrap (now-since)) (Nat.le_trans hzo.2 (by omega)) (Kq (Nat.le_trans hzo.2 (by omega)))
  have hco:=Ip ⟨si,sn,ss,sh,sd⟩ (IntKind.u64.wrap (now-since)) hzo
  have hdr:bl.drop i=z::bl.drop (i+1):=by
   rw[List.drop_eq_getElem_cons hlt];congr 1
   exact(List.getElem?_eq_some_iff.1 hy).2
  rw[hdr,onC]at hq
  have ei:IntKind.i64.wrap ((i:Int)+1)=((i+1:Nat):Int):=by rw[IntWalk.i64_in _ (by omega)];omega
  have hv:=Yy hy
  generalize Wi z ⟨si,sn,ss,sh,sd⟩ (IntKind.u64.wrap (now-since))=r at *
  obtain⟨cb,ok⟩:=r
  obtain⟨zty,znum,zfl,zsum,zdata⟩:=z
  dsimp only at hq hco
  cases ok with
  | false=>
   replace hG:AP Tryz.prog 55 _ (.tup [.agg (bkC cb),.bool false]) []:=hG
   dsimp only at hq
   subst hq
   dsimp only[Vk]at hd
   subst hd
   rcases hst with⟨rfl,rfl,rfl⟩ | ⟨rfl,rfl⟩
   ·repeat'(first|(apply Zb (hG);kernel_rfl;(iterate 4 exact U))|(apply Zh Za;exact U)|(apply Zg Za;exact U)|(apply Zo Za;exact U)|refine Zd U Qt ?_|(apply Zu Za;(iterate 6 exact U);(first|exact Qt|rotate_left);(first|with_reducible assumption|decide +kernel|exact U);(first|exact Zj rfl|with_reducible assumption|decide +kernel|rotate_left)))
    all_goals exact Qe
   ·repeat'(first|(apply Zb (hG);kernel_rfl;(iterate 4 exact U))|(apply Zh Za;exact U)|(apply Zg Za;exact U)|(apply Zo Za;exact U)|refine Zd U Qt ?_|(apply Zu Za;(iterate 6 exact U);(first|exact Qt|rotate_left);(first|with_reducible assumption|decide +kernel|exact U);(first|exact Zj rfl|with_reducible assumption|decide +kernel|rotate_left)))
    all_goals exact Qe
  | true=>
   replace hG:AP Tryz.prog 55 _ (.tup [.agg (bkC cb),.bool true]) []:=hG
   dsimp only at hq
   have hab2:∀ c ∈ acc++[cb],UB c:=fun c hc=>by
    rcases List.mem_append.1 hc with hc|hc
    ·exact hab c hc
    ·simp at hc;subst hc;exact hco
   have hU5:=Vl acc
   have hUc:=Vl [cb]
   subst hc
   have hbk:=Yx acc
   rcases hst with⟨rfl,rfl,rfl⟩ | ⟨rfl,rfl⟩
   ·repeat'(first|(apply Zb (hG);kernel_rfl;(iterate 4 exact U))|rw[ei]|refine ZT Za U U U U U U (Zj rfl) (List.cons_ne_nil _ _) U Qd Qd U U U ?_|(apply Zh Za;exact U)|(apply Zg Za;exact U)|refine Zd U Qt ?_|refine Zf U Qt ?_|refine ZO Za U U U U U U U U U U U U ?_|(apply Zu Za;(iterate 6 exact U);(first|exact Qt|rotate_left);(first|with_reducible assumption|decide +kernel|exact U);(first|exact Zj rfl|with_reducible assumption|decide +kernel|rotate_left)))
    refine Lands.mk' (m:=f-1) (by omega) ⟨i+1,1,[cb],_,by omega,rfl,hab2,by simp,hq,rfl,.inr ⟨rfl,rfl⟩⟩ ?_ rfl rfl rfl rfl rfl rfl
    exact .cons rfl (.cons rfl (.cons rfl (.cons rfl (.cons rfl (.cons rfl (.cons rfl (.cons rfl (.cons rfl .nil))))))))
   ·have hs:ZP acc++[bkE cb]=ZP (acc++[cb]):=(List.map_append (f:=bkE) (l₁:=acc) (l₂:=[cb])).symm
    repeat'(first|(apply Zb (hG);kernel_rfl;(iterate 4 exact U))|rw[ei]|(apply Zh Za;exact U)|(apply Zg Za;exact U)|refine Zd U Qt ?_|refine Zf U Qt ?_|refine ZO Za U U U U U U U U U U U U ?_|(apply ZR Za;(iterate 6 exact U);(first|with_reducible assumption|decide +kernel|exact U|rotate_left);exact U;exact U;(first|exact Zj rfl|with_reducible assumption|decide +kernel|rotate_left);(first|exact Zj rfl|with_reducible assumption|decide +kernel|rotate_left);(first|exact Qt|rotate_left);(first|exact Qt|rotate_left);(first|exact Qt|rotate_left);exact U;exact U)|(apply Zu Za;(iterate 6 exact U);(first|exact Qt|rotate_left);(first|with_reducible assumption|decide +kernel|exact U);(first|exact Zj rfl|with_reducible assumption|decide +kernel|rotate_left)))
    ·refine Lands.mk' (m:=f-1) (by omega) ⟨i+1,(ZP acc).length+1,acc++[cb],f0,by omega,by rw[<- hs,List.length_append];rfl,hab2,by simp;omega,hq,rfl,.inr ⟨by rw[<- hs],rfl⟩⟩ ?_ rfl rfl rfl rfl rfl rfl
     exact .cons rfl (.cons rfl (.cons rfl (.cons rfl (.cons rfl (.cons rfl (.cons rfl (.cons rfl (.cons rfl .nil))))))))
    all_goals(first|rfl|(simp only[List.length_append,List.length_cons,List.length_nil,List.length_map,Zv];done)|(simp only[List.length_append,List.length_cons,List.length_nil,List.length_map,Zv]at *;(try unfold maxLen);(try simp only[Nat.add_mul]);omega))
 ·have hdl:decide ((i:Int)<((ZP bl).length:Int))=false:=decide_eq_false (by omega)
  have hqn:F=some acc:=by
   rw[<- hq,List.drop_eq_nil_of_le hge,onC]
  subst hqn
  dsimp only[Vk]at hd
  have hRt:=JL ⟨⟨fl,sum,⟨di,dn,ds,dh,dd⟩,⟨ri,rn,rs,rh,rd⟩,⟨xi,xn,xs,xh,xd⟩,t,q,life⟩,acc⟩ ⟨hfl,by show acc.length<=_;omega,hab⟩
  cases t13:Yb ⟨⟨fl,sum,⟨di,dn,ds,dh,dd⟩,⟨ri,rn,rs,rh,rd⟩,⟨xi,xn,xs,xh,xd⟩,t,q,life⟩,acc⟩ with
  | false=>
   rw[t13]at hRt hd
   dsimp only at hd
   subst hd
   rcases hst with⟨rfl,rfl,rfl⟩ | ⟨rfl,rfl⟩
   ·repeat'(first|(apply Zb (hRt);kernel_rfl;(iterate 4 exact U))|(apply Zh Za;exact U)|(apply Zg Za;exact U)|(apply Zo Za;exact U)|refine Zd U Qt ?_|refine Zf U Qt ?_)
    all_goals exact Qe
   ·repeat'(first|(apply Zb (hRt);kernel_rfl;(iterate 4 exact U))|(apply Zh Za;exact U)|(apply Zg Za;exact U)|(apply Zo Za;exact U)|refine Zd U Qt ?_|refine Zf U Qt ?_)
    all_goals exact Qe
  | true=>
   rw[t13]at hRt hd
   dsimp only at hd
   subst hd
   rcases hst with⟨rfl,rfl,rfl⟩ | ⟨rfl,rfl⟩
   ·repeat'(first|(apply Zb (hRt);kernel_rfl;(iterate 4 exact U))|(apply Zh Za;exact U)|(apply Zg Za;exact U)|(apply Zo Za;exact U)|refine Zf U Qt ?_)
    all_goals exact Qe
   ·repeat'(first|(apply Zb (hRt);kernel_rfl;(iterate 4 exact U))|(apply Zh Za;exact U)|(apply Zg Za;exact U)|(apply Zo Za;exact U)|refine Zf U Qt ?_)
    all_goals exact Qe
end Go.Proofs.YtmljabhmajehnaaGreatDoor
end
