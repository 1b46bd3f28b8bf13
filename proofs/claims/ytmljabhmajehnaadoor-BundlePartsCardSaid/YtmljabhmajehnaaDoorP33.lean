/- BundleParts' walk by cases (bpgen.py). -/
import Derived.Test.YtmljabhmajehnaaDoorP29
import Derived.Test.YtmljabhmajehnaaDoorP32
import Derived.Test.YtmljabhmajehnaaDoorP31
import Derived.Test.YtmljabhmajehnaaDoorP30
import Derived.Test.YtmljabhmajehnaaDoorP01
import Derived.Test.YtmljabhmajehnaaDoorP27
import Derived.Test.YtmljabhmajehnaaDoorP07
import Derived.Test.YtmljabhmajehnaaDoorP10
import Derived.Test.YtmljabhmajehnaaDoorP25
import Derived.Test.YtmljabhmajehnaaDoorProg
import Derived.Lib.LaidU8
set_option linter.unusedVariables false
set_option linter.unusedSimpArgs false
section
open Go.RowKit Go.Pl Go.Av
namespace Go.Proofs.YtmljabhmajehnaaDoor
set_option maxHeartbeats 4000000
theorem Rg [Known](di ri xi:Bool)(fl dn ds rn rs xn xs t q life:Nat)(sum:Int)(dh dd rh rd xh xd:List UInt8)(L:List E)(p:List UInt8)
  (hA:AP Tryd.prog 10 [] (.bool true) [])
  (hG:AP Tryd.prog 6 [.agg [.int .u64 (fl:Int),.int .i64 sum,.bool di,.int .u64 (dn:Int),.int .u64 (ds:Int),.str dh,.str dd,.bool ri,.int .u64 (rn:Int),.int .u64 (rs:Int),.str rh,.str rd,.bool xi,.int .u64 (xn:Int),.int .u64 (xs:Int),.str xh,.str xd,.int .u64 (t:Int),.int .u64 (q:Int),.int .u64 (life:Int),.sl .ext L]] (.bool true) []) :
  AP Tryd.prog 4 [.agg [.int .u64 (fl:Int),.int .i64 sum,.bool di,.int .u64 (dn:Int),.int .u64 (ds:Int),.str dh,.str dd,.bool ri,.int .u64 (rn:Int),.int .u64 (rs:Int),.str rh,.str rd,.bool xi,.int .u64 (xn:Int),.int .u64 (xs:Int),.str xh,.str xd,.int .u64 (t:Int),.int .u64 (q:Int),.int .u64 (life:Int),.sl .ext L],byE p] (.bool true) []:=by
 refine AP.ofA (Zl Tryd.func4 Z Tryd.ntmps4 Z Z ?_)
 repeat'(first|(apply Zb (hA);kernel_rfl;(iterate 4 exact Z))|(apply Zb (hG);kernel_rfl;(iterate 4 exact Z))|(apply Zh Za;exact Z)|(apply Zf Za;exact Z)|(apply Zt Za;exact Z)|(apply Zo;(iterate 3 exact Z);(first|with_reducible assumption|decide +kernel|(solve|simp only[bn])))|(apply Zk;exact Z;(first|with_reducible assumption|decide +kernel|(solve|simp only[bn]));exact Z;exact Z)|(apply Zd;exact Z;(first|with_reducible assumption|decide +kernel|(solve|simp only[bn]))))
 all_goals first|((apply Zs [];(apply Zc Za;exact Z);(iterate 4 exact Z)))|skip
 all_goals first|rfl|skip
theorem Rh [Known](di ri xi:Bool)(fl dn ds rn rs xn xs t q life:Nat)(sum:Int)(dh dd rh rd xh xd:List UInt8)(L:List E)(p:List UInt8)
  (hA:AP Tryd.prog 10 [] (.bool true) [])
  (hG:AP Tryd.prog 6 [.agg [.int .u64 (fl:Int),.int .i64 sum,.bool di,.int .u64 (dn:Int),.int .u64 (ds:Int),.str dh,.str dd,.bool ri,.int .u64 (rn:Int),.int .u64 (rs:Int),.str rh,.str rd,.bool xi,.int .u64 (xn:Int),.int .u64 (xs:Int),.str xh,.str xd,.int .u64 (t:Int),.int .u64 (q:Int),.int .u64 (life:Int),.sl .ext L]] (.bool false) [])
  (t1:decide (((p.map E.byte).length:Int)>300)=true) :
  AP Tryd.prog 4 [.agg [.int .u64 (fl:Int),.int .i64 sum,.bool di,.int .u64 (dn:Int),.int .u64 (ds:Int),.str dh,.str dd,.bool ri,.int .u64 (rn:Int),.int .u64 (rs:Int),.str rh,.str rd,.bool xi,.int .u64 (xn:Int),.int .u64 (xs:Int),.str xh,.str xd,.int .u64 (t:Int),.int .u64 (q:Int),.int .u64 (life:Int),.sl .ext L],byE p] (.bool true) []:=by
 refine AP.ofA (Zl Tryd.func4 Z Tryd.ntmps4 Z Z ?_)
 repeat'(first|(apply Zb (hA);kernel_rfl;(iterate 4 exact Z))|(apply Zb (hG);kernel_rfl;(iterate 4 exact Z))|(apply Zh Za;exact Z)|(apply Zf Za;exact Z)|(apply Zt Za;exact Z)|(apply Ze;(iterate 3 exact Z);(first|with_reducible assumption|decide +kernel|(solve|simp only[bn])))|(apply Zo;(iterate 3 exact Z);(first|with_reducible assumption|decide +kernel|(solve|simp only[bn])))|(apply Zk;exact Z;(first|with_reducible assumption|decide +kernel|(solve|simp only[bn]));exact Z;exact Z)|(apply Zi;exact Z;(first|with_reducible assumption|decide +kernel|(solve|simp only[bn]));exact Z;exact Z)|(apply Zd;exact Z;(first|with_reducible assumption|decide +kernel|(solve|simp only[bn])))|refine Zm Za Z Z Z Z ?_)
 all_goals first|((apply Zs [];(apply Zc Za;exact Z);(iterate 4 exact Z)))|skip
 all_goals first|rfl|skip
theorem Ri [Known](di ri xi:Bool)(fl dn ds rn rs xn xs t q life:Nat)(sum:Int)(dh dd rh rd xh xd:List UInt8)(L:List E)(p:List UInt8)
  (hA:AP Tryd.prog 10 [] (.bool true) [])
  (hG:AP Tryd.prog 6 [.agg [.int .u64 (fl:Int),.int .i64 sum,.bool di,.int .u64 (dn:Int),.int .u64 (ds:Int),.str dh,.str dd,.bool ri,.int .u64 (rn:Int),.int .u64 (rs:Int),.str rh,.str rd,.bool xi,.int .u64 (xn:Int),.int .u64 (xs:Int),.str xh,.str xd,.int .u64 (t:Int),.int .u64 (q:Int),.int .u64 (life:Int),.sl .ext L]] (.bool false) [])
  (t1:decide (((p.map E.byte).length:Int)>300)=false)
  (hR:AP Tryd.prog 9 [.agg [.int .u64 (fl:Int),.int .i64 sum,.bool di,.int .u64 (dn:Int),.int .u64 (ds:Int),.str dh,.str dd,.bool ri,.int .u64 (rn:Int),.int .u64 (rs:Int),.str rh,.str rd,.bool xi,.int .u64 (xn:Int),.int .u64 (xs:Int),.str xh,.str xd,.int .u64 (t:Int),.int .u64 (q:Int),.int .u64 (life:Int),.sl .ext L]] (.bool false) []) :
  AP Tryd.prog 4 [.agg [.int .u64 (fl:Int),.int .i64 sum,.bool di,.int .u64 (dn:Int),.int .u64 (ds:Int),.str dh,.str dd,.bool ri,.int .u64 (rn:Int),.int .u64 (rs:Int),.str rh,.str rd,.bool xi,.int .u64 (xn:Int),.int .u64 (xs:Int),.str xh,.str xd,.int .u64 (t:Int),.int .u64 (q:Int),.int .u64 (life:Int),.sl .ext L],byE p] (.bool true) []:=by
 refine AP.ofA (Zl Tryd.func4 Z Tryd.ntmps4 Z Z ?_)
 repeat'(first|(apply Zb (hA);kernel_rfl;(iterate 4 exact Z))|(apply Zb (hG);kernel_rfl;(iterate 4 exact Z))|(apply Zb (hR);kernel_rfl;(iterate 4 exact Z))|(apply Zh Za;exact Z)|(apply Zf Za;exact Z)|(apply Zt Za;exact Z)|(apply Ze;(iterate 3 exact Z);(first|with_reducible assumption|decide +kernel|(solve|simp only[bn])))|(apply Zi;exact Z;(first|with_reducible assumption|decide +kernel|(solve|simp only[bn]));exact Z;exact Z)|(apply Zd;exact Z;(first|with_reducible assumption|decide +kernel|(solve|simp only[bn])))|refine Zm Za Z Z Z Z ?_)
 all_goals first|((apply Zs [];(apply Zc Za;exact Z);(iterate 4 exact Z)))|skip
 all_goals first|rfl|skip
theorem Rj [Known](di ri xi:Bool)(fl dn ds rn rs xn xs t q life:Nat)(sum:Int)(dh dd rh rd xh xd:List UInt8)(L:List E)(p:List UInt8)(k:Nat)(L2 L0 cd:List E)(cty cnum cfl:Nat)(csum:Int)(d:List UInt8)(e:Int)
  (hA:AP Tryd.prog 10 [] (.bool true) [])
  (hG:AP Tryd.prog 6 [.agg [.int .u64 (fl:Int),.int .i64 sum,.bool di,.int .u64 (dn:Int),.int .u64 (ds:Int),.str dh,.str dd,.bool ri,.int .u64 (rn:Int),.int .u64 (rs:Int),.str rh,.str rd,.bool xi,.int .u64 (xn:Int),.int .u64 (xs:Int),.str xh,.str xd,.int .u64 (t:Int),.int .u64 (q:Int),.int .u64 (life:Int),.sl .ext L]] (.bool false) [])
  (t1:decide (((p.map E.byte).length:Int)>300)=false)
  (hR:AP Tryd.prog 9 [.agg [.int .u64 (fl:Int),.int .i64 sum,.bool di,.int .u64 (dn:Int),.int .u64 (ds:Int),.str dh,.str dd,.bool ri,.int .u64 (rn:Int),.int .u64 (rs:Int),.str rh,.str rd,.bool xi,.int .u64 (xn:Int),.int .u64 (xs:Int),.str xh,.str xd,.int .u64 (t:Int),.int .u64 (q:Int),.int .u64 (life:Int),.sl .ext L]] (.bool true) [])
  (hU:Uni 5 L)
  (hU0:Uni 5 L0)
  (hne:L ≠ [])
  (hlk:L.length=k+1)
  (hb1:L.length<=maxLen)
  (hb2:L.length*56<=140737488355328)
  (hb3:L.length+1<=maxLen)
  (hb4:(L.length+1)*56<=140737488355328)
  (en:IntKind.i64.wrap ((L.length:Int)-1)=(k:Int))
  (hk:(k:Int)<(L.length:Int))
  (hcl:(k:Int).toNat*5+4+1<=(flat L).length)
  (hst:Uj (flat L) ((k:Int).toNat*5+4) [.sl (p.map E.byte)]=flat L2)
  (hL2:L2.length=L.length)
  (hget:L[(k:Int).toNat]?=some (.agg [.int .u64 (cty:Int),.int .u64 (cnum:Int),.int .u64 (cfl:Int),.int .i64 csum,.sl cd]))
  (hI:L.take (k:Int).toNat=L0)
  (hkn:(k:Int).toNat<=L.length)
  (hW:AP Tryd.prog 11 [.agg [.int .u64 (fl:Int),.int .i64 sum,.bool di,.int .u64 (dn:Int),.int .u64 (ds:Int),.str dh,.str dd,.bool ri,.int .u64 (rn:Int),.int .u64 (rs:Int),.str rh,.str rd,.bool xi,.int .u64 (xn:Int),.int .u64 (xs:Int),.str xh,.str xd,.int .u64 (t:Int),.int .u64 (q:Int),.int .u64 (life:Int),.sl .ext L2]] (.tup [byE d,.int .i64 e]) [])
  (hT:AP Tryd.prog 9 [.agg [.int .u64 (fl:Int),.int .i64 sum,.bool di,.int .u64 (dn:Int),.int .u64 (ds:Int),.str dh,.str dd,.bool ri,.int .u64 (rn:Int),.int .u64 (rs:Int),.str rh,.str rd,.bool xi,.int .u64 (xn:Int),.int .u64 (xs:Int),.str xh,.str xd,.int .u64 (t:Int),.int .u64 (q:Int),.int .u64 (life:Int),.sl .ext (L++[.agg [.int .u64 (cty:Int),.int .u64 (cnum:Int),.int .u64 (cfl:Int),.int .i64 csum,.sl cd]])]] (.bool false) [])
  (hN:AP Tryd.prog 9 [.agg [.int .u64 (fl:Int),.int .i64 sum,.bool di,.int .u64 (dn:Int),.int .u64 (ds:Int),.str dh,.str dd,.bool ri,.int .u64 (rn:Int),.int .u64 (rs:Int),.str rh,.str rd,.bool xi,.int .u64 (xn:Int),.int .u64 (xs:Int),.str xh,.str xd,.int .u64 (t:Int),.int .u64 (q:Int),.int .u64 (life:Int),.sl .ext L0]] (.bool false) [])
  (te:(e==0)=false) :
  AP Tryd.prog 4 [.agg [.int .u64 (fl:Int),.int .i64 sum,.bool di,.int .u64 (dn:Int),.int .u64 (ds:Int),.str dh,.str dd,.bool ri,.int .u64 (rn:Int),.int .u64 (rs:Int),.str rh,.str rd,.bool xi,.int .u64 (xn:Int),.int .u64 (xs:Int),.str xh,.str xd,.int .u64 (t:Int),.int .u64 (q:Int),.int .u64 (life:Int),.sl .ext L],byE p] (.bool true) []:=by
 refine AP.ofA (Zl Tryd.func4 Z Tryd.ntmps4 Z Z ?_)
 repeat'(first|exact YK (t:=90) rfl rfl|exact YK (t:=97) rfl rfl|(apply UW 8 7 Za ZF;decide +kernel;kernel_rfl;kernel_rfl;kernel_rfl;(iterate 5 exact Z);(decide +kernel))|exact alJ Za rfl rfl|(apply KU;exact Z)|(apply KN;(iterate 3 exact Z))|(apply UW 15 14 Za ZF;decide +kernel;kernel_rfl;kernel_rfl;kernel_rfl;(iterate 5 exact Z);(decide +kernel))|exact alJ Za rfl rfl|(apply KU;exact Z)|(apply KN;(iterate 3 exact Z))|(apply Zb (hA);kernel_rfl;(iterate 4 exact Z))|(apply Zb (hG);kernel_rfl;(iterate 4 exact Z))|(apply Zb (hR);kernel_rfl;(iterate 4 exact Z))|refine T3 Za Z Z Z Z Z Z ?_|(apply Jr (m:=1) (t:=31) Za;(iterate 4 exact Z);exact(Src.sl rfl);exact Z;exact hU;exact hne;exact Z;exact hb1;exact hb2;(iterate 3 exact Z))|(apply Vj (t:=90) Za;(iterate 4 exact Z);exact(Src.sl rfl);exact Z;exact hU;exact hne;exact hb1;exact hb2;(iterate 3 exact Z))|(apply ZV (t:=97) Za;(iterate 9 exact Z);exact hU;exact Zj rfl;exact List.cons_ne_nil _ _;exact hb3;exact hb4;exact Z;exact Z)|refine VU Za Z Z Z Z Z Z hU (Int.natCast_nonneg _) hkn hI ?_|refine Ko Za Z Z Z Z Z Z hcl hst Z ?_|(apply Xp (b:=1) (l:=L2);exact Z;exact Z;exact hL2;exact Z;(repeat (first|exact True.intro|refine⟨rfl,?_⟩));exact Z;(repeat (first|exact True.intro|refine⟨rfl,?_⟩));exact Z;exact Z;apply Zb (hW);kernel_rfl;(iterate 4 exact Z))|(apply Zb (hT);kernel_rfl;(iterate 4 exact Z))|(apply Zb (hN);kernel_rfl;(iterate 4 exact Z))|refine Gx Za Z Z Z Z ?_|(apply Gy Za;(iterate 6 exact Z);(first|exact Qb|rotate_left);(first|exact Qb|rotate_left);exact Z)|rw[en]|(apply Zh Za;exact Z)|(apply Zf Za;exact Z)|(apply Zt Za;exact Z)|refine V7 Za Z Z Z Z Z Z Z ?_|(apply Ze;(iterate 3 exact Z);(first|with_reducible assumption|decide +kernel|(solve|simp only[bn])))|(apply Zk;exact Z;(first|with_reducible assumption|decide +kernel|(solve|simp only[bn]));exact Z;exact Z)|(apply Zi;exact Z;(first|with_reducible assumption|decide +kernel|(solve|simp only[bn]));exact Z;exact Z)|(apply Zg;exact Z;(first|with_reducible assumption|decide +kernel|(solve|simp only[bn])))|refine Zm Za Z Z Z Z ?_|refine ZS Za Z Z Z Z Z Z Z Z Z Z Z Z ?_|(apply Zr;(iterate 4 exact Z))|exact AE.nil _ _ _ _|(apply Zv;exact Z)|(apply Yb;exact Z)|(apply ZA;exact Z;exact Z;decide +kernel;exact Z)|(apply ZB;exact Z)|(apply Yv;exact Z)|exact AO.nil _ _ _|(apply Zq;(decide +kernel))|(apply ZY;(iterate 3 exact Z))|exact AOs.nil|exact ZG rfl rfl|exact Y8 rfl rfl rfl rfl rfl|exact YK rfl rfl|(apply Zu Za;(iterate 6 exact Z);(first|exact Qt|rotate_left);(first|with_reducible assumption|decide +kernel|exact Z);(first|exact Zj rfl|with_reducible assumption|decide +kernel|rotate_left)))
 all_goals first|((apply Zs [];(apply Zc Za;exact Z);(iterate 4 exact Z)))|skip
 all_goals first|rfl|skip
theorem Rk [Known](di ri xi:Bool)(fl dn ds rn rs xn xs t q life:Nat)(sum:Int)(dh dd rh rd xh xd:List UInt8)(L:List E)(p:List UInt8)(k:Nat)(L2 L0 cd:List E)(cty cnum cfl:Nat)(csum:Int)(d:List UInt8)
  (hA:AP Tryd.prog 10 [] (.bool true) [])
  (hG:AP Tryd.prog 6 [.agg [.int .u64 (fl:Int),.int .i64 sum,.bool di,.int .u64 (dn:Int),.int .u64 (ds:Int),.str dh,.str dd,.bool ri,.int .u64 (rn:Int),.int .u64 (rs:Int),.str rh,.str rd,.bool xi,.int .u64 (xn:Int),.int .u64 (xs:Int),.str xh,.str xd,.int .u64 (t:Int),.int .u64 (q:Int),.int .u64 (life:Int),.sl .ext L]] (.bool false) [])
  (t1:decide (((p.map E.byte).length:Int)>300)=false)
  (hR:AP Tryd.prog 9 [.agg [.int .u64 (fl:Int),.int .i64 sum,.bool di,.int .u64 (dn:Int),.int .u64 (ds:Int),.str dh,.str dd,.bool ri,.int .u64 (rn:Int),.int .u64 (rs:Int),.str rh,.str rd,.bool xi,.int .u64 (xn:Int),.int .u64 (xs:Int),.str xh,.str xd,.int .u64 (t:Int),.int .u64 (q:Int),.int .u64 (life:Int),.sl .ext L]] (.bool true) [])
  (hU:Uni 5 L)
  (hU0:Uni 5 L0)
  (hne:L ≠ [])
  (hlk:L.length=k+1)
  (hb1:L.length<=maxLen)
  (hb2:L.length*56<=140737488355328)
  (hb3:L.length+1<=maxLen)
  (hb4:(L.length+1)*56<=140737488355328)
  (en:IntKind.i64.wrap ((L.length:Int)-1)=(k:Int))
  (hk:(k:Int)<(L.length:Int))
  (hcl:(k:Int).toNat*5+4+1<=(flat L).length)
  (hst:Uj (flat L) ((k:Int).toNat*5+4) [.sl (p.map E.byte)]=flat L2)
  (hL2:L2.length=L.length)
  (hget:L[(k:Int).toNat]?=some (.agg [.int .u64 (cty:Int),.int .u64 (cnum:Int),.int .u64 (cfl:Int),.int .i64 csum,.sl cd]))
  (hI:L.take (k:Int).toNat=L0)
  (hkn:(k:Int).toNat<=L.length)
  (hW:AP Tryd.prog 11 [.agg [.int .u64 (fl:Int),.int .i64 sum,.bool di,.int .u64 (dn:Int),.int .u64 (ds:Int),.str dh,.str dd,.bool ri,.int .u64 (rn:Int),.int .u64 (rs:Int),.str rh,.str rd,.bool xi,.int .u64 (xn:Int),.int .u64 (xs:Int),.str xh,.str xd,.int .u64 (t:Int),.int .u64 (q:Int),.int .u64 (life:Int),.sl .ext L2]] (.tup [byE d,.int .i64 0]) [])
  (hT:AP Tryd.prog 9 [.agg [.int .u64 (fl:Int),.int .i64 sum,.bool di,.int .u64 (dn:Int),.int .u64 (ds:Int),.str dh,.str dd,.bool ri,.int .u64 (rn:Int),.int .u64 (rs:Int),.str rh,.str rd,.bool xi,.int .u64 (xn:Int),.int .u64 (xs:Int),.str xh,.str xd,.int .u64 (t:Int),.int .u64 (q:Int),.int .u64 (life:Int),.sl .ext (L++[.agg [.int .u64 (cty:Int),.int .u64 (cnum:Int),.int .u64 (cfl:Int),.int .i64 csum,.sl cd]])]] (.bool false) [])
  (hN:AP Tryd.prog 9 [.agg [.int .u64 (fl:Int),.int .i64 sum,.bool di,.int .u64 (dn:Int),.int .u64 (ds:Int),.str dh,.str dd,.bool ri,.int .u64 (rn:Int),.int .u64 (rs:Int),.str rh,.str rd,.bool xi,.int .u64 (xn:Int),.int .u64 (xs:Int),.str xh,.str xd,.int .u64 (t:Int),.int .u64 (q:Int),.int .u64 (life:Int),.sl .ext L0]] (.bool false) [])
  (hRd:AP Tryd.prog 12 [byE d] (.tup [.agg [.int .u64 (fl:Int),.int .i64 sum,.bool di,.int .u64 (dn:Int),.int .u64 (ds:Int),.str dh,.str dd,.bool ri,.int .u64 (rn:Int),.int .u64 (rs:Int),.str rh,.str rd,.bool xi,.int .u64 (xn:Int),.int .u64 (xs:Int),.str xh,.str xd,.int .u64 (t:Int),.int .u64 (q:Int),.int .u64 (life:Int),.sl .ext L2],.int .i64 0]) [])
  (hP:AP Tryd.prog 13 [.agg [.int .u64 (fl:Int),.int .i64 sum,.bool di,.int .u64 (dn:Int),.int .u64 (ds:Int),.str dh,.str dd,.bool ri,.int .u64 (rn:Int),.int .u64 (rs:Int),.str rh,.str rd,.bool xi,.int .u64 (xn:Int),.int .u64 (xs:Int),.str xh,.str xd,.int .u64 (t:Int),.int .u64 (q:Int),.int .u64 (life:Int),.sl .ext L2]] (byE p) [])
  (tp:(p != p)=false)
  (tq:(!((fl:Int)==(fl:Int)&&(sum==sum&&(di==di&&((dn:Int)==(dn:Int)&&((ds:Int)==(ds:Int)&&(dh==dh&&(dd==dd&&(ri==ri&&((rn:Int)==(rn:Int)&&((rs:Int)==(rs:Int)&&(rh==rh&&(rd==rd&&(xi==xi&&((xn:Int)==(xn:Int)&&((xs:Int)==(xs:Int)&&(xh==xh&&(xd==xd&&((t:Int)==(t:Int)&&((q:Int)==(q:Int)&&((life:Int)==(life:Int)&&true)))))))))))))))))))))=false)
  (en2:IntKind.i64.wrap ((k:Int)+1)=(L2.length:Int))
  (tl:((L2.length:Int) != (L2.length:Int))=false)
  (t2:decide (((p.map E.byte).length:Int)>200)=false) :
  AP Tryd.prog 4 [.agg [.int .u64 (fl:Int),.int .i64 sum,.bool di,.int .u64 (dn:Int),.int .u64 (ds:Int),.str dh,.str dd,.bool ri,.int .u64 (rn:Int),.int .u64 (rs:Int),.str rh,.str rd,.bool xi,.int .u64 (xn:Int),.int .u64 (xs:Int),.str xh,.str xd,.int .u64 (t:Int),.int .u64 (q:Int),.int .u64 (life:Int),.sl .ext L],byE p] (.bool true) []:=by
 refine AP.ofA (Zl Tryd.func4 Z Tryd.ntmps4 Z Z ?_)
 repeat'(first|exact YK (t:=90) rfl rfl|exact YK (t:=97) rfl rfl|(apply UW 8 7 Za ZF;decide +kernel;kernel_rfl;kernel_rfl;kernel_rfl;(iterate 5 exact Z);(decide +kernel))|exact alJ Za rfl rfl|(apply KU;exact Z)|(apply KN;(iterate 3 exact Z))|(apply UW 15 14 Za ZF;decide +kernel;kernel_rfl;kernel_rfl;kernel_rfl;(iterate 5 exact Z);(decide +kernel))|exact alJ Za rfl rfl|(apply KU;exact Z)|(apply KN;(iterate 3 exact Z))|(apply Zb (hA);kernel_rfl;(iterate 4 exact Z))|(apply Zb (hG);kernel_rfl;(iterate 4 exact Z))|(apply Zb (hR);kernel_rfl;(iterate 4 exact Z))|refine T3 Za Z Z Z Z Z Z ?_|(apply Jr (m:=1) (t:=31) Za;(iterate 4 exact Z);exact(Src.sl rfl);exact Z;exact hU;exact hne;exact Z;exact hb1;exact hb2;(iterate 3 exact Z))|(apply Vj (t:=90) Za;(iterate 4 exact Z);exact(Src.sl rfl);exact Z;exact hU;exact hne;exact hb1;exact hb2;(iterate 3 exact Z))|(apply ZV (t:=97) Za;(iterate 9 exact Z);exact hU;exact Zj rfl;exact List.cons_ne_nil _ _;exact hb3;exact hb4;exact Z;exact Z)|refine VU Za Z Z Z Z Z Z hU (Int.natCast_nonneg _) hkn hI ?_|refine Ko Za Z Z Z Z Z Z hcl hst Z ?_|(apply Xp (b:=1) (l:=L2);exact Z;exact Z;exact hL2;exact Z;(repeat (first|exact True.intro|refine⟨rfl,?_⟩));exact Z;(repeat (first|exact True.intro|refine⟨rfl,?_⟩));exact Z;exact Z;apply Zb (hW);kernel_rfl;(iterate 4 exact Z))|(apply Zb (hT);kernel_rfl;(iterate 4 exact Z))|(apply Zb (hN);kernel_rfl;(iterate 4 exact Z))|refine Gx Za Z Z Z Z ?_|(apply Gy Za;(iterate 6 exact Z);(first|exact Qb|rotate_left);(first|exact Qb|rotate_left);exact Z)|rw[en]|rw[en2]|(apply Zb (hRd);kernel_rfl;(iterate 4 exact Z))|(apply Zb (hP);kernel_rfl;(iterate 4 exact Z))|(apply Zh Za;exact Z)|(apply Zf Za;exact Z)|(apply Zt Za;exact Z)|refine V7 Za Z Z Z Z Z Z Z ?_|(apply Ze;(iterate 3 exact Z);(first|with_reducible assumption|decide +kernel|(solve|simp only[bn])))|(apply Zk;exact Z;(first|with_reducible assumption|decide +kernel|(solve|simp only[bn]));exact Z;exact Z)|(apply Zi;exact Z;(first|with_reducible assumption|decide +kernel|(solve|simp only[bn]));exact Z;exact Z)|(apply Zd;exact Z;(first|with_reducible assumption|decide +kernel|(solve|simp only[bn])))|(apply Zg;exact Z;(first|with_reducible assumption|decide +kernel|(solve|simp only[bn])))|refine Zm Za Z Z Z Z ?_|refine ZS Za Z Z Z Z Z Z Z Z Z Z Z Z ?_|refine Uw Za Z Z Z Z Qk Qk Z Z Z ?_|(apply Zn 23 ZF;decide +kernel;kernel_rfl;kernel_rfl;kernel_rfl;exact Z;exact Z)|(apply Zr;(iterate 4 exact Z))|exact AE.nil _ _ _ _|(apply Zv;exact Z)|(apply Yb;exact Z)|(apply ZA;exact Z;exact Z;decide +kernel;exact Z)|(apply ZB;exact Z)|(apply Yv;exact Z)|exact AO.nil _ _ _|(apply Zq;(decide +kernel))|(apply ZY;(iterate 3 exact Z))|exact AOs.nil|exact ZG rfl rfl|exact Y8 rfl rfl rfl rfl rfl|exact YK rfl rfl|(apply Zu Za;(iterate 6 exact Z);(first|exact Qt|rotate_left);(first|with_reducible assumption|decide +kernel|exact Z);(first|exact Zj rfl|with_reducible assumption|decide +kernel|rotate_left))|refine KA Za Z Z Z Z Z Z Z Z Z ?_)
 all_goals first|((apply Zs [];(apply Zc Za;exact Z);(iterate 4 exact Z)))|skip
 all_goals first|rfl|skip
theorem Xq [Known][KnownU8](b:BunV)(hb:b.p.fl<18446744073709551616/\∀ c ∈ b.bl,c.fl<18446744073709551616)(p:List UInt8):AP Tryd.prog 4 [.agg (bnC b),byE p] (.bool true) []:=by
 have hA:=Hs
 have hG:=Hr b
 cases hg:QT b with
 | true=>
  rw[hg]at hG
  obtain⟨⟨fl,sum,⟨di,dn,ds,dh,dd⟩,⟨ri,rn,rs,rh,rd⟩,⟨xi,xn,xs,xh,xd⟩,t,q,life⟩,bl⟩:=b
  exact Rg _ _ _ _ _ _ _ _ _ _ _ _ _ _ _ _ _ _ _ _ _ _ hA hG
 | false=>
 rw[hg]at hG
 have hok:BunOk b:=⟨hb.1,by have:=(Xl hg).1;omega,fun c hc=>⟨hb.2 c hc,Nat.le_trans ((Xl hg).2 c hc) (by omega)⟩⟩
 cases t1:decide (((p.map E.byte).length:Int)>300) with
 | true=>
  obtain⟨⟨fl,sum,⟨di,dn,ds,dh,dd⟩,⟨ri,rn,rs,rh,rd⟩,⟨xi,xn,xs,xh,xd⟩,t,q,life⟩,bl⟩:=b
  exact Rh _ _ _ _ _ _ _ _ _ _ _ _ _ _ _ _ _ _ _ _ _ _ hA hG t1
 | false=>
 have hp:p.length<=300:=by have:=of_decide_eq_false t1;rw[List.length_map]at this;omega
 have hR:=Ui b hok
 cases hr:Z8 b with
 | false=>
  rw[hr]at hR
  obtain⟨⟨fl,sum,⟨di,dn,ds,dh,dd⟩,⟨ri,rn,rs,rh,rd⟩,⟨xi,xn,xs,xh,xd⟩,t,q,life⟩,bl⟩:=b
  exact Ri _ _ _ _ _ _ _ _ _ _ _ _ _ _ _ _ _ _ _ _ _ _ hA hG t1 hR
 | true=>
 rw[hr]at hR
 obtain⟨init,c,hbl,hty,_,htwo,hnone⟩:=O1 hr
 obtain⟨pp,bl⟩:=b
 dsimp only at hbl htwo hnone hb
 subst hbl
 have hlen:=hok.len
 have hl20:=(Xl hg).1
 have hbk:=hok.bl
 dsimp only at hlen hbk hl20
 rw[List.length_append,List.length_singleton]at hlen hl20
 have hcb:=hbk c (by simp)
 have hok2:BunOk ⟨pp,init++[⟨c.ty,c.num,c.fl,c.sum,p⟩]⟩:=⟨hb.1,by simpa using hlen,fun d hd=>by
  rcases List.mem_append.1 hd with hd|hd
  ·exact hbk d (List.mem_append_left _ hd)
  ·rw[List.mem_singleton]at hd
   subst hd
   exact⟨hcb.1,by show p.length<=3000;omega⟩⟩
 have hokT:BunOk ⟨pp,init++[c]++[c]⟩:=⟨hb.1,by show(init++[c]++[c]).length<=1000000;simp only[List.length_append,List.length_singleton];omega,fun d hd=>by
  rcases List.mem_append.1 hd with hd|hd
  ·exact hbk d hd
  ·rw[List.mem_singleton]at hd
   subst hd
   exact hcb⟩
 have hokN:BunOk ⟨pp,init⟩:=⟨hb.1,by show init.length<=1000000;omega,fun d hd=>hbk d (List.mem_append_left _ hd)⟩
 have hT:=Ui _ hokT
 rw[htwo]at hT
 have hN:=Ui _ hokN
 rw[hnone]at hN
 have hW:=Vt _ hok2
 have hP:=TY _ hok2
 rw[T0]at hP
 have hLl:(Z0 (init++[c])).length=init.length+1:=by rw[VC,List.length_append];rfl
 have hU:=Xx (init++[c])
 have hU0:=Xx init
 have hst:=T1 init c p
 have hfl:(flat (Z0 (init++[c]))).length=(init.length+1)*5:=by rw[hU.flat,hLl]
 have hL2:(Z0 (init++[⟨c.ty,c.num,c.fl,c.sum,p⟩])).length=(Z0 (init++[c])).length:=by simp[Z0]
 have hget:(Z0 (init++[c]))[((init.length:Nat):Int).toNat]?=some (.agg [.int .u64 (c.ty:Int),.int .u64 (c.num:Int),.int .u64 (c.fl:Int),.int .i64 c.sum,.sl (c.data.map E.byte)]):=Uh (by simp)
 have hI:(Z0 (init++[c])).take ((init.length:Nat):Int).toNat=Z0 init:=by rw[Int.toNat_natCast,Z0,List.map_append,List.take_append_of_le_length (by simp),List.take_of_length_le (by simp)]
 have hT2:Z0 (init++[c]++[c])=Z0 (init++[c])++[.agg [.int .u64 (c.ty:Int),.int .u64 (c.num:Int),.int .u64 (c.fl:Int),.int .i64 c.sum,.sl (c.data.map E.byte)]]:=by
  rw[Z0,List.map_append]
  rfl
 unfold bnC at hT
 dsimp only at hT
 rw[hT2]at hT
 have hne:Z0 (init++[c]) ≠ []:=fun e=>by rw[e]at hLl;simp at hLl
 have hb1:(Z0 (init++[c])).length<=maxLen:=by rw[hLl];simp only[maxLen];omega
 have hb2:(Z0 (init++[c])).length*56<=140737488355328:=by rw[hLl];omega
 have hb3:(Z0 (init++[c])).length+1<=maxLen:=by rw[hLl];simp only[maxLen];omega
 have hb4:((Z0 (init++[c])).length+1)*56<=140737488355328:=by rw[hLl];omega
 have en:IntKind.i64.wrap (((Z0 (init++[c])).length:Int)-1)=(init.length:Int):=by rw[hLl,IntWalk.i64_in _ (by omega)];omega
 have hk:(init.length:Int)<((Z0 (init++[c])).length:Int):=by rw[hLl];omega
 have hcl:((init.length:Nat):Int).toNat*5+4+1<=(flat (Z0 (init++[c]))).length:=by rw[hfl,Int.toNat_natCast];omega
 have hkn:((init.length:Nat):Int).toNat<=(Z0 (init++[c])).length:=by rw[hLl,Int.toNat_natCast];omega
 unfold Vs at hW
 cases hr2:Z8 ⟨pp,init++[⟨c.ty,c.num,c.fl,c.sum,p⟩]⟩ with
 | false=>
  rw[hr2]at hW
  obtain⟨fl,sum,⟨di,dn,ds,dh,dd⟩,⟨ri,rn,rs,rh,rd⟩,⟨xi,xn,xs,xh,xd⟩,t,q,life⟩:=pp
  exact Rj _ _ _ _ _ _ _ _ _ _ _ _ _ _ _ _ _ _ _ _ _ _ _ _ _ _ _ _ _ _ [] 3 hA hG t1 hR hU hU0 hne hLl hb1 hb2 hb3 hb4 en hk hcl hst hL2 hget hI hkn hW hT hN rfl
 | true=>
  rw[hr2]at hW
  have hpl:=IJ hr2
  have hRd:=UV (Ws ⟨pp,init++[⟨c.ty,c.num,c.fl,c.sum,p⟩]⟩) (by omega)
  rw[VI hr2 (Jc hok2.fl hok2.bl)]at hRd
  have hp2:p.length<=200:=by
   have hf:U0 (init++[⟨c.ty,c.num,c.fl,c.sum,p⟩])=true:=by
    unfold Z8 at hr2
    simp only[Bool.and_eq_true]at hr2
    exact hr2.1
   exact N3 ((WY hf).2 ⟨c.ty,c.num,c.fl,c.sum,p⟩ (by simp))
  have t2:decide (((p.map E.byte).length:Int)>200)=false:=decide_eq_false (by rw[List.length_map];omega)
  have en2:IntKind.i64.wrap ((init.length:Int)+1)=((Z0 (init++[⟨c.ty,c.num,c.fl,c.sum,p⟩])).length:Int):=by rw[hL2,hLl,IntWalk.i64_in _ (by omega)];omega
  generalize Ws ⟨pp,init++[⟨c.ty,c.num,c.fl,c.sum,p⟩]⟩=d at *
  obtain⟨fl,sum,⟨di,dn,ds,dh,dd⟩,⟨ri,rn,rs,rh,rd⟩,⟨xi,xn,xs,xh,xd⟩,t,q,life⟩:=pp
  exact Rk _ _ _ _ _ _ _ _ _ _ _ _ _ _ _ _ _ _ _ _ _ _ _ _ _ _ _ _ _ _ d hA hG t1 hR hU hU0 hne hLl hb1 hb2 hb3 hb4 en hk hcl hst hL2 hget hI hkn hW hT hN hRd hP (by simp) (by simp) en2 (by simp) t2
end Go.Proofs.YtmljabhmajehnaaDoor
end
section
open Go.RowKit Go.Pl
namespace Go.Pl
def KW {α:Type}(P:Program)(fs:Array Field)(i o:Nat)(R:Rep α):Prop:=
 ∀(H:Type) (enc:TypeId × Value->H) (W:World) (spare:Nat->Bool) (held:Bool) (n:Nat) (cs:List Value) (xs:List (DataW H × List MemPlace)),cs.length=o+R.n->xs.length=fs.size ->
  (∀(j:Nat) (f:Field),fs[j]?=some f->DataW.trod enc P W 0 spare held n f.type ((cs.drop f.offset).take (P.cellsOf f.type))=xs[j]?)->∃ x,R.ok W (· < W.heap.size) (cs.drop o) x
variable {P:Program} {t:TypeId} {fs:Array Field}
theorem Kr {α:Type}{R:Rep α}{i o:Nat}{f:Field}(hf:fs[i]?=some f)(ho:f.offset=o)(hc:P.cellsOf f.type=R.n)(h:YI P f.type R){H:Type}{enc:TypeId × Value->H}{W:World}{spare:Nat->Bool}{held:Bool}{n:Nat}{cs:List Value}{xs:List (DataW H × List MemPlace)}(hl:xs.length=fs.size)
  (hg:∀(j:Nat) (f:Field),fs[j]?=some f->DataW.trod enc P W 0 spare held n f.type ((cs.drop f.offset).take (P.cellsOf f.type))=xs[j]?):∃ x,R.ok W (· < W.heap.size) ((cs.drop o).take R.n) x:=by
 have e:=hg i f hf
 rw[ho,hc]at e
 have hi:i<xs.length:=by
  rw[hl]
  exact(Array.getElem?_eq_some_iff.1 hf).1
 exact h H enc W spare held n _ _ (e.trans (List.getElem?_eq_getElem hi))
theorem Qn {α:Type}{R:Rep α}{i o:Nat}{f:Field}(hf:fs[i]?=some f)(ho:f.offset=o)(hc:P.cellsOf f.type=R.n)(h:YI P f.type R):KW P fs i o R:=by
 intro H enc W spare held n cs xs hcl hl hg
 obtain⟨x,hx⟩:=Kr hf ho hc h hl hg
 rw[List.take_of_length_le (by rw[List.length_drop];omega)]at hx
 exact⟨x,hx⟩
theorem YE {α β:Type}{R:Rep α}{R':Rep β}{i o:Nat}{f:Field}(hf:fs[i]?=some f)(ho:f.offset=o)(hc:P.cellsOf f.type=R.n)(h:YI P f.type R)(h':KW P fs (i+1) (o+R.n) R'):KW P fs i o (R.prod R'):=by
 intro H enc W spare held n cs xs hcl hl hg
 obtain⟨x,hx⟩:=Kr hf ho hc h hl hg
 have hn:(R.prod R').n=R.n+R'.n:=rfl
 obtain⟨x',hx'⟩:=h' H enc W spare held n cs xs (by rw[hn]at hcl;omega) hl hg
 refine⟨(x,x'),(cs.drop o).take R.n,(cs.drop o).drop R.n,(List.take_append_drop _ _).symm,hx,?_⟩
 rw[List.drop_drop]
 exact hx'
theorem Uk {α:Type}{R:Rep α}(hs:P.underlying t=some (.struct fs))(hc:P.cellsOf t=R.n)(h:KW P fs 0 0 R):YI P t R:=by
 intro H enc W spare held fuel cs y hy
 obtain⟨xs,n,_,_,hl,hxl,hg⟩:=DataW.trod_struct hs hy
 exact h H enc W spare held n cs xs (by omega) hxl hg
end Go.Pl
end
section
open Go.RowKit Go.Pl Go.Av
namespace Go.Proofs.YtmljabhmajehnaaDoor
set_option maxHeartbeats 4000000
abbrev RPr:Rep (Nat × Int × XE × XE × (XE × Nat × Nat) × Nat):=Rep.u64.prod (Rep.i64.prod (RE.prod (RE.prod (Go.Pl.RI.prod Rep.u64))))
theorem M4:YI Tryd.prog 30 RPr:=
 Uk Tryd.underlying30 (by kernel_rfl) (YE rfl rfl (by kernel_rfl) (Wa Tryd.underlying22) (YE rfl rfl (by kernel_rfl) (Xy Tryd.underlying3)
  (YE rfl rfl (by kernel_rfl) TK (YE rfl rfl (by kernel_rfl) TK (YE rfl rfl (by kernel_rfl) LD (Qn rfl rfl (by kernel_rfl) (Wa Tryd.underlying22)))))))
abbrev XPr:=Nat × Int × XE × XE × (XE × Nat × Nat) × Nat
def XPr.v (x:XPr):PriV:=⟨x.1,x.2.1,x.2.2.1.v,x.2.2.2.1.v,x.2.2.2.2.1.1.v,x.2.2.2.2.1.2.1,x.2.2.2.2.1.2.2,x.2.2.2.2.2⟩
theorem N8 {W:World}{v:Value}{b:List UInt8}(h:Sl Rep.byte W (· < W.heap.size) v b):V W (g0 W) [] (byE b) v:=.sl .ext _ _ (ToE.byte.sl (C:=(g0 W).C) (fun k hk o=>hk) h) trivial
abbrev RB:Rep (Nat × Nat × Nat × Int × List UInt8):=Rep.u64.prod (Rep.u64.prod (Rep.u64.prod (Rep.i64.prod (Rep.slice Rep.byte (by decide)))))
theorem LN:YI Tryd.prog 41 RB:=
 Uk Tryd.underlying41 (by kernel_rfl) (YE rfl rfl (by kernel_rfl) (Wa Tryd.underlying22) (YE rfl rfl (by kernel_rfl) (Wa Tryd.underlying22)
  (YE rfl rfl (by kernel_rfl) (Wa Tryd.underlying22) (YE rfl rfl (by kernel_rfl) (Xy Tryd.underlying3)
   (Qn rfl rfl (by kernel_rfl) (Ut (R:=Rep.byte) (by decide) Tryd.underlying39 (by kernel_rfl) (JG Tryd.underlying5)))))))
abbrev XB:=Nat × Nat × Nat × Int × List UInt8
def XB.v (x:XB):BlkV:=⟨x.1,x.2.1,x.2.2.1,x.2.2.2.1,x.2.2.2.2⟩
abbrev RBn:Rep ((Nat × Int × XE × XE × (XE × Nat × Nat) × Nat) × List XB):=RPr.prod (Rep.slice RB (by decide))
theorem M5:YI Tryd.prog 33 RBn:=
 Uk Tryd.underlying33 (by kernel_rfl) (YE rfl rfl (by kernel_rfl) M4 (Qn rfl rfl (by kernel_rfl) (Ut (R:=RB) (by decide) Tryd.underlying31 (by kernel_rfl) LN)))
abbrev XBn:=(Nat × Int × XE × XE × (XE × Nat × Nat) × Nat) × List XB
def XBn.v (x:XBn):BunV:=⟨⟨x.1.1,x.1.2.1,x.1.2.2.1.v,x.1.2.2.2.1.v,x.1.2.2.2.2.1.1.v,x.1.2.2.2.2.1.2.1,x.1.2.2.2.2.1.2.2,x.1.2.2.2.2.2⟩,x.2.map XB.v⟩
theorem M6:ToE RB (fun x=>.agg [.int .u64 (x.1:Int),.int .u64 (x.2.1:Int),.int .u64 (x.2.2.1:Int),.int .i64 x.2.2.2.1,.sl (x.2.2.2.2.map E.byte)]):=ToE.u64.prod (ToE.u64.prod (ToE.u64.prod (ToE.i64.prod (ToE.byte.slice (by decide)))))
theorem Rl [Known]{W:World}{cs:List Value}{x:XBn}(h:RBn.ok W (· < W.heap.size) cs x):V W (g0 W) [] (.agg (bnC x.v)) (.agg cs.toArray):=by
 obtain⟨⟨fl,sum,⟨di,dn,ds,dh,dd⟩,⟨ri,rn,rs,rh,rd⟩,⟨⟨xi,xn,xs,xh,xd⟩,t,q⟩,life⟩,bl⟩:=x
 have te:=(ToE.u64.prod (ToE.i64.prod (KQ.prod (KQ.prod ((KQ.prod (ToE.u64.prod ToE.u64)).prod ToE.u64))))).prod (M6.slice (by decide))
 have h2:=ToE.agg te (l:=[.int .u64 (fl:Int),.int .i64 sum,.bool di,.int .u64 (dn:Int),.int .u64 (ds:Int),.str dh,.str dd,.bool ri,.int .u64 (rn:Int),.int .u64 (rs:Int),.str rh,.str rd,.bool xi,.int .u64 (xn:Int),.int .u64 (xs:Int),.str xh,.str xd,.int .u64 (t:Int),.int .u64 (q:Int),.int .u64 (life:Int),.sl (bl.map fun x=>.agg [.int .u64 (x.1:Int),.int .u64 (x.2.1:Int),.int .u64 (x.2.2.1:Int),.int .i64 x.2.2.2.1,.sl (x.2.2.2.2.map E.byte)])]) rfl h
 have e:Z0 (bl.map XB.v)=bl.map fun x=>.agg [.int .u64 (x.1:Int),.int .u64 (x.2.1:Int),.int .u64 (x.2.2.1:Int),.int .i64 x.2.2.2.1,.sl (x.2.2.2.2.map E.byte)]:=List.map_map ..
 rw[<- e]at h2
 exact h2
theorem O6 {α:Type}{R:Rep α}{w:World}{S:Nat->Prop}:∀ {l:List α} {cs:List Value},Run R w S cs l->∀ x ∈ l,∃ c,R.ok w S c x
 | [],_,_,x,hx=>by simp at hx
 | y::l,cs,⟨c1,c2,_,h1,h2⟩,x,hx=>by
  rcases List.mem_cons.1 hx with rfl|hx
  ·exact⟨c1,h1⟩
  ·exact O6 h2 x hx
theorem M7 {W:World}{S:Nat->Prop}{cs:List Value}{x:XB}(h:RB.ok W S cs x):x.v.fl<18446744073709551616:=by
 obtain⟨ty,num,fl,sum,data⟩:=x
 obtain⟨_,_,_,_,_,_,_,_,_,_,_,⟨_,h1⟩,_⟩:=h
 exact h1
theorem LO {W:World}{cs:List Value}{x:XBn}(h:RBn.ok W (· < W.heap.size) cs x):x.v.p.fl<18446744073709551616/\∀ c ∈ x.v.bl,c.fl<18446744073709551616:=by
 obtain⟨⟨fl,r⟩,bl⟩:=x
 obtain⟨_,_,_,⟨_,_,_,⟨_,h1⟩,_⟩,⟨v,_,A,cap,_,_,_,c3,hr,_⟩⟩:=h
 refine⟨h1,fun c hc=>?_⟩
 obtain⟨y,hy,rfl⟩:=List.mem_map.1 hc
 obtain⟨c4,h4⟩:=O6 hr y hy
 exact M7 h4
end Go.Proofs.YtmljabhmajehnaaDoor
end
section
open Go.RowKit Go.Pl Go.Av Go.Lib
namespace Go.Proofs.YtmljabhmajehnaaDoor
theorem Jd (k:IntKind):∀ zs:List Int,Js (zs.map fun z=>.lit (.int k z))=zs.map fun z=>Value.int k z
 | []=>rfl
 | z::zs=>by rw[List.map_cons,List.map_cons,Js,Jd k zs];rfl
theorem O7 {P:Program}{W:World}{n:String}{g:Nat}{t:TypeId}{d:DataW Unit}(hg:P.globalNamed n=some g)(ht:(P.globals[g]?).map (·.type)=some t)(h:VarReads P W n d)
  (key:∀(fuel:Nat) (cs:List Value) (p:List MemPlace),DataW.trod (fun _=>()) P W 0 (fun _=>true) false fuel t cs=some (d,p)->∀(j:Nat) (v:Value),(dcs d)[j]?=some v->cs[j]?=some v) :
  ∀(j:Nat) (v:Value),(dcs d)[j]?=some v->(g0 W).C g j/\W.cell? ⟨g,j,none⟩=some v:=by
 obtain⟨g',t',cs,fuel,p,h1,h2,h3,h4⟩:=h
 obtain rfl:=Option.some.inj (hg.symm.trans h1)
 obtain rfl:=Option.some.inj (ht.symm.trans h2)
 intro j v hv
 have hc:=key fuel cs.toList p h4 j v hv
 have hcell:W.cell? ⟨g,j,none⟩=some v:=by
  rw[World.var?_cell hg h3 j,<- Array.getElem?_toList];exact hc
 exact⟨World.block_lt_of_cell? W _ hcell,hcell⟩
theorem N9 {P:Program}{W:World}{t e:TypeId}{n:Nat}{k:IntKind}{d:DataW Unit}(zs:List Int)(hd:d=tabData k zs)(ht:P.underlying t=some (.array n e))(he:P.underlying e=some (.int k))(hce:P.cellsOf e=1)(hct:P.cellsOf t=n) :
  ∀(fuel:Nat) (cs:List Value) (p:List MemPlace),DataW.trod (fun _=>()) P W 0 (fun _=>true) false fuel t cs=some (d,p)->∀(j:Nat) (v:Value),(dcs d)[j]?=some v->cs[j]?=some v:=by
 subst hd
 intro fuel cs p h j v hv
 rw[cells_of_tab ht he hce hct h]
 rw[tabData,dcs,Jd]at hv
 exact hv
theorem Ma {P:Program}{W:World}{t e:TypeId}{n:Nat}{k:IntKind}{d:DataW Unit}{fs:Array Field}(rows:List (List Int))(hd:d=.agg (rows.map fun r=>.agg (r.map fun z=>.lit (.int k z))))(hn:rows.length=n)(ht:P.underlying t=some (.array n e))(he:P.underlying e=some (.struct fs))
  (hf:∀(i:Nat) (f:Field),fs[i]?=some f->P.underlying f.type=some (.int k)/\f.offset=i/\P.cellsOf f.type=1) (hce:P.cellsOf e=fs.size) :
  ∀(fuel:Nat) (cs:List Value) (p:List MemPlace),DataW.trod (fun _=>()) P W 0 (fun _=>true) false fuel t cs=some (d,p)->∀(j:Nat) (v:Value),(dcs d)[j]?=some v->cs[j]?=some v:=by
 subst hd
 intro fuel cs p h j v hv
 have key:∀ i,i<=n->cs.take (i*fs.size)=Js ((rows.take i).map fun r=>.agg (r.map fun z=>.lit (.int k z))):=by
  intro i
  induction i with
  | zero=>intro _;rw[Nat.zero_mul,List.take_zero,List.take_zero];rfl
  | succ i ih=>
   intro hi
   obtain⟨fuel',d',q,hdi,he'⟩:=array_elem ht h i (by omega)
   rw[List.getElem?_map,List.getElem?_eq_getElem (by omega:i<rows.length)]at hdi
   simp only[Option.map_some,Option.some.injEq]at hdi
   subst hdi
   rw[hce]at he'
   have hcs:=ints_of_struct he hf hce he'
   rw[Nat.succ_mul,List.take_add,ih (by omega),hcs,List.take_succ_eq_append_getElem (by omega:i<rows.length),List.map_append]
   have app:∀(a b:List (DataW Unit)),Js (a++b)=Js a++Js b:=fun a b=>by
    induction a with
    | nil=>rfl
    | cons x a ih=>rw[List.cons_append,Js,Js,ih,List.append_assoc]
   rw[app,List.map_cons,List.map_nil,Js,dcs,Jd]
   simp[Js]
 have h2:=key n (Nat.le_refl _)
 rw[<- hn,List.take_length]at h2
 rw[dcs,<- h2]at hv
 rw[List.getElem?_take]at hv
 split at hv
 ·exact hv
 ·cases hv
abbrev Ul:Known:=⟨[0,1]⟩
theorem IS : @KnownU8 Ul:=@KnownU8.mk Ul (List.mem_cons_self ..) (List.mem_cons_of_mem _ (List.mem_cons_self ..))
def M8:List Int:=Pinned.utf8FirstZ.map Int.ofNat
def Mb:List (List Int):=[[128,191],[160,191],[128,159],[144,191],[128,143],[0,0],[0,0],[0,0],[0,0],[0,0],[0,0],[0,0],[0,0],[0,0],[0,0],[0,0]]
theorem M9 {W:World}{laid:List (String × DataW Unit)}(h1:("unicode/utf8.first",Rows.laid_unicode_utf8_first) ∈ laid)(h2:("unicode/utf8.acceptRanges",Rows.laid_unicode_utf8_acceptRanges) ∈ laid)(h:laidMet Tryd.prog laid W) : @Gls Ul (g0 W).C W:=by
 have r1:=laidMet.reads h h1
 have r2:=laidMet.reads h h2
 have c1:=O7 (P:=Tryd.prog) (g:=0) (t:=156) (by kernel_rfl) (by kernel_rfl) r1 (N9 M8 (by kernel_rfl) (n:=256) (by kernel_rfl) Tryd.underlying5 (by kernel_rfl) (by kernel_rfl))
 have c2:=O7 (P:=Tryd.prog) (g:=1) (t:=159) (by kernel_rfl) (by kernel_rfl) r2 (Ma Mb (by kernel_rfl) (n:=16) rfl Tryd.underlying159 Tryd.underlying158 (fun i f hf=>by
  match i,hf with
  | 0,hf=>simp at hf;subst hf;exact⟨Tryd.underlying5,rfl,by kernel_rfl⟩
  | 1,hf=>simp at hf;subst hf;exact⟨Tryd.underlying5,rfl,by kernel_rfl⟩
  | i+2,hf=>simp at hf) (by kernel_rfl))
 refine⟨fun k cs hk=>?_,fun k t hk=>?_⟩
 ·obtain⟨hk,hm⟩:=hk
  simp only[K0,List.mem_cons,List.not_mem_nil,or_false,Prod.mk.injEq]at hm
  have hk:k ∈ [0,1]:=hk
  simp only[List.mem_cons,List.not_mem_nil,or_false]at hk
  clear r1 r2 h1 h2 h
  rcases hk with rfl|rfl
  all_goals repeat'(refine Or.elim hm (fun hm=>?_) (fun hm=>?_))
  all_goals first
   | (obtain⟨h,rfl⟩:=hm;exact c1)
   | (obtain⟨h,rfl⟩:=hm;exact c2)
   | (obtain⟨h,_⟩:=hm;exact absurd h (by decide))
 ·obtain⟨hk,hm⟩:=hk
  have hk:k ∈ [0,1]:=hk
  simp only[List.mem_cons,List.not_mem_nil,or_false]at hk
  simp only[Lb,List.mem_cons,List.not_mem_nil,or_false,Prod.mk.injEq]at hm
  all_goals omega
end Go.Proofs.YtmljabhmajehnaaDoor
end
section
open Go.RowKit Go.Pl Go.Av
namespace Go.Proofs.YtmljabhmajehnaaDoor
theorem Je (c0:List Value)(v1:Value)(x0:XBn)(x1:List UInt8)(W:World)(h0:RBn.ok W (· < W.heap.size) c0 x0)(h1:Sl Rep.byte W (· < W.heap.size) v1 x1)(hl:laidMet Tryd.prog Rows.bundlePartsRow.laid W) :
  Calls Tryd.prog 4 #[.agg c0.toArray,v1] W fun e w'=>e=.returned (.bool true)/\Below W.heap.size W w':=by
 have hg:=M9 (laid:=Rows.bundlePartsRow.laid) (by unfold Rows.bundlePartsRow;repeat (first|exact List.mem_cons_self .. | apply List.mem_cons_of_mem)) (by unfold Rows.bundlePartsRow;repeat (first|exact List.mem_cons_self .. | apply List.mem_cons_of_mem)) hl
 have h:=@Xq Ul IS x0.v x1 (hb:=LO h0)
 refine @LQ Ul Tryd.prog 4 _ (@AC.mono Ul _ _ _ _ _ _ _ h fun r b t h=>h.1) W [.agg c0.toArray,v1] hg rfl ?_
 intro j d v hd hv
 match j,hd,hv with
 | 0,hd,hv=>cases hd;cases hv;exact @Rl Ul _ _ _ h0
 | 1,hd,hv=>cases hd;cases hv;exact N8 h1
 | j+2,hd,hv=>cases hd
end Go.Proofs.YtmljabhmajehnaaDoor
end
