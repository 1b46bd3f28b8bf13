/- BundleWrites: the walk by cases (bwgen.py). -/
import Derived.Test.YtmljabhmajehnaaGreatDoorB42
import Derived.Test.YtmljabhmajehnaaGreatDoorB34
import Derived.Test.YtmljabhmajehnaaGreatDoorB39
import Derived.Test.YtmljabhmajehnaaGreatDoorB28
import Derived.Test.YtmljabhmajehnaaGreatDoorB37
set_option linter.unusedVariables false
set_option linter.unusedSimpArgs false
section
open Go.RowKit Go.Pl Go.Av
namespace Go.Proofs.YtmljabhmajehnaaGreatDoor
set_option maxHeartbeats 4000000
abbrev zBk:BlkV:=⟨0,0,0,0,[]⟩
theorem FB [Known](b c:BunV)(k:Nat)
  (hA:AP Tryz.prog 36 [] (.bool true) [])
  (hG:AP Tryz.prog 27 [.agg (bnC b)] (.bool true) []) :
  AP Tryz.prog 6 [.agg (bnC b),.agg (bnC c),.int .u64 (k:Int)] (.bool true) []:=by
 obtain⟨⟨fl,sum,⟨di,dn,ds,dh,dd⟩,⟨ri,rn,rs,rh,rd⟩,⟨xi,xn,xs,xh,xd⟩,t,q,life⟩,bl⟩:=b
 obtain⟨⟨fl2,sum2,⟨di2,dn2,ds2,dh2,dd2⟩,⟨ri2,rn2,rs2,rh2,rd2⟩,⟨xi2,xn2,xs2,xh2,xd2⟩,t2,q2,life2⟩,bl2⟩:=c
 try dsimp only at *
 refine AP.ofA (Zl Tryz.func6 U Tryz.ntmps6 U U ?_)
 repeat'(first|(apply Zb (hA);kernel_rfl;(iterate 4 exact U))|(apply Zb (hG);kernel_rfl;(iterate 4 exact U))|(apply Zh Za;exact U)|(apply Zg Za;exact U)|(apply Zo Za;exact U)|(apply Zn;(iterate 3 exact U);(first|with_reducible assumption|decide +kernel|(solve|simp only[bn])))|(apply Zj;exact U;(first|with_reducible assumption|decide +kernel|(solve|simp only[bn]));exact U;exact U)|(apply Zd;exact U;(first|with_reducible assumption|decide +kernel|(solve|simp only[bn]))))
 all_goals exact Qe
theorem FC [Known](b c:BunV)(k:Nat)
  (hA:AP Tryz.prog 36 [] (.bool true) [])
  (hG:AP Tryz.prog 27 [.agg (bnC b)] (.bool false) [])
  (hH:AP Tryz.prog 27 [.agg (bnC c)] (.bool true) []) :
  AP Tryz.prog 6 [.agg (bnC b),.agg (bnC c),.int .u64 (k:Int)] (.bool true) []:=by
 obtain⟨⟨fl,sum,⟨di,dn,ds,dh,dd⟩,⟨ri,rn,rs,rh,rd⟩,⟨xi,xn,xs,xh,xd⟩,t,q,life⟩,bl⟩:=b
 obtain⟨⟨fl2,sum2,⟨di2,dn2,ds2,dh2,dd2⟩,⟨ri2,rn2,rs2,rh2,rd2⟩,⟨xi2,xn2,xs2,xh2,xd2⟩,t2,q2,life2⟩,bl2⟩:=c
 try dsimp only at *
 refine AP.ofA (Zl Tryz.func6 U Tryz.ntmps6 U U ?_)
 repeat'(first|(apply Zb (hA);kernel_rfl;(iterate 4 exact U))|(apply Zb (hG);kernel_rfl;(iterate 4 exact U))|(apply Zb (hH);kernel_rfl;(iterate 4 exact U))|(apply Zh Za;exact U)|(apply Zg Za;exact U)|(apply Zo Za;exact U)|(apply Ze;(iterate 3 exact U);(first|with_reducible assumption|decide +kernel|(solve|simp only[bn])))|(apply Zi;exact U;(first|with_reducible assumption|decide +kernel|(solve|simp only[bn]));exact U;exact U)|(apply Zd;exact U;(first|with_reducible assumption|decide +kernel|(solve|simp only[bn]))))
 all_goals exact Qe
theorem FD [Known](b c:BunV)(k:Nat)(w:BlkV)(is r s:Bool)(at0 e:Int)(pay P:List UInt8)
  (hA:AP Tryz.prog 36 [] (.bool true) [])
  (hG:AP Tryz.prog 27 [.agg (bnC b)] (.bool false) [])
  (hH:AP Tryz.prog 27 [.agg (bnC c)] (.bool false) [])
  (hS:AP Tryz.prog 34 [.agg (bnC b)] (.agg (bnC b)) [])
  (hT:AP Tryz.prog 34 [.agg (bnC c)] (.agg (bnC c)) [])
  (hD:AP Tryz.prog 35 [.agg (bnC b)] (.tup [byE P,.bool r]) [])
  (hW:AP Tryz.prog 15 [.agg (bnC b)] (.tup [byE P,.int .i64 e]) [])
  (hF:AP Tryz.prog 12 [.agg (bnC b),.int .u64 (k:Int)] (.tup [.agg (bkC w),.bool is]) [])
  (hN:AP Tryz.prog 37 [.agg (bnC b),.int .u64 (k:Int)] (.int .i64 at0) [])
  (h7:AP Tryz.prog 39 [.agg (bkC w)] (.agg (bkC w)) [])
  (hM:AP Tryz.prog 38 [.agg (bkC w),.agg (bkC w)] (.bool true) [])
  (hP:AP Tryz.prog 10 [.agg (bnC b)] (byE pay) [])
  (hB:AP Tryz.prog 40 [.agg (bnC b),.agg (bnC c)] (.bool s) [])
  (hC:AP Tryz.prog 33 [.agg (bnC b),.agg (bnC c)] (.bool s) [])
  (hR:AP Tryz.prog 8 [.agg (bnC b)] (.bool r) [])
  (hk:(is=false/\at0 = -1/\w=zBk)\/(is=true/\0<=at0/\b.bl[at0.toNat]?=some w))
  (hl:(b.bl.length=0/\pay=[]/\r=false)\/(1<=b.bl.length/\∃ z,b.bl[b.bl.length-1]?=some z/\z.data=pay))
  (hr:(r=true/\e=0)\/(r=false/\e=3)) (hm:b.bl.length<=1000000) :
  AP Tryz.prog 6 [.agg (bnC b),.agg (bnC c),.int .u64 (k:Int)] (.bool true) []:=by
 have hlen:=Wh b.bl
 have hU:=UN b.bl
 have z1:(P==P)=true:=by simp
 have z2:(pay != pay)=false:=by simp
 have z3:(s != s)=false:=by simp
 have z4:(!(s==s))=false:=by simp
 have en:IntKind.i64.wrap (((ZX b.bl).length:Int)-1)=(b.bl.length:Int)-1:=by rw[IntWalk.i64_in _ (by omega)];omega
 obtain⟨⟨fl,sum,⟨di,dn,ds,dh,dd⟩,⟨ri,rn,rs,rh,rd⟩,⟨xi,xn,xs,xh,xd⟩,t,q,life⟩,bl⟩:=b
 obtain⟨⟨fl2,sum2,⟨di2,dn2,ds2,dh2,dd2⟩,⟨ri2,rn2,rs2,rh2,rd2⟩,⟨xi2,xn2,xs2,xh2,xd2⟩,t2,q2,life2⟩,bl2⟩:=c
 try dsimp only at *
 rcases hl with⟨h0,rfl,rfl⟩ | ⟨h1,z,hz,rfl⟩
 ·have l0:decide (((ZX bl).length:Int)>0)=false:=decide_eq_false (by omega)
  obtain rfl:bl=[]:=List.eq_nil_of_length_eq_zero h0
  rcases hr with⟨h,_⟩ | ⟨_,rfl⟩
  ·cases h
  rcases hk with⟨rfl,rfl,rfl⟩ | ⟨rfl,ha,hw⟩
  ·refine AP.ofA ?_
   refine Zl Tryz.func6 rfl Tryz.ntmps6 rfl rfl ?_
   repeat'(first|(apply Zb (hA);kernel_rfl;(iterate 4 exact U))|(apply Zb (hG);kernel_rfl;(iterate 4 exact U))|(apply Zb (hH);kernel_rfl;(iterate 4 exact U))|(apply Zb (hS);kernel_rfl;(iterate 4 exact U))|(apply Zb (hT);kernel_rfl;(iterate 4 exact U))|(apply Zb (hD);kernel_rfl;(iterate 4 exact U))|(apply Zb (hW);kernel_rfl;(iterate 4 exact U))|(apply Zb (hF);kernel_rfl;(iterate 4 exact U))|(apply Zb (hN);kernel_rfl;(iterate 4 exact U))|(apply Zb (h7);kernel_rfl;(iterate 4 exact U))|(apply Zb (hM);kernel_rfl;(iterate 4 exact U))|(apply Zb (hP);kernel_rfl;(iterate 4 exact U))|(apply Zb (hB);kernel_rfl;(iterate 4 exact U))|(apply Zb (hC);kernel_rfl;(iterate 4 exact U))|(apply Zb (hR);kernel_rfl;(iterate 4 exact U))|(apply Zh Za;exact U)|(apply Zg Za;exact U)|(apply Zo Za;exact U)|(apply Ze;(iterate 3 exact U);(first|with_reducible assumption|decide +kernel|(solve|simp only[bn])))|(apply Zj;exact U;(first|with_reducible assumption|decide +kernel|(solve|simp only[bn]));exact U;exact U)|(apply Zi;exact U;(first|with_reducible assumption|decide +kernel|(solve|simp only[bn]));exact U;exact U)|(apply Zf;exact U;(first|with_reducible assumption|decide +kernel|(solve|simp only[bn])))|refine Zm Za U U U U ?_|(apply Zq 25 ZE;decide +kernel;kernel_rfl;kernel_rfl;kernel_rfl;exact U;exact U)|(apply Zt;(iterate 4 exact U))|exact AE.nil _ _ _ _|(apply Zx;exact U)|(apply Zz;exact U;exact U;decide +kernel;exact U)|(apply ZA;exact U)|exact AO.nil _ _ _|(apply Zs;(decide +kernel))|exact AOs.nil|exact ZF rfl rfl|refine Wi Za U U U U U U U U U ?_)
   all_goals exact Qe
  ·simp at hw
 ·have l0:decide (((ZX bl).length:Int)>0)=true:=decide_eq_true (by omega)
  have hv0:=YV hz
  rw[show((bl.length-1:Nat):Int)=(bl.length:Int)-1 from by omega]at hv0
  have i0:(0:Int)<=(bl.length:Int)-1:=by omega
  rcases hr with⟨rfl,rfl⟩ | ⟨rfl,rfl⟩
  all_goals rcases hk with⟨rfl,rfl,rfl⟩ | ⟨rfl,ha,hw⟩
  ·refine AP.ofA ?_
   refine Zl Tryz.func6 rfl Tryz.ntmps6 rfl rfl ?_
   repeat'(first|rw[en]|(apply Zb (hA);kernel_rfl;(iterate 4 exact U))|(apply Zb (hG);kernel_rfl;(iterate 4 exact U))|(apply Zb (hH);kernel_rfl;(iterate 4 exact U))|(apply Zb (hS);kernel_rfl;(iterate 4 exact U))|(apply Zb (hT);kernel_rfl;(iterate 4 exact U))|(apply Zb (hD);kernel_rfl;(iterate 4 exact U))|(apply Zb (hW);kernel_rfl;(iterate 4 exact U))|(apply Zb (hF);kernel_rfl;(iterate 4 exact U))|(apply Zb (hN);kernel_rfl;(iterate 4 exact U))|(apply Zb (h7);kernel_rfl;(iterate 4 exact U))|(apply Zb (hM);kernel_rfl;(iterate 4 exact U))|(apply Zb (hP);kernel_rfl;(iterate 4 exact U))|(apply Zb (hB);kernel_rfl;(iterate 4 exact U))|(apply Zb (hC);kernel_rfl;(iterate 4 exact U))|(apply Zb (hR);kernel_rfl;(iterate 4 exact U))|(apply Zh Za;exact U)|(apply Zg Za;exact U)|(apply Zo Za;exact U)|(apply Ze;(iterate 3 exact U);(first|with_reducible assumption|decide +kernel|(solve|simp only[bn])))|(apply Zn;(iterate 3 exact U);(first|with_reducible assumption|decide +kernel|(solve|simp only[bn])))|(apply Zj;exact U;(first|with_reducible assumption|decide +kernel|(solve|simp only[bn]));exact U;exact U)|(apply Zi;exact U;(first|with_reducible assumption|decide +kernel|(solve|simp only[bn]));exact U;exact U)|(apply Zd;exact U;(first|with_reducible assumption|decide +kernel|(solve|simp only[bn])))|(apply Zf;exact U;(first|with_reducible assumption|decide +kernel|(solve|simp only[bn])))|refine Zm Za U U U U ?_|(apply Zq 25 ZE;decide +kernel;kernel_rfl;kernel_rfl;kernel_rfl;exact U;exact U)|(apply Zt;(iterate 4 exact U))|exact AE.nil _ _ _ _|(apply Zx;exact U)|(apply Zz;exact U;exact U;decide +kernel;exact U)|(apply ZA;exact U)|exact AO.nil _ _ _|(apply Zs;(decide +kernel))|exact AOs.nil|exact ZF rfl rfl|(apply Zr Za;(iterate 6 exact U);(first|exact Qt|rotate_left);(first|with_reducible assumption|decide +kernel|exact U);(first|exact Zk rfl|with_reducible assumption|decide +kernel|rotate_left))|refine Wi Za U U U U U U U U U ?_)
   all_goals exact Qe
  ·have hv:=YV hw
   rw[show((at0.toNat:Nat):Int)=at0 from by omega]at hv
   have ta:decide (at0 ≥ 0)=true:=decide_eq_true ha
   have tb:(!(true==decide (at0 ≥ 0)))=false:=by rw[ta];rfl
   refine AP.ofA (Zl Tryz.func6 U Tryz.ntmps6 U U ?_)
   repeat'(first|rw[en]|(apply Zb (hA);kernel_rfl;(iterate 4 exact U))|(apply Zb (hG);kernel_rfl;(iterate 4 exact U))|(apply Zb (hH);kernel_rfl;(iterate 4 exact U))|(apply Zb (hS);kernel_rfl;(iterate 4 exact U))|(apply Zb (hT);kernel_rfl;(iterate 4 exact U))|(apply Zb (hD);kernel_rfl;(iterate 4 exact U))|(apply Zb (hW);kernel_rfl;(iterate 4 exact U))|(apply Zb (hF);kernel_rfl;(iterate 4 exact U))|(apply Zb (hN);kernel_rfl;(iterate 4 exact U))|(apply Zb (h7);kernel_rfl;(iterate 4 exact U))|(apply Zb (hM);kernel_rfl;(iterate 4 exact U))|(apply Zb (hP);kernel_rfl;(iterate 4 exact U))|(apply Zb (hB);kernel_rfl;(iterate 4 exact U))|(apply Zb (hC);kernel_rfl;(iterate 4 exact U))|(apply Zb (hR);kernel_rfl;(iterate 4 exact U))|(apply Zh Za;exact U)|(apply Zg Za;exact U)|(apply Zo Za;exact U)|(apply Ze;(iterate 3 exact U);(first|with_reducible assumption|decide +kernel|(solve|simp only[bn])))|(apply Zn;(iterate 3 exact U);(first|with_reducible assumption|decide +kernel|(solve|simp only[bn])))|(apply Zj;exact U;(first|with_reducible assumption|decide +kernel|(solve|simp only[bn]));exact U;exact U)|(apply Zi;exact U;(first|with_reducible assumption|decide +kernel|(solve|simp only[bn]));exact U;exact U)|(apply Zd;exact U;(first|with_reducible assumption|decide +kernel|(solve|simp only[bn])))|(apply Zf;exact U;(first|with_reducible assumption|decide +kernel|(solve|simp only[bn])))|refine Zm Za U U U U ?_|(apply Zq 25 ZE;decide +kernel;kernel_rfl;kernel_rfl;kernel_rfl;exact U;exact U)|(apply Zt;(iterate 4 exact U))|exact AE.nil _ _ _ _|(apply Zx;exact U)|(apply Zz;exact U;exact U;decide +kernel;exact U)|(apply ZA;exact U)|exact AO.nil _ _ _|(apply Zs;(decide +kernel))|exact AOs.nil|exact ZF rfl rfl|(apply Zr Za;(iterate 6 exact U);(first|exact Qt|rotate_left);(first|with_reducible assumption|decide +kernel|exact U);(first|exact Zk rfl|with_reducible assumption|decide +kernel|rotate_left))|refine Wi Za U U U U U U U U U ?_)
   all_goals exact Qe
  ·refine AP.ofA ?_
   refine Zl Tryz.func6 rfl Tryz.ntmps6 rfl rfl ?_
   repeat'(first|rw[en]|(apply Zb (hA);kernel_rfl;(iterate 4 exact U))|(apply Zb (hG);kernel_rfl;(iterate 4 exact U))|(apply Zb (hH);kernel_rfl;(iterate 4 exact U))|(apply Zb (hS);kernel_rfl;(iterate 4 exact U))|(apply Zb (hT);kernel_rfl;(iterate 4 exact U))|(apply Zb (hD);kernel_rfl;(iterate 4 exact U))|(apply Zb (hW);kernel_rfl;(iterate 4 exact U))|(apply Zb (hF);kernel_rfl;(iterate 4 exact U))|(apply Zb (hN);kernel_rfl;(iterate 4 exact U))|(apply Zb (h7);kernel_rfl;(iterate 4 exact U))|(apply Zb (hM);kernel_rfl;(iterate 4 exact U))|(apply Zb (hP);kernel_rfl;(iterate 4 exact U))|(apply Zb (hB);kernel_rfl;(iterate 4 exact U))|(apply Zb (hC);kernel_rfl;(iterate 4 exact U))|(apply Zb (hR);kernel_rfl;(iterate 4 exact U))|(apply Zh Za;exact U)|(apply Zg Za;exact U)|(apply Zo Za;exact U)|(apply Ze;(iterate 3 exact U);(first|with_reducible assumption|decide +kernel|(solve|simp only[bn])))|(apply Zj;exact U;(first|with_reducible assumption|decide +kernel|(solve|simp only[bn]));exact U;exact U)|(apply Zi;exact U;(first|with_reducible assumption|decide +kernel|(solve|simp only[bn]));exact U;exact U)|(apply Zd;exact U;(first|with_reducible assumption|decide +kernel|(solve|simp only[bn])))|(apply Zf;exact U;(first|with_reducible assumption|decide +kernel|(solve|simp only[bn])))|refine Zm Za U U U U ?_|(apply Zq 25 ZE;decide +kernel;kernel_rfl;kernel_rfl;kernel_rfl;exact U;exact U)|(apply Zt;(iterate 4 exact U))|exact AE.nil _ _ _ _|(apply Zx;exact U)|(apply Zz;exact U;exact U;decide +kernel;exact U)|(apply ZA;exact U)|exact AO.nil _ _ _|(apply Zs;(decide +kernel))|exact AOs.nil|exact ZF rfl rfl|(apply Zr Za;(iterate 6 exact U);(first|exact Qt|rotate_left);(first|with_reducible assumption|decide +kernel|exact U);(first|exact Zk rfl|with_reducible assumption|decide +kernel|rotate_left))|refine Wi Za U U U U U U U U U ?_)
   all_goals exact Qe
  ·have hv:=YV hw
   rw[show((at0.toNat:Nat):Int)=at0 from by omega]at hv
   have ta:decide (at0 ≥ 0)=true:=decide_eq_true ha
   have tb:(!(true==decide (at0 ≥ 0)))=false:=by rw[ta];rfl
   refine AP.ofA (Zl Tryz.func6 U Tryz.ntmps6 U U ?_)
   repeat'(first|rw[en]|(apply Zb (hA);kernel_rfl;(iterate 4 exact U))|(apply Zb (hG);kernel_rfl;(iterate 4 exact U))|(apply Zb (hH);kernel_rfl;(iterate 4 exact U))|(apply Zb (hS);kernel_rfl;(iterate 4 exact U))|(apply Zb (hT);kernel_rfl;(iterate 4 exact U))|(apply Zb (hD);kernel_rfl;(iterate 4 exact U))|(apply Zb (hW);kernel_rfl;(iterate 4 exact U))|(apply Zb (hF);kernel_rfl;(iterate 4 exact U))|(apply Zb (hN);kernel_rfl;(iterate 4 exact U))|(apply Zb (h7);kernel_rfl;(iterate 4 exact U))|(apply Zb (hM);kernel_rfl;(iterate 4 exact U))|(apply Zb (hP);kernel_rfl;(iterate 4 exact U))|(apply Zb (hB);kernel_rfl;(iterate 4 exact U))|(apply Zb (hC);kernel_rfl;(iterate 4 exact U))|(apply Zb (hR);kernel_rfl;(iterate 4 exact U))|(apply Zh Za;exact U)|(apply Zg Za;exact U)|(apply Zo Za;exact U)|(apply Ze;(iterate 3 exact U);(first|with_reducible assumption|decide +kernel|(solve|simp only[bn])))|(apply Zj;exact U;(first|with_reducible assumption|decide +kernel|(solve|simp only[bn]));exact U;exact U)|(apply Zi;exact U;(first|with_reducible assumption|decide +kernel|(solve|simp only[bn]));exact U;exact U)|(apply Zd;exact U;(first|with_reducible assumption|decide +kernel|(solve|simp only[bn])))|(apply Zf;exact U;(first|with_reducible assumption|decide +kernel|(solve|simp only[bn])))|refine Zm Za U U U U ?_|(apply Zq 25 ZE;decide +kernel;kernel_rfl;kernel_rfl;kernel_rfl;exact U;exact U)|(apply Zt;(iterate 4 exact U))|exact AE.nil _ _ _ _|(apply Zx;exact U)|(apply Zz;exact U;exact U;decide +kernel;exact U)|(apply ZA;exact U)|exact AO.nil _ _ _|(apply Zs;(decide +kernel))|exact AOs.nil|exact ZF rfl rfl|(apply Zr Za;(iterate 6 exact U);(first|exact Qt|rotate_left);(first|with_reducible assumption|decide +kernel|exact U);(first|exact Zk rfl|with_reducible assumption|decide +kernel|rotate_left))|refine Wi Za U U U U U U U U U ?_)
   all_goals exact Qe
theorem FE [Known](fl sm t q life:Nat)(sum:Int)(di:Bool)(dn ds:Nat)(dh dd:List UInt8)(ri:Bool)(rn rs:Nat)(rh rd:List UInt8)(xi:Bool)(xn xs:Nat)(xh xd:List UInt8)(ak:Int)(an:Nat)(ab:List UInt8)(al:List It)(bk:Int)(bn:Nat)(bb:List UInt8)(bl:List It)(ck:Int)(cn:Nat)(cb:List UInt8)(cl:List It)(sk:Int)(sn:Nat)(sb:List UInt8)(sl:List It)(ok:Bool)(e2:IntKind.u64.wrap sum=(sm:Int))
  (hL:AP Tryz.prog 122 [.sl .ext [nmE t,nmE q]] (.agg [.int .i64 4,.int .u64 0,.sl .ext [],.sl .ext [nmE t,nmE q]]) [])
  (hD:AP Tryz.prog 90 [.agg [.bool di,.int .u64 (dn:Int),.int .u64 (ds:Int),.str dh,.str dd]] (.agg (itC ak an ab al)) [])
  (hX:AP Tryz.prog 90 [.agg [.bool xi,.int .u64 (xn:Int),.int .u64 (xs:Int),.str xh,.str xd]] (.agg (itC ck cn cb cl)) [])
  (hR:AP Tryz.prog 90 [.agg [.bool ri,.int .u64 (rn:Int),.int .u64 (rs:Int),.str rh,.str rd]] (.agg (itC bk bn bb bl)) [])
  (hS:AP Tryz.prog 123 [.sl .ext [nmE 7,nmE fl,nmE sm,.agg [.int .i64 ak,.int .u64 (an:Int),.sl (ab.map E.byte),.sl (Zv al)],.agg [.int .i64 ck,.int .u64 (cn:Int),.sl (cb.map E.byte),.sl (Zv cl)],.agg [.int .i64 bk,.int .u64 (bn:Int),.sl (bb.map E.byte),.sl (Zv bl)],.agg [.int .i64 4,.int .u64 0,.sl [],.sl [nmE t,nmE q]],nmE life],.int .i64 sum] (.tup [.agg (itC sk sn sb sl),.bool ok]) []) :
  AP Tryz.prog 79 [.agg [.int .u64 (fl:Int),.int .i64 sum,.bool di,.int .u64 (dn:Int),.int .u64 (ds:Int),.str dh,.str dd,.bool ri,.int .u64 (rn:Int),.int .u64 (rs:Int),.str rh,.str rd,.bool xi,.int .u64 (xn:Int),.int .u64 (xs:Int),.str xh,.str xd,.int .u64 (t:Int),.int .u64 (q:Int),.int .u64 (life:Int)]] (.agg (itC sk sn sb sl)) []:=by
 refine AP.ofA (Zl Tryz.func79 U Tryz.ntmps79 U U ?_)
 repeat'(first|(apply Zb (hL);kernel_rfl;(iterate 4 exact U))|rw[e2]|(apply Zb (hD);kernel_rfl;(iterate 4 exact U))|(apply Zb (hX);kernel_rfl;(iterate 4 exact U))|(apply Zb (hR);kernel_rfl;(iterate 4 exact U))|(apply Zb (hS);kernel_rfl;(iterate 4 exact U))|(apply Zh Za;exact U)|(apply Zg Za;exact U)|refine ZO Za U U U U U U U U U U U U ?_|(apply Zq 22 ZE;decide +kernel;kernel_rfl;kernel_rfl;kernel_rfl;exact U;exact U)|(apply Zt;(iterate 4 exact U))|exact AE.nil _ _ _ _|(apply Zx;exact U)|(apply Zz;exact U;exact U;decide +kernel;exact U)|(apply ZA;exact U)|exact AO.nil _ _ _|(apply Zs;(decide +kernel))|exact AOs.nil|exact ZF rfl rfl)
 all_goals exact Qe
theorem Tx [Known][KnownU8](p:PriV)(h:Yq p=true)(hfl:p.fl<18446744073709551616):AP Tryz.prog 79 [.agg (prC p)] (itD (W4 p)) []:=by
 obtain⟨h1,h2,h3,h4,h5,h6⟩:=W1 h
 obtain⟨i1,_,_⟩:=WA.1 h5
 have hS:=KS (YA p) p.sum.toNat (by omega) (LN h hfl) (by rw[Ib];omega) (by have:=(XV h).1;omega) (BK h p.sum.toNat (by omega))
 have e1:((p.sum.toNat:Nat):Int)=p.sum:=by omega
 have e2:IntKind.u64.wrap p.sum=((p.sum.toNat:Nat):Int):=by rw[IntKind.wrap_u64];omega
 rw[e1]at hS
 have hD:=WV p.dest h3
 have hR:=WV p.rep h4
 have hX:=WV p.src i1
 have hL:=Xw [nmE p.t,nmE p.q]
 unfold W4
 generalize Y7 (YA p) p.sum.toNat=S at *
 unfold YA at hS
 obtain⟨fl,sum,d,r,x,t,q,life⟩:=p
 dsimp only at *
 generalize Z5 d=I1 at *
 generalize Z5 r=I2 at *
 generalize Z5 x=I3 at *
 obtain⟨di,dn,ds,dh,dd⟩:=d
 obtain⟨ri,rn,rs,rh,rd⟩:=r
 obtain⟨xi,xn,xs,xh,xd⟩:=x
 obtain⟨ak,an,ab,al⟩:=I1
 obtain⟨bk,bn,bb,bl⟩:=I2
 obtain⟨ck,cn,cb,cl⟩:=I3
 obtain⟨⟨k,n,b,l⟩,ok⟩:=S
 exact FE fl sum.toNat t q life sum di dn ds dh dd ri rn rs rh rd xi xn xs xh xd ak an ab al bk bn bb bl ck cn cb cl k n b l ok e2 hL hD hX hR hS
def Z9 (r b:Nat):Nat:=if r ≥ b then r-b else r
def X2 (fl:Nat):Nat:=Z9 (Z9 (Z9 (Z9 (Z9 (Z9 fl 262144) 131072) 16384) 32) 4) 2
theorem My:∀ a,a<128->∀ c,c<128->((Z9 (Z9 (Z9 (a*128+c) 32) 4) 2==0)=(((a*128+c) &&& 18446744073709141977)==0)):=by decide +kernel
theorem Rn (x:Nat)(h:x<16384):((Z9 (Z9 (Z9 x 32) 4) 2==0)=((x &&& 18446744073709141977)==0)):=by
 have e:x=x/128*128+x % 128:=by omega
 have:=My (x/128) (by omega) (x % 128) (by omega)
 rw[<- e]at this
 exact this
theorem Ro:∀ x,x<32->((Z9 (Z9 (Z9 x 16) 8) 1==0)=((x &&& (18446744073709141977/16384))==0)):=by decide +kernel
theorem Mz (M h l b:Nat)(hl:l<M):Z9 (h*M+l) (b*M)=Z9 h b*M+l:=by
 unfold Z9
 by_cases hb:h ≥ b
 ·have h1:b*M<=h*M:=Nat.mul_le_mul_right M hb
  have h2:h*M+l ≥ b*M:=by omega
  rw[if_pos hb,if_pos h2,Nat.sub_mul]
  omega
 ·have h1:(h+1)*M<=b*M:=Nat.mul_le_mul_right M (by omega)
  rw[Nat.add_mul,Nat.one_mul]at h1
  have h2:¬ h*M+l ≥ b*M:=by omega
  rw[if_neg hb,if_neg h2]
theorem K6 (h l b:Nat)(hl:l<16384):Z9 (h*16384+l) (b*16384)=Z9 h b*16384+l:=Mz 16384 h l b hl
theorem UW (z b:Nat):z-b<=Z9 z b:=by
 unfold Z9
 split<;>omega
theorem Nt {y:Nat}(h:16384<=y):(Z9 (Z9 (Z9 y 32) 4) 2==0)=false:=by
 have h1:=UW y 32
 generalize Z9 y 32=a at *
 have h2:=UW a 4
 generalize Z9 a 4=c at *
 have h3:=UW c 2
 generalize Z9 c 2=d at *
 rw[beq_eq_false_iff_ne]
 omega
theorem Rp {y:Nat}(h:32<=y):1<=Z9 (Z9 (Z9 y 16) 8) 1:=by
 have h1:=UW y 16
 generalize Z9 y 16=a at *
 have h2:=UW a 8
 generalize Z9 a 8=c at *
 have h3:=UW c 1
 generalize Z9 c 1=d at *
 omega
theorem Ty (fl:Nat)(h:fl<18446744073709551616):(bits .andNot .u64 (fl:Int) 409638==0)=(X2 fl==0):=by
 rw[show(409638:Int)=((409638:Nat):Int) from rfl,u64_andNot_nat fl 409638 h (by omega)]
 rw[show(18446744073709551615-409638:Nat)=18446744073709141977 from rfl]
 have hs:fl=fl/16384*16384+fl % 16384:=by omega
 have hlo:=Rn (fl % 16384) (Nat.mod_lt _ (by omega))
 have e:∀ x:Nat,((((fl &&& 18446744073709141977:Nat)):Int)==0)=((fl &&& 18446744073709141977)==0):=fun _=>by
  rw[Bool.eq_iff_iff,beq_iff_eq,beq_iff_eq];omega
 rw[e 0]
 have hd:(fl &&& 18446744073709141977)/16384=(fl/16384) &&& (18446744073709141977/16384):=by
  rw[show(16384:Nat)=2 ^ 14 from rfl,<- Nat.shiftRight_eq_div_pow,<- Nat.shiftRight_eq_div_pow,<- Nat.shiftRight_eq_div_pow,Nat.shiftRight_and_distrib]
 have hm:(fl &&& 18446744073709141977) % 16384=(fl % 16384 &&& 18446744073709141977) % 16384:=by
  rw[show(16384:Nat)=2 ^ 14 from rfl,<- Nat.and_two_pow_sub_one_eq_mod,<- Nat.and_two_pow_sub_one_eq_mod,<- Nat.and_two_pow_sub_one_eq_mod]
  apply Nat.eq_of_testBit_eq
  intro i
  simp only[Nat.testBit_and]
  cases fl.testBit i<;>cases(18446744073709141977:Nat).testBit i<;>cases((2 ^ 14-1:Nat)).testBit i<;>rfl
 have hl2:(fl % 16384 &&& 18446744073709141977)<16384:=Nat.lt_of_le_of_lt Nat.and_le_left (Nat.mod_lt _ (by omega))
 rw[Nat.mod_eq_of_lt hl2]at hm
 have hr:X2 fl=Z9 (Z9 (Z9 (Z9 (Z9 (Z9 (fl/16384) 16) 8) 1*16384+fl % 16384) 32) 4) 2:=by
  unfold X2
  have hlt:=Nat.mod_lt fl (show 16384>0 by omega)
  conv=>lhs;rw[hs]
  rw[show(262144:Nat)=16*16384 from rfl,K6 _ _ _ hlt,show(131072:Nat)=8*16384 from rfl,K6 _ _ _ hlt]
  have:=K6 (Z9 (Z9 (fl/16384) 16) 8) (fl % 16384) 1 hlt
  rw[Nat.one_mul]at this
  rw[this]
 rw[hr]
 by_cases h32:fl/16384<32
 ·have hhi:=Ro _ h32
  cases hh:(Z9 (Z9 (Z9 (fl/16384) 16) 8) 1==0) with
  | true=>
   rw[hh]at hhi
   have h0:Z9 (Z9 (Z9 (fl/16384) 16) 8) 1=0:=by simpa using hh
   have h1:(fl/16384) &&& (18446744073709141977/16384)=0:=by simpa using hhi.symm
   rw[h0,Nat.zero_mul,Nat.zero_add,hlo]
   rw[h1]at hd
   rw[Bool.eq_iff_iff,beq_iff_eq,beq_iff_eq]
   omega
  | false=>
   rw[hh]at hhi
   have h0:Z9 (Z9 (Z9 (fl/16384) 16) 8) 1 ≠ 0:=by simpa using hh
   have h1:(fl/16384) &&& (18446744073709141977/16384) ≠ 0:=by simpa using hhi.symm
   have e1:((fl &&& 18446744073709141977)==0)=false:=by
    rw[beq_eq_false_iff_ne]
    intro h2
    rw[h2]at hd
    exact h1 (by omega)
   rw[e1]
   symm
   exact Nt (by omega)
 ·have h1:(fl/16384) &&& (18446744073709141977/16384) ≠ 0:=fun h2=>by
   have h3:((fl/16384) &&& (18446744073709141977/16384))/32=fl/16384/32:=by
    rw[show(32:Nat)=2 ^ 5 from rfl,<- Nat.shiftRight_eq_div_pow,<- Nat.shiftRight_eq_div_pow,Nat.shiftRight_and_distrib,Nat.shiftRight_eq_div_pow,Nat.shiftRight_eq_div_pow]
    rw[show(18446744073709141977/16384/2 ^ 5:Nat)=2 ^ 45-1 from by decide,Nat.and_two_pow_sub_one_eq_mod,Nat.mod_eq_of_lt (by omega)]
   rw[h2]at h3
   omega
  have e1:((fl &&& 18446744073709141977)==0)=false:=by
   rw[beq_eq_false_iff_ne]
   intro h2
   rw[h2]at hd
   exact h1 (by omega)
  rw[e1]
  symm
  have h4:=Rp (y:=fl/16384) (by omega)
  exact Nt (by omega)
theorem Tz [Known](x:EidV)(t q:Nat)(hx:Fit x):AP Tryz.prog 74 [.agg (iC x t q)] (.bool (Wz x t q)) []:=by
 have hK:=W5 x hx
 have hg:=Ja x
 unfold Wz
 rw[<- hg]
 generalize YX x=κ at *
 clear hg hx
 obtain⟨xi,xn,xs,xh,xd⟩:=x
 cases t1:decide (κ ≥ 0)<;>cases t2:decide ((t:Int)<=1099511627776)<;>cases t3:decide ((q:Int)<=1099511627776)
 all_goals
  refine AP.ofA (Zl Tryz.func74 U Tryz.ntmps74 U U ?_)
  repeat'(first|(apply Zb (hK);kernel_rfl;(iterate 4 exact U))|(apply Zh Za;exact U)|(apply Zg Za;exact U)|refine Ze U U U Qt ?_|refine Zu U U U Qt ?_|refine Zj U Qt U U ?_|refine Zi U Qt U U ?_)
  all_goals(apply Zp [];(apply Zc Za;exact U);(iterate 4 exact U))
  all_goals first|rfl|(rw[t3];rfl)
def Il:List Nat:=[262144,131072,16384,32,4,2]
def K7:List E:=Il.map (fun(n:Nat)=>E.int .u64 (n:Int))
def rsN (fl:Nat):Nat->Nat
 | 0=>fl
 | i+1=>Z9 (rsN fl i) (Il.getD i 0)
theorem BU (fl:Nat):rsN fl 6=X2 fl:=rfl
theorem S4 (fl:Nat):∀ i,rsN fl i<=fl
 | 0=>Nat.le_refl _
 | i+1=>by
  have:=S4 fl i
  show Z9 (rsN fl i) _<=fl
  unfold Z9
  split<;>omega
theorem SL {i:Nat}(h:i<6):K7[((i:Nat):Int).toNat]?=some (.int .u64 ((Il.getD i 0:Nat):Int)):=by
 have:i=0\/i=1\/i=2\/i=3\/i=4\/i=5:=by omega
 rcases this with rfl|rfl|rfl|rfl|rfl|rfl<;>rfl
theorem TA (p:PriV)(hfl:p.fl<18446744073709551616):Yq p=((X2 p.fl==0)&&(decide (p.sum ≥ 0)&&(decide (p.sum<3)&&(decide (YX p.dest ≥ 0)&&(decide (YX p.rep ≥ 0)&&(Wz p.src p.t p.q&&decide ((p.life:Int)<=1099511627776))))))):=by
 unfold Yq
 rw[Ty _ hfl,Ja,Ja]
 rw[show decide (p.sum<=2)=decide (p.sum<3) from by rw[decide_eq_decide];omega]
theorem TB [Known](p:PriV)(hfl:p.fl<18446744073709551616)(hd:Fit p.dest)(hr:Fit p.rep)(hs:Fit p.src):AP Tryz.prog 78 [.agg (prC p)] (.bool (Yq p)) []:=by
 rw[TA p hfl]
 have hD:=W5 p.dest hd
 have hR:=W5 p.rep hr
 have hI:=Tz p.src p.t p.q hs
 generalize YX p.dest=κ1 at *
 generalize YX p.rep=κ2 at *
 generalize Wz p.src p.t p.q=e3 at *
 clear hd hr hs
 obtain⟨fl,sum,⟨di,dn,ds,dh,dd⟩,⟨ri,rn,rs,rh,rd⟩,⟨xi,xn,xs,xh,xd⟩,t,q,life⟩:=p
 dsimp only at *
 refine AP.ofA (Zl Tryz.func78 U Tryz.ntmps78 U U ?_)
 repeat'(first|(apply Zh Za;exact U)|(apply Zg Za;exact U)|refine ZO Za U U U U U U U U U U U U ?_)
 refine ZI (fun f tm bx fr=>∃(i:Nat),f+i=6/\tm=[(1,.ptr 0 0),(3,.int .u64 (rsN fl i:Int)),(4,.sl .ext K7),(5,.int .i64 (i:Int))]/\bx=[[.int .u64 (fl:Int),.int .i64 sum,.bool di,.int .u64 (dn:Int),.int .u64 (ds:Int),.str dh,.str dd,.bool ri,.int .u64 (rn:Int),.int .u64 (rs:Int),.str rh,.str rd,.bool xi,.int .u64 (xn:Int),.int .u64 (xs:Int),.str xh,.str xd,.int .u64 (t:Int),.int .u64 (q:Int),.int .u64 (life:Int)]]/\fr=[]) 7 (Lands.mk' (m:=6) (Nat.lt_succ_self _) ⟨0,by omega,rfl,rfl,rfl⟩ ?_ rfl rfl rfl rfl rfl rfl) ?_
 ·exact .cons rfl (.cons rfl (.wk rfl (.cons rfl .nil)))
 rintro f tm bx fr ⟨i,hf,rfl,rfl,rfl⟩
 rcases Nat.lt_or_ge i 6 with hlt|hge
 ·have hdl:decide ((i:Int)<((K7.length:Nat):Int))=true:=decide_eq_true (by show(i:Int)<6;omega)
  have hv:=SL hlt
  have hU:Uni 1 K7:=Uni.map (f:=fun(n:Nat)=>E.int .u64 (n:Int)) (fun _=>rfl) Il
  have ei:IntKind.i64.wrap ((i:Int)+1)=((i+1:Nat):Int):=by rw[IntWalk.i64_in _ (by omega)];omega
  have hle:=S4 fl i
  have hn:rsN fl (i+1)=Z9 (rsN fl i) (Il.getD i 0):=rfl
  have hi0:(0:Int)<=(i:Int):=by omega
  generalize K7=L at *
  generalize rsN fl i=r at *
  generalize Il.getD i 0=b at *
  cases hc:decide ((r:Int) ≥ (b:Int)) with
  | true=>
   have hrb:=of_decide_eq_true hc
   have hM:IntKind.u64.wrap ((r:Int)-(b:Int))=((r-b:Nat):Int):=by rw[IntKind.wrap_u64];omega
   have e:rsN fl (i+1)=r-b:=by rw[hn];unfold Z9;rw[if_pos (by omega)]
   repeat'(first|rw[ei]|rw[hM]|(apply Zh Za;exact U)|(apply Zg Za;exact U)|(apply Zo Za;exact U)|refine Zd U Qt ?_|refine Zm Za U U U U ?_|(apply Zr Za;(iterate 6 exact U);(first|exact Qt|rotate_left);(first|with_reducible assumption|decide +kernel|exact U);(first|exact Zk rfl|with_reducible assumption|decide +kernel|rotate_left)))
   refine Lands.mk' (m:=f-1) (by omega) ⟨i+1,by omega,by rw[e],rfl,rfl⟩ ?_ rfl rfl rfl rfl rfl rfl
   exact .cons rfl (.cons rfl (.cons rfl (.cons rfl .nil)))
  | false=>
   have hrb:=of_decide_eq_false hc
   have e:rsN fl (i+1)=r:=by rw[hn];unfold Z9;rw[if_neg (by omega)]
   repeat'(first|rw[ei]|(apply Zh Za;exact U)|(apply Zg Za;exact U)|(apply Zo Za;exact U)|refine Zd U Qt ?_|refine Zf U Qt ?_|refine Zm Za U U U U ?_|(apply Zr Za;(iterate 6 exact U);(first|exact Qt|rotate_left);(first|with_reducible assumption|decide +kernel|exact U);(first|exact Zk rfl|with_reducible assumption|decide +kernel|rotate_left)))
   refine Lands.mk' (m:=f-1) (by omega) ⟨i+1,by omega,by rw[e],rfl,rfl⟩ ?_ rfl rfl rfl rfl rfl rfl
   exact .cons rfl (.cons rfl (.cons rfl (.cons rfl .nil)))
 ·obtain rfl:i=6:=by omega
  have hdl:decide (((6:Nat):Int)<((K7.length:Nat):Int))=false:=rfl
  rw[BU]
  have hz:(((X2 fl:Nat):Int)==0)=(X2 fl==0):=by rw[Bool.eq_iff_iff,beq_iff_eq,beq_iff_eq];omega
  rw[<- hz]
  generalize X2 fl=r at *
  generalize K7=L at *
  cases t1:((r:Int)==0) with
  | false=>
   repeat'(first|(apply Zh Za;exact U)|(apply Zg Za;exact U)|(apply Zo Za;exact U)|refine Zu U U U Qt ?_|refine Zi U Qt U U ?_|refine Zf U Qt ?_|refine Zm Za U U U U ?_)
   all_goals exact Qe
  | true=>
  cases t2:decide (sum ≥ 0) with
  | false=>
   repeat'(first|(apply Zh Za;exact U)|(apply Zg Za;exact U)|(apply Zo Za;exact U)|refine Ze U U U Qt ?_|refine Zu U U U Qt ?_|refine Zj U Qt U U ?_|refine Zi U Qt U U ?_|refine Zf U Qt ?_|refine Zm Za U U U U ?_)
   all_goals exact Qe
  | true=>
  cases t3:decide (sum<3) with
  | false=>
   repeat'(first|(apply Zh Za;exact U)|(apply Zg Za;exact U)|(apply Zo Za;exact U)|refine Ze U U U Qt ?_|refine Zu U U U Qt ?_|refine Zj U Qt U U ?_|refine Zi U Qt U U ?_|refine Zf U Qt ?_|refine Zm Za U U U U ?_)
   all_goals exact Qe
  | true=>
  cases t4:decide (κ1 ≥ 0) with
  | false=>
   repeat'(first|(apply Zb (hD);kernel_rfl;(iterate 4 exact U))|(apply Zh Za;exact U)|(apply Zg Za;exact U)|(apply Zo Za;exact U)|refine Ze U U U Qt ?_|refine Zu U U U Qt ?_|refine Zj U Qt U U ?_|refine Zi U Qt U U ?_|refine Zf U Qt ?_|refine Zm Za U U U U ?_)
   all_goals exact Qe
  | true=>
  cases t5:decide (κ2 ≥ 0) with
  | false=>
   repeat'(first|(apply Zb (hD);kernel_rfl;(iterate 4 exact U))|(apply Zb (hR);kernel_rfl;(iterate 4 exact U))|(apply Zh Za;exact U)|(apply Zg Za;exact U)|(apply Zo Za;exact U)|refine Ze U U U Qt ?_|refine Zu U U U Qt ?_|refine Zj U Qt U U ?_|refine Zi U Qt U U ?_|refine Zf U Qt ?_|refine Zm Za U U U U ?_)
   all_goals exact Qe
  | true=>
  cases e3
  ·repeat'(first|(apply Zb (hD);kernel_rfl;(iterate 4 exact U))|(apply Zb (hR);kernel_rfl;(iterate 4 exact U))|(apply Zb (hI);kernel_rfl;(iterate 4 exact U))|(apply Zh Za;exact U)|(apply Zg Za;exact U)|(apply Zo Za;exact U)|refine Ze U U U Qt ?_|refine Zu U U U Qt ?_|refine Zj U Qt U U ?_|refine Zi U Qt U U ?_|refine Zf U Qt ?_|refine Zm Za U U U U ?_)
   all_goals exact Qe
  cases t6:decide ((life:Int)<=1099511627776)
  all_goals
   repeat'(first|(apply Zb (hD);kernel_rfl;(iterate 4 exact U))|(apply Zb (hR);kernel_rfl;(iterate 4 exact U))|(apply Zb (hI);kernel_rfl;(iterate 4 exact U))|(apply Zh Za;exact U)|(apply Zg Za;exact U)|(apply Zo Za;exact U)|refine Ze U U U Qt ?_|refine Zj U Qt U U ?_|refine Zf U Qt ?_|refine Zm Za U U U U ?_)
   all_goals(apply Zp [];(apply Zc Za;exact U);(iterate 4 exact U))
   all_goals first|rfl|(rw[t6];rfl)
end Go.Proofs.YtmljabhmajehnaaGreatDoor
end
