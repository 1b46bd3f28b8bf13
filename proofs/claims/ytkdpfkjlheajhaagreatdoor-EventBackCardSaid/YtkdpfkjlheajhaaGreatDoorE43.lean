/- EventBack: the walk, by cases (vegen3.py). -/
import Derived.Test.YtkdpfkjlheajhaaGreatDoorE42
import Derived.Test.YtkdpfkjlheajhaaGreatDoorE09
set_option linter.unusedVariables false
set_option linter.unusedSimpArgs false
section
open Go.RowKit Go.Pl Go.Av
namespace Go.Proofs.YtkdpfkjlheajhaaGreatDoor
set_option maxHeartbeats 4000000
theorem Rp [Known][KnownSc][KnownPow][KnownU8](x:EvV)(b:List UInt8)(cut:Int)(hg:YY x=false)(gb:decide (((b.map E.byte).length:Int)>1500)=false)(hr:ZY x=false)(ho:Vu b=false):AP Tryz.prog 7 [.agg (evC x),byE b,.int .i64 cut] (.bool true) []:=by
 have hA:=Y0
 have hG:=We x
 rw[hg]at hG
 have hbl:b.length<=1500:=by have:=of_decide_eq_false gb;rw[List.length_map]at this;omega
 have hd:x.data.length<=1300:=by
  unfold YY at hg
  rw[Bool.or_eq_false_iff]at hg
  have:=of_decide_eq_false hg.2
  rw[List.length_map]at this
  omega
 have hR:=WT b (by omega) ho
 replace hR:AP Tryz.prog 41 [byE b] (.tup [.agg [.int .u64 0,.int .i64 0,.int .u64 0,.int .i64 0,.int .u64 0,.int .i64 0,.bool false,.int .u64 0,.int .u64 0,.str [],.str [],.bool false,.int .u64 0,.int .u64 0,.str [],.str [],.int .i64 0,.int .i64 0,.int .i64 0,.sl .ext [],.int .u64 0,.int .u64 0,.bool false,.sl .ext []],.int .i64 3]) []:=hR
 have hW:=KY GS (by decide) JT
 replace hW:AP Tryz.prog 40 [.agg [.int .u64 0,.int .i64 0,.int .u64 0,.int .i64 0,.int .u64 0,.int .i64 0,.bool false,.int .u64 0,.int .u64 0,.str [],.str [],.bool false,.int .u64 0,.int .u64 0,.str [],.str [],.int .i64 0,.int .i64 0,.int .i64 0,.sl .ext [],.int .u64 0,.int .u64 0,.bool false,.sl .ext []]] (.tup [.sl .ext [],.int .i64 3]) []:=hW
 have hX:=KY x (by omega) hr
 clear hg hd hr
 obtain⟨now,kd,tok,ses,⟨id,rk,⟨ei,en,es,eh,ed⟩,⟨di,dn,dq,dh,dd⟩,pol,num,tik,pay,life,rt,on⟩,data⟩:=x
 refine AP.ofA (Zl Tryz.func7 Z Tryz.ntmps7 Z Z ?_)
 repeat'(first|(apply Zb (hA);kernel_rfl;(iterate 4 exact Z))|(apply Zb (hG);kernel_rfl;(iterate 4 exact Z))|(apply Zb (hX);kernel_rfl;(iterate 4 exact Z))|(apply Zb (hR);kernel_rfl;(iterate 4 exact Z))|(apply Zb (hW);kernel_rfl;(iterate 4 exact Z))|(apply Zi Za;exact Z)|(apply Zg Za;exact Z)|(apply Zu Za;exact Z)|(apply Ze;(iterate 3 exact Z);(first|with_reducible assumption|decide +kernel|(solve|simp only[bn])))|(apply Zp;(iterate 3 exact Z);(first|with_reducible assumption|decide +kernel|(solve|simp only[bn])))|refine Vm Z Z Z ?_|(apply Zk;exact Z;(first|with_reducible assumption|decide +kernel|(solve|simp only[bn]));exact Z;exact Z)|(apply Zj;exact Z;(first|with_reducible assumption|decide +kernel|(solve|simp only[bn]));exact Z;exact Z)|(apply Zf;exact Z;(first|with_reducible assumption|decide +kernel|(solve|simp only[bn])))|refine Zt Za Z Z Z Z ?_)
 all_goals(apply Zs [];(apply Zc Za;exact Z);(iterate 4 exact Z))
 all_goals first|rfl|(simp only[*];done)|(simp only[*];rfl)
theorem Rq [Known][KnownSc][KnownPow][KnownU8](x y:EvV)(b:List UInt8)(cut:Int)(hg:YY x=false)(gb:decide (((b.map E.byte).length:Int)>1500)=false)(hr:ZY x=false)(hR:AP Tryz.prog 41 [byE b] (.tup [.agg (evC y),.int .i64 0]) [])(hW:AP Tryz.prog 40 [.agg (evC y)] (.tup [byE b,.int .i64 0]) []):AP Tryz.prog 7 [.agg (evC x),byE b,.int .i64 cut] (.bool true) []:=by
 have hA:=Y0
 have hG:=We x
 rw[hg]at hG
 have hbl:b.length<=1500:=by have:=of_decide_eq_false gb;rw[List.length_map]at this;omega
 have hd:x.data.length<=1300:=by
  unfold YY at hg
  rw[Bool.or_eq_false_iff]at hg
  have:=of_decide_eq_false hg.2
  rw[List.length_map]at this
  omega
 have hbb:(b==b)=true:=by simp
 have hX:=KY x (by omega) hr
 clear hg hd hr
 obtain⟨now,kd,tok,ses,⟨id,rk,⟨ei,en,es,eh,ed⟩,⟨di,dn,dq,dh,dd⟩,pol,num,tik,pay,life,rt,on⟩,data⟩:=x
 obtain⟨now2,kd2,tok2,ses2,⟨id2,rk2,⟨ei2,en2,es2,eh2,ed2⟩,⟨di2,dn2,dq2,dh2,dd2⟩,pol2,num2,tik2,pay2,life2,rt2,on2⟩,data2⟩:=y
 refine AP.ofA (Zl Tryz.func7 Z Tryz.ntmps7 Z Z ?_)
 repeat'(first|(apply Zb (hA);kernel_rfl;(iterate 4 exact Z))|(apply Zb (hG);kernel_rfl;(iterate 4 exact Z))|(apply Zb (hX);kernel_rfl;(iterate 4 exact Z))|(apply Zb (hR);kernel_rfl;(iterate 4 exact Z))|(apply Zb (hW);kernel_rfl;(iterate 4 exact Z))|refine Vl Za Z Z Z Z Z Z Z Z Z ?_|(apply Zi Za;exact Z)|(apply Zg Za;exact Z)|(apply Zu Za;exact Z)|(apply Ze;(iterate 3 exact Z);(first|with_reducible assumption|decide +kernel|(solve|simp only[bn])))|(apply Zk;exact Z;(first|with_reducible assumption|decide +kernel|(solve|simp only[bn]));exact Z;exact Z)|(apply Zj;exact Z;(first|with_reducible assumption|decide +kernel|(solve|simp only[bn]));exact Z;exact Z)|(apply Zf;exact Z;(first|with_reducible assumption|decide +kernel|(solve|simp only[bn])))|refine Zt Za Z Z Z Z ?_|refine Vl Za Z Z Z Z Z Z Z Z Z ?_)
 all_goals(apply Zs [];(apply Zc Za;exact Z);(iterate 4 exact Z))
 all_goals first|rfl|(simp only[*];done)|(simp only[*];rfl)
theorem Rr [Known][KnownSc][KnownPow][KnownU8](x:EvV)(b:List UInt8)(cut:Int)(hg:YY x=false)(gb:decide (((b.map E.byte).length:Int)>1500)=false)(hr:ZY x=true)(n:Nat)(hn:n<(ZZ x).length)(hcut:cut=(n:Int))(ho:Vu b=false):AP Tryz.prog 7 [.agg (evC x),byE b,.int .i64 cut] (.bool true) []:=by
 have hA:=Y0
 have hG:=We x
 rw[hg]at hG
 have hbl:b.length<=1500:=by have:=of_decide_eq_false gb;rw[List.length_map]at this;omega
 have hd:x.data.length<=1300:=by
  unfold YY at hg
  rw[Bool.or_eq_false_iff]at hg
  have:=of_decide_eq_false hg.2
  rw[List.length_map]at this
  omega
 have hR:=WT b (by omega) ho
 replace hR:AP Tryz.prog 41 [byE b] (.tup [.agg [.int .u64 0,.int .i64 0,.int .u64 0,.int .i64 0,.int .u64 0,.int .i64 0,.bool false,.int .u64 0,.int .u64 0,.str [],.str [],.bool false,.int .u64 0,.int .u64 0,.str [],.str [],.int .i64 0,.int .i64 0,.int .i64 0,.sl .ext [],.int .u64 0,.int .u64 0,.bool false,.sl .ext []],.int .i64 3]) []:=hR
 have hW:=KY GS (by decide) JT
 replace hW:AP Tryz.prog 40 [.agg [.int .u64 0,.int .i64 0,.int .u64 0,.int .i64 0,.int .u64 0,.int .i64 0,.bool false,.int .u64 0,.int .u64 0,.str [],.str [],.bool false,.int .u64 0,.int .u64 0,.str [],.str [],.int .i64 0,.int .i64 0,.int .i64 0,.sl .ext [],.int .u64 0,.int .u64 0,.bool false,.sl .ext []]] (.tup [.sl .ext [],.int .i64 3]) []:=hW
 have hX:=UZ x (by omega) hr
 have hY:=WF x hr (by omega)
 have hS:=WW x x
 rw[WE]at hS
 have hpl:=Xu hr
 have hZ:=WT ((ZZ x).take n) (by rw[List.length_take];omega) (M0 hr (by omega) hn)
 replace hZ:AP Tryz.prog 41 [byE ((ZZ x).take n)] (.tup [.agg [.int .u64 0,.int .i64 0,.int .u64 0,.int .i64 0,.int .u64 0,.int .i64 0,.bool false,.int .u64 0,.int .u64 0,.str [],.str [],.bool false,.int .u64 0,.int .u64 0,.str [],.str [],.int .i64 0,.int .i64 0,.int .i64 0,.sl .ext [],.int .u64 0,.int .u64 0,.bool false,.sl .ext []],.int .i64 3]) []:=hZ
 obtain⟨hq1,hq2⟩:=M4 (ZZ x) n hn
 have hU:=YH (ZZ x)
 subst hcut
 have t1:decide ((n:Int) ≥ 0)=true:=decide_eq_true (by omega)
 have t2:decide ((n:Int)<(((ZZ x).map E.byte).length:Int))=true:=decide_eq_true (by rw[List.length_map];omega)
 clear hpl hn
 clear hr hd
 generalize ZZ x=c at *
 clear hg
 obtain⟨now,kd,tok,ses,⟨id,rk,⟨ei,en,es,eh,ed⟩,⟨di,dn,dq,dh,dd⟩,pol,num,tik,pay,life,rt,on⟩,data⟩:=x
 refine AP.ofA (Zl Tryz.func7 Z Tryz.ntmps7 Z Z ?_)
 repeat'(first|(apply Zb (hA);kernel_rfl;(iterate 4 exact Z))|(apply Zb (hG);kernel_rfl;(iterate 4 exact Z))|(apply Zb (hX);kernel_rfl;(iterate 4 exact Z))|(apply Zb (hY);kernel_rfl;(iterate 4 exact Z))|(apply Zb (hS);kernel_rfl;(iterate 4 exact Z))|(apply Zb (hZ);kernel_rfl;(iterate 4 exact Z))|refine VZ Za Z Z Z Z Z (.dft _) (.lit _ _ _ _ rfl (Int.natCast_nonneg _)) (Nat.zero_le _) hq1 hU hq2 ?_|(apply Zb (hR);kernel_rfl;(iterate 4 exact Z))|(apply Zb (hW);kernel_rfl;(iterate 4 exact Z))|(apply Zi Za;exact Z)|(apply Zg Za;exact Z)|(apply Zu Za;exact Z)|(apply Ze;(iterate 3 exact Z);(first|with_reducible assumption|decide +kernel|(solve|simp only[bn])))|(apply Zp;(iterate 3 exact Z);(first|with_reducible assumption|decide +kernel|(solve|simp only[bn])))|refine Vm Z Z Z ?_|(apply Zk;exact Z;(first|with_reducible assumption|decide +kernel|(solve|simp only[bn]));exact Z;exact Z)|(apply Zj;exact Z;(first|with_reducible assumption|decide +kernel|(solve|simp only[bn]));exact Z;exact Z)|(apply Zd;exact Z;(first|with_reducible assumption|decide +kernel|(solve|simp only[bn])))|(apply Zf;exact Z;(first|with_reducible assumption|decide +kernel|(solve|simp only[bn])))|refine Zt Za Z Z Z Z ?_)
 all_goals(apply Zs [];(apply Zc Za;exact Z);(iterate 4 exact Z))
 all_goals first|rfl|(simp only[*];done)|(simp only[*];rfl)
theorem Rt [Known][KnownSc][KnownPow][KnownU8](x y:EvV)(b:List UInt8)(cut:Int)(hg:YY x=false)(gb:decide (((b.map E.byte).length:Int)>1500)=false)(hr:ZY x=true)(n:Nat)(hn:n<(ZZ x).length)(hcut:cut=(n:Int))(hR:AP Tryz.prog 41 [byE b] (.tup [.agg (evC y),.int .i64 0]) [])(hW:AP Tryz.prog 40 [.agg (evC y)] (.tup [byE b,.int .i64 0]) []):AP Tryz.prog 7 [.agg (evC x),byE b,.int .i64 cut] (.bool true) []:=by
 have hA:=Y0
 have hG:=We x
 rw[hg]at hG
 have hbl:b.length<=1500:=by have:=of_decide_eq_false gb;rw[List.length_map]at this;omega
 have hd:x.data.length<=1300:=by
  unfold YY at hg
  rw[Bool.or_eq_false_iff]at hg
  have:=of_decide_eq_false hg.2
  rw[List.length_map]at this
  omega
 have hbb:(b==b)=true:=by simp
 have hX:=UZ x (by omega) hr
 have hY:=WF x hr (by omega)
 have hS:=WW x x
 rw[WE]at hS
 have hpl:=Xu hr
 have hZ:=WT ((ZZ x).take n) (by rw[List.length_take];omega) (M0 hr (by omega) hn)
 replace hZ:AP Tryz.prog 41 [byE ((ZZ x).take n)] (.tup [.agg [.int .u64 0,.int .i64 0,.int .u64 0,.int .i64 0,.int .u64 0,.int .i64 0,.bool false,.int .u64 0,.int .u64 0,.str [],.str [],.bool false,.int .u64 0,.int .u64 0,.str [],.str [],.int .i64 0,.int .i64 0,.int .i64 0,.sl .ext [],.int .u64 0,.int .u64 0,.bool false,.sl .ext []],.int .i64 3]) []:=hZ
 obtain⟨hq1,hq2⟩:=M4 (ZZ x) n hn
 have hU:=YH (ZZ x)
 subst hcut
 have t1:decide ((n:Int) ≥ 0)=true:=decide_eq_true (by omega)
 have t2:decide ((n:Int)<(((ZZ x).map E.byte).length:Int))=true:=decide_eq_true (by rw[List.length_map];omega)
 clear hpl hn
 clear hr hd
 generalize ZZ x=c at *
 clear hg
 obtain⟨now,kd,tok,ses,⟨id,rk,⟨ei,en,es,eh,ed⟩,⟨di,dn,dq,dh,dd⟩,pol,num,tik,pay,life,rt,on⟩,data⟩:=x
 obtain⟨now2,kd2,tok2,ses2,⟨id2,rk2,⟨ei2,en2,es2,eh2,ed2⟩,⟨di2,dn2,dq2,dh2,dd2⟩,pol2,num2,tik2,pay2,life2,rt2,on2⟩,data2⟩:=y
 refine AP.ofA (Zl Tryz.func7 Z Tryz.ntmps7 Z Z ?_)
 repeat'(first|(apply Zb (hA);kernel_rfl;(iterate 4 exact Z))|(apply Zb (hG);kernel_rfl;(iterate 4 exact Z))|(apply Zb (hX);kernel_rfl;(iterate 4 exact Z))|(apply Zb (hY);kernel_rfl;(iterate 4 exact Z))|(apply Zb (hS);kernel_rfl;(iterate 4 exact Z))|(apply Zb (hZ);kernel_rfl;(iterate 4 exact Z))|refine VZ Za Z Z Z Z Z (.dft _) (.lit _ _ _ _ rfl (Int.natCast_nonneg _)) (Nat.zero_le _) hq1 hU hq2 ?_|(apply Zb (hR);kernel_rfl;(iterate 4 exact Z))|(apply Zb (hW);kernel_rfl;(iterate 4 exact Z))|refine Vl Za Z Z Z Z Z Z Z Z Z ?_|(apply Zi Za;exact Z)|(apply Zg Za;exact Z)|(apply Zu Za;exact Z)|(apply Ze;(iterate 3 exact Z);(first|with_reducible assumption|decide +kernel|(solve|simp only[bn])))|(apply Zk;exact Z;(first|with_reducible assumption|decide +kernel|(solve|simp only[bn]));exact Z;exact Z)|(apply Zj;exact Z;(first|with_reducible assumption|decide +kernel|(solve|simp only[bn]));exact Z;exact Z)|(apply Zd;exact Z;(first|with_reducible assumption|decide +kernel|(solve|simp only[bn])))|(apply Zf;exact Z;(first|with_reducible assumption|decide +kernel|(solve|simp only[bn])))|refine Zt Za Z Z Z Z ?_|refine Vl Za Z Z Z Z Z Z Z Z Z ?_)
 all_goals(apply Zs [];(apply Zc Za;exact Z);(iterate 4 exact Z))
 all_goals first|rfl|(simp only[*];done)|(simp only[*];rfl)
end Go.Proofs.YtkdpfkjlheajhaaGreatDoor
end
