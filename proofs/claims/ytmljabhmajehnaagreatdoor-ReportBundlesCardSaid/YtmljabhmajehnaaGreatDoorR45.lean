/- ReportBundles: the walk by cases (rbgen.py). -/
import Derived.Test.YtmljabhmajehnaaGreatDoorR44
import Derived.Test.YtmljabhmajehnaaGreatDoorR43
set_option linter.unusedVariables false
set_option linter.unusedSimpArgs false
section
open Go.RowKit Go.Pl Go.Av
namespace Go.Proofs.YtmljabhmajehnaaGreatDoor
set_option maxHeartbeats 4000000
theorem FR [Known](r:RepV)(dest src:EidV)(t q life:Nat)(b:BunV)(g1 g2 g3 g4:Bool)
  (hA:AP Tryz.prog 19 [] (.bool true) [])
  (hG:AP Tryz.prog 18 [.agg (iC r.of r.t r.q)] (.bool g1) [])
  (hH:AP Tryz.prog 18 [.agg (iC src t q)] (.bool g2) [])
  (hI:AP Tryz.prog 27 [.agg (bnC b)] (.bool g4) [])
  (t3:decide (IntKind.i64.wrap ((dest.h.length:Int)+(dest.d.length:Int))>300)=g3)
  (h:g1=true\/(g1=false/\g2=true)\/(g1=false/\g2=false/\g3=true)\/(g1=false/\g2=false/\g3=false/\g4=true)) :
  AP Tryz.prog 5 [.agg (Y6 r),.agg (eC dest),.agg (iC src t q),.int .u64 (life:Int),.agg (bnC b)] (.bool true) []:=by
 obtain⟨ra,rb,rc,rs,rtm,⟨ji,jn,js,jh,jd⟩,jt,jq⟩:=r
 obtain⟨di,dn,ds,dh,dd⟩:=dest
 obtain⟨xi,xn,xs,xh,xd⟩:=src
 obtain⟨⟨fl,sum,⟨bdi,bdn,bds,bdh,bdd⟩,⟨bri,brn,brs,brh,brd⟩,⟨bxi,bxn,bxs,bxh,bxd⟩,bt,bq,blife⟩,bl⟩:=b
 dsimp only at *
 rcases h with rfl|⟨rfl,rfl⟩ | ⟨rfl,rfl,rfl⟩ | ⟨rfl,rfl,rfl,rfl⟩
 all_goals
  refine AP.ofA (Zl Tryz.func5 U Tryz.ntmps5 U U ?_)
  repeat'(first|(apply Zb (hA);kernel_rfl;(iterate 4 exact U))|(apply Zb (hG);kernel_rfl;(iterate 4 exact U))|(apply Zb (hH);kernel_rfl;(iterate 4 exact U))|(apply Zb (hI);kernel_rfl;(iterate 4 exact U))|(apply Zi Za;exact U)|(apply Zg Za;exact U)|(apply Zp Za;exact U)|(apply Ze;(iterate 3 exact U);(first|with_reducible assumption|decide +kernel|(solve|simp only[bn])))|(apply Zm;(iterate 3 exact U);(first|with_reducible assumption|decide +kernel|(solve|simp only[bn])))|(apply Zj;exact U;(first|with_reducible assumption|decide +kernel|(solve|simp only[bn]));exact U;exact U)|(apply Zh;exact U;(first|with_reducible assumption|decide +kernel|(solve|simp only[bn]));exact U;exact U)|(apply Zd;exact U;(first|with_reducible assumption|decide +kernel|(solve|simp only[bn])))|refine Yb Za U U U U ?_)
  all_goals exact Qe
theorem FS [Known](r:RepV)(dest src:EidV)(t q life:Nat)(b:BunV)(A:BunV)(ok:Bool)(e f:Int)(s:RepV)
  (hA:AP Tryz.prog 19 [] (.bool true) [])
  (hG:AP Tryz.prog 18 [.agg (iC r.of r.t r.q)] (.bool false) [])
  (hH:AP Tryz.prog 18 [.agg (iC src t q)] (.bool false) [])
  (hI:AP Tryz.prog 27 [.agg (bnC b)] (.bool false) [])
  (t3:decide (IntKind.i64.wrap ((dest.h.length:Int)+(dest.d.length:Int))>300)=false)
  (hJ:AP Tryz.prog 28 [.agg (eC dest)] (.agg (eC dest)) [])
  (hK:AP Tryz.prog 29 [.agg (iC src t q)] (.agg (iC src t q)) [])
  (hL:AP Tryz.prog 20 [.agg (Y6 r)] (.agg (Y6 r)) [])
  (hD:AP Tryz.prog 30 [.agg (Y6 r),.agg (pqC dest src t q life)] (.tup [.agg (bnC A),.bool ok]) [])
  (hB:AP Tryz.prog 31 [.agg (Y6 r),.agg (eC dest),.agg (iC src t q),.int .u64 (life:Int)] (.tup [.agg (bnC A),.int .i64 e]) [])
  (hO:AP Tryz.prog 32 [.agg (bnC b)] (.tup [.agg (Y6 s),.int .i64 f]) [])
  (hM:AP Tryz.prog 34 [.agg (bnC A)] (.agg (bnC A)) [])
  (hN:AP Tryz.prog 33 [.agg (bnC A),.agg (bnC A)] (.bool true) [])
  (h:(ok=true/\e=0)\/(ok=false/\e=3)) (tf:((IntKind.u64.wrap ((b.p.fl:Int).tdiv 2)).tmod 2==0)=true) (hs:s=rp0) (hf:f=4) :
  AP Tryz.prog 5 [.agg (Y6 r),.agg (eC dest),.agg (iC src t q),.int .u64 (life:Int),.agg (bnC b)] (.bool true) []:=by
 subst hs
 subst hf
 obtain⟨ra,rb,rc,rs,rtm,⟨ji,jn,js,jh,jd⟩,jt,jq⟩:=r
 obtain⟨di,dn,ds,dh,dd⟩:=dest
 obtain⟨xi,xn,xs,xh,xd⟩:=src
 obtain⟨⟨fl,sum,⟨bdi,bdn,bds,bdh,bdd⟩,⟨bri,brn,brs,brh,brd⟩,⟨bxi,bxn,bxs,bxh,bxd⟩,bt,bq,blife⟩,bl⟩:=b
 obtain⟨⟨afl,asum,⟨adi,adn,ads,adh,add⟩,⟨ari,arn,ars,arh,ard⟩,⟨axi,axn,axs,axh,axd⟩,at',aq,alife⟩,al⟩:=A
 dsimp only[rp0,Yi]at *
 rcases h with⟨rfl,rfl⟩ | ⟨rfl,rfl⟩
 all_goals
  refine AP.ofA (Zl Tryz.func5 U Tryz.ntmps5 U U ?_)
  repeat'(first|(apply Zb (hA);kernel_rfl;(iterate 4 exact U))|(apply Zb (hG);kernel_rfl;(iterate 4 exact U))|(apply Zb (hH);kernel_rfl;(iterate 4 exact U))|(apply Zb (hI);kernel_rfl;(iterate 4 exact U))|(apply Zb (hJ);kernel_rfl;(iterate 4 exact U))|(apply Zb (hK);kernel_rfl;(iterate 4 exact U))|(apply Zb (hL);kernel_rfl;(iterate 4 exact U))|(apply Zb (hD);kernel_rfl;(iterate 4 exact U))|(apply Zb (hB);kernel_rfl;(iterate 4 exact U))|(apply Zb (hO);kernel_rfl;(iterate 4 exact U))|(apply Zb (hM);kernel_rfl;(iterate 4 exact U))|(apply Zb (hN);kernel_rfl;(iterate 4 exact U))|(apply Zi Za;exact U)|(apply Zg Za;exact U)|(apply Zp Za;exact U)|(apply Ze;(iterate 3 exact U);(first|with_reducible assumption|decide +kernel|(solve|simp only[bn])))|(apply Zt;(iterate 3 exact U);(first|with_reducible assumption|decide +kernel|(solve|simp only[bn])))|(apply Zj;exact U;(first|with_reducible assumption|decide +kernel|(solve|simp only[bn]));exact U;exact U)|(apply Zh;exact U;(first|with_reducible assumption|decide +kernel|(solve|simp only[bn]));exact U;exact U)|(apply Zd;exact U;(first|with_reducible assumption|decide +kernel|(solve|simp only[bn])))|(apply Zf;exact U;(first|with_reducible assumption|decide +kernel|(solve|simp only[bn])))|refine Yb Za U U U U ?_|refine W7 Za U U U U Qk Qk U U U ?_|(apply Zo 7 ZB;decide +kernel;kernel_rfl;kernel_rfl;kernel_rfl;exact U;exact U)|(apply Zo 9 ZB;decide +kernel;kernel_rfl;kernel_rfl;kernel_rfl;exact U;exact U)|(apply Zs;(iterate 4 exact U))|exact AE.nil _ _ _ _|(apply Zx;exact U)|(apply Z1;exact U)|(apply VW;exact U)|(apply Zz;exact U;exact U;decide +kernel;exact U)|(apply ZA;exact U)|(apply Ym;exact U)|(apply Qs;exact U)|exact AO.nil _ _ _|(apply Zr;(decide +kernel))|(apply ZU;(iterate 3 exact U))|exact AOs.nil|exact ZF rfl rfl|exact YK rfl rfl|exact Ue rfl|(apply Vt;exact U;exact U;(first|exact Qt|rotate_left);exact U)|(apply Vu;exact U;exact U;(first|exact Qt|rotate_left);exact U))
  all_goals exact Qe
end Go.Proofs.YtmljabhmajehnaaGreatDoor
end
