/- ReportWrites: the walk by cases (rwgen.py). -/
import Derived.Test.YtmljabhmajehnaaGreatDoorR34
set_option linter.unusedVariables false
set_option linter.unusedSimpArgs false
section
open Go.RowKit Go.Pl Go.Av
namespace Go.Proofs.YtmljabhmajehnaaGreatDoor
set_option maxHeartbeats 4000000
theorem Jk [Known](r:RepV)(hE:AP Tryz.prog 29 [.agg (iC r.of r.t r.q)] (.agg (iC r.of r.t r.q)) []):AP Tryz.prog 20 [.agg (Y6 r)] (.agg (Y6 r)) []:=by
 obtain⟨a,b,c,rs,tm,⟨i,n,s,h,d⟩,t,q⟩:=r
 refine AP.ofA (Zl Tryz.func20 U Tryz.ntmps20 U U ?_)
 repeat'(first|(apply Zb (hE);kernel_rfl;(iterate 4 exact U))|(apply Zi Za;exact U)|(apply Zg Za;exact U)|(apply Zo 13 ZB;decide +kernel;kernel_rfl;kernel_rfl;kernel_rfl;exact U;exact U)|(apply Zs;(iterate 4 exact U))|exact AE.nil _ _ _ _|(apply Zx;exact U)|(apply Zz;exact U;exact U;decide +kernel;exact U)|(apply ZA;exact U)|exact AO.nil _ _ _|(apply Zr;(decide +kernel))|exact AOs.nil|exact ZF rfl rfl)
 all_goals exact Qe
end Go.Proofs.YtmljabhmajehnaaGreatDoor
end
