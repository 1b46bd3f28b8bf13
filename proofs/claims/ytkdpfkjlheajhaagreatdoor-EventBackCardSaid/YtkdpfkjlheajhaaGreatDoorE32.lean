/- Package event: an event with just the parts of its kind. -/
import Derived.Test.YtkdpfkjlheajhaaGreatDoorE31
set_option linter.unusedVariables false
set_option linter.unusedSimpArgs false
section
open Go.RowKit Go.Pl Go.Av
namespace Go.Proofs.YtkdpfkjlheajhaaGreatDoor
set_option maxHeartbeats 4000000
theorem MQ [Known](x:EvV):AP Tryz.prog 87 [.agg (evC x)] (.agg (evC (JM x))) []:=by
 obtain⟨now,kd,tok,ses,⟨id,rk,⟨ei,en,es,eh,ed⟩,⟨di,dn,dq,dh,dd⟩,pol,num,tik,pay,life,rt,on⟩,data⟩:=x
 unfold JM
 dsimp only
 rcases Ty kd with rfl|rfl|rfl|rfl|rfl|rfl|rfl|rfl|⟨n1,n2,n3,n4,n5,n6,n7,n8⟩
 all_goals
  refine AP.ofA (Zl Tryz.func87 Z Tryz.ntmps87 Z Z ?_)
  repeat'(first|(apply Zi Za;exact Z)|(apply Zg Za;exact Z)|(apply Zu Za;exact Z)|(apply Zd;exact Z;(first|with_reducible assumption|decide +kernel|(solve|simp only[bn])))|(apply Zf;exact Z;(first|with_reducible assumption|decide +kernel|(solve|simp only[bn])))|(apply WZ;exact Z;all_goals intro hb)|(apply Zn 6 ZF;decide +kernel;kernel_rfl;kernel_rfl;kernel_rfl;exact Z;exact Z)|(apply Zr;(iterate 4 exact Z))|exact AE.nil _ _ _ _|(apply Zw;exact Z)|(apply Wv;exact Z)|(apply ZA;exact Z;exact Z;decide +kernel;exact Z)|(apply ZB;exact Z)|(apply Vf;exact Z)|exact AO.nil _ _ _|(apply Zq;(decide +kernel))|(apply ZM;(iterate 3 exact Z))|exact AOs.nil|exact ZG rfl rfl|exact WC rfl)
  all_goals(apply Zs [];(apply Zc Za;exact Z);(iterate 4 exact Z))
  all_goals first|rfl|(simp only[*];rfl)
theorem MR [Known](n:Int):AP Tryz.prog 109 [.int .i64 n] (.bool (JN n)) []:=by
 unfold JN
 cases t1:decide (n ≥ 1)
 all_goals
  refine AP.ofA (Zl Tryz.func109 Z Tryz.ntmps109 Z Z ?_)
  repeat'(first|(apply Zi Za;exact Z)|(apply Zg Za;exact Z)|(apply Ze;(iterate 3 exact Z);(first|with_reducible assumption|decide +kernel|(solve|simp only[bn])))|(apply Zv;(iterate 3 exact Z);(first|with_reducible assumption|decide +kernel|(solve|simp only[bn])))|(apply Zk;exact Z;(first|with_reducible assumption|decide +kernel|(solve|simp only[bn]));exact Z;exact Z)|(apply Zj;exact Z;(first|with_reducible assumption|decide +kernel|(solve|simp only[bn]));exact Z;exact Z))
  all_goals exact Qe
end Go.Proofs.YtkdpfkjlheajhaaGreatDoor
end
