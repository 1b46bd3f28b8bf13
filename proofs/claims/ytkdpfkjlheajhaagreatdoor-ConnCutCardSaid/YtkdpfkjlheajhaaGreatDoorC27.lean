/- ConnCut: closed (cpgen2.py). -/
import Derived.Test.YtkdpfkjlheajhaaGreatDoorC26
set_option linter.unusedVariables false
set_option linter.unusedSimpArgs false
section
open Go.RowKit Go.Pl Go.Av
namespace Go.Proofs.YtkdpfkjlheajhaaGreatDoor
set_option maxHeartbeats 4000000
theorem Gq [Known][KnownSc][KnownPow](b cuts lb:List UInt8)(w:List RqV)(e br:Nat)(hcl:cuts.length<=9223372036854775807)(hb:b.length<=4000)(hrb:Zy b=(lb,w,e,br))(he:e ≠ 0):AP Tryz.prog 4 [byE b,byE cuts] (.bool true) []:=by
 have hN:=Ov
 have hF:=kfN [] b (by simp;omega) (.sl .nil []) [] (lb,w,e,br) hrb.symm (.inl ⟨he,rfl,rfl⟩)
 dsimp only at hF
 have hC:=UU 0 [] 0
 have hA:=WM
 have hbl:(b.map E.byte).length=b.length:=List.length_map ..
 have g1:decide (((b.map E.byte).length:Int)>4000)=false:=decide_eq_false (by rw[hbl];omega)
 refine AP.ofA (Zm Tryz.func4 Z Tryz.ntmps4 Z Z ?_)
 repeat'(first|(apply Zb [] [] (hN);kernel_rfl;(iterate 10 exact Z))|(apply Zb [0,1] [] (hF);kernel_rfl;(iterate 10 exact Z))|(apply Zb [2,3] [] (hC);kernel_rfl;(iterate 10 exact Z))|(apply Zj Za;exact Z)|(apply Zg Za;exact Z)|(apply Zq Za;exact Z)|(apply Ze;exact Z;(first|with_reducible assumption|decide +kernel|(solve|simp only[bn])))|refine Zp Za Z Z Z Z ?_)
 refine Z4 (W4 b cuts (.sl .nil []) e lb ((br:Nat):Int) [] 0) (b.length+cuts.length+1) (Lands.mk' (m:=b.length+cuts.length) (Nat.lt_succ_self _) ⟨[],b,0,0,.sl .nil [],[],0,0,by simp,.inr ⟨rfl,Nat.zero_le _⟩,rfl,.inr (.inl ⟨rfl,by rw[YO],by rw[YO],rfl,by rw[YO],rfl,rfl⟩),rfl,rfl⟩ ?_ rfl rfl rfl rfl rfl rfl) ?_
 ·exact .cons rfl (.cons rfl (.cons rfl (.cons rfl (.cons rfl (.cons rfl (.cons rfl .nil))))))
 clear hF hC hN
 rintro k tm bx fr ⟨p,rest,i,iz,wd,tl,te,tb,hk,hi,hbp,h2,rfl,rfl⟩
 by_cases hrest:rest=[]
 rotate_left
 ·obtain⟨rfl,hi3⟩:=hi.resolve_left hrest
  exact Gp b cuts p rest lb tl [] 0 e te i k _ tb wd fr hcl hb hrest hk hi3 hbp h2 _
 subst hrest
 rw[List.append_nil]at hbp
 subst hbp
 have g31:decide (((([]:List UInt8).map E.byte).length:Int)>0)=false:=rfl
 rcases h2 with⟨_,hte,rfl,rfl⟩ | ⟨_,h,_⟩ | ⟨_,h,_⟩
 rotate_left
 ·rw[hrb]at h;exact(he h).elim
 ·rw[hrb]at h;exact(he h).elim
 rw[hrb]at hte
 dsimp only at hte
 subst hte
 have z2:((te:Int)==0)=false:=by simp;omega
 have hX:=kfX [1] te he lb ((br:Nat):Int)
 replace hX:AT Tryz.prog 10 [.ptr 1 0,.sl .ext [.int .u8 1]] _ [] _ _ []:=hX
 have z1:(((te:Nat):Int) != ((te:Nat):Int))=false:=by simp
 have z3:(((te:Nat):Int)==((te:Nat):Int))=true:=by simp
 have hC1:=UU ((te:Nat):Int) lb ((br:Nat):Int)
 have hC2:=UU ((te:Nat):Int) tl tb
 have hW1:=UQ ((te:Nat):Int) lb ((br:Nat):Int)
 have hW2:=UQ ((te:Nat):Int) tl tb
 have hX1:=OI ((te:Nat):Int) lb ((br:Nat):Int)
 have hX2:=OI ((te:Nat):Int) tl tb
 have hS:AP Tryz.prog 27 [.agg [.int .u64 0,.int .i64 0,.bool false,.int .u64 0,.int .u64 0,.str [],.str [],.bool false,.int .u64 0,.int .u64 0,.str [],.str [],.int .i64 0,.int .i64 0,.int .i64 0,.sl .ext [],.int .u64 0,.int .u64 0,.bool false],.agg [.int .u64 0,.int .i64 0,.bool false,.int .u64 0,.int .u64 0,.str [],.str [],.bool false,.int .u64 0,.int .u64 0,.str [],.str [],.int .i64 0,.int .i64 0,.int .i64 0,.sl .ext [],.int .u64 0,.int .u64 0,.bool false]] (.bool true) []:=Wx Ju Ju
 repeat'(first|(apply Zb [0,1] [] (hC1);kernel_rfl;(iterate 10 exact Z))|(apply Zb [2,3] [] (hC2);kernel_rfl;(iterate 10 exact Z))|(apply Zb [0,1] [] (hW1);kernel_rfl;(iterate 10 exact Z))|(apply Zb [2,3] [] (hW2);kernel_rfl;(iterate 10 exact Z))|(apply Zj Za;exact Z)|(apply Zg Za;exact Z)|(apply Zq Za;exact Z)|(apply Zi;(iterate 3 exact Z);(first|with_reducible assumption|decide +kernel|(solve|simp only[bn])))|(apply Zl;exact Z;(first|with_reducible assumption|decide +kernel|(solve|simp only[bn]));exact Z;exact Z)|(apply Ze;exact Z;(first|with_reducible assumption|decide +kernel|(solve|simp only[bn])))|refine Zp Za Z Z Z Z ?_)
 refine Z4 (fun f tm bx fr=>∃ j:Nat,f+j=9/\tm=[(5,.ptr 1 0),(6,.ptr 3 0),(7,.int .i64 ((te:Nat):Int)),(12,.int .i64 (j:Int))]/\bx=cpB (.sl .nil []) te lb ((br:Nat):Int) (.sl .nil []) te tl tb/\fr=[]) 10 (Lands.mk' (m:=9) (by omega) ⟨0,rfl,rfl,rfl,rfl⟩ ?_ rfl rfl rfl rfl rfl rfl) ?_
 ·exact .cons rfl (.cons rfl (.cons rfl (.cons rfl .nil)))
 rintro f tm bx fr ⟨j,hf,rfl,rfl,rfl⟩
 rcases Nat.lt_or_ge j 9 with hlt|hge
 ·have d9:decide ((j:Int)<9)=true:=decide_eq_true (by omega)
  have ej:IntKind.i64.wrap ((j:Int)+1)=((j+1:Nat):Int):=by rw[IntWalk.i64_in _ (by omega)];omega
  repeat'(first|(apply Zb [0,1] [] (hX1);kernel_rfl;(iterate 10 exact Z))|(apply Zb [2,3] [] (hX2);kernel_rfl;(iterate 10 exact Z))|(apply Zc (hS);kernel_rfl;(iterate 4 exact Z))|rw[ej]|(apply Zj Za;exact Z)|(apply Zg Za;exact Z)|(apply Zq Za;exact Z)|(apply Zi;(iterate 3 exact Z);(first|with_reducible assumption|decide +kernel|(solve|simp only[bn])))|(apply Zl;exact Z;(first|with_reducible assumption|decide +kernel|(solve|simp only[bn]));exact Z;exact Z)|(apply Zf;exact Z;(first|with_reducible assumption|decide +kernel|(solve|simp only[bn])))|(apply Ze;exact Z;(first|with_reducible assumption|decide +kernel|(solve|simp only[bn]))))
  refine Lands.mk' (m:=f-1) (by omega) ⟨j+1,by omega,rfl,rfl,rfl⟩ ?_ rfl rfl rfl rfl rfl rfl
  exact .cons rfl (.cons rfl (.cons rfl (.cons rfl .nil)))
 ·have d9:decide ((j:Int)<9)=false:=decide_eq_false (by omega)
  repeat'(first|(apply Zc (hA);kernel_rfl;(iterate 4 exact Z))|(apply Zb [0,1] [] (hW1);kernel_rfl;(iterate 10 exact Z))|(apply Zb [0,1] [] (hX);kernel_rfl;(iterate 10 exact Z))|(apply Zj Za;exact Z)|(apply Zg Za;exact Z)|(apply Zi;(iterate 3 exact Z);(first|with_reducible assumption|decide +kernel|(solve|simp only[bn])))|(apply Zk;exact Z;(first|with_reducible assumption|decide +kernel|(solve|simp only[bn]));exact Z;exact Z)|(apply Zl;exact Z;(first|with_reducible assumption|decide +kernel|(solve|simp only[bn]));exact Z;exact Z)|(apply Ze;exact Z;(first|with_reducible assumption|decide +kernel|(solve|simp only[bn])))|refine Yl Za Z Z Z Z Z Z Z Z Z Z Z Z ?_)
  all_goals(apply Zu [];(apply Zd Za;exact Z);(iterate 4 exact Z))
  all_goals first|rfl|exact congrArg D.bool z3
end Go.Proofs.YtkdpfkjlheajhaaGreatDoor
end
