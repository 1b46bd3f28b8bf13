/- A connection: fixed calls. -/
import Derived.Test.YthdgejfglbjogaaGreatDoorA10
import Derived.Test.YthdgejfglbjogaaGreatDoorA11
import Derived.Test.YthdgejfglbjogaaGreatDoorA12
import Derived.Test.YthdgejfglbjogaaGreatDoorA01
set_option linter.unusedVariables false
set_option linter.unusedSimpArgs false
section
open Go.RowKit Go.Pl Go.Av
namespace Go.Proofs.YthdgejfglbjogaaGreatDoor
set_option maxHeartbeats 4000000
abbrev coW (w out:D)(s e:Int)(left:List E):List (List D):=[[.bool true,.sl .ext left,.int .i64 0],[.ptr 0 0,w,.int .i64 s,out,.int .i64 e]]
abbrev Ve:E:=.agg [.int .u64 5,.int .i64 11,.bool false,.int .u64 0,.int .u64 0,.str [],.str [],.bool false,.int .u64 0,.int .u64 0,.str [],.str [],.int .i64 0,.int .i64 0,.int .i64 0,.sl [],.int .u64 0,.int .u64 0,.bool false]
theorem ct1:ZP ([]++[0,2,5])=([],[0,2,5],0):=Wc (by decide) (by decide) (by decide) (by decide)
theorem ct2:ZP ([0,2,5]++[11,0,1,9])=([[5,11],[9]],[],0):=by
 rw[Y3 (by decide) (by decide) (by decide) (by decide)]
 rw[show(([0,2,5]++[11,0,1,9]:List UInt8).drop (2+Zx ([0,2,5]++[11,0,1,9])))=[0,1,9] from rfl,Y3 (by decide) (by decide) (by decide) (by decide)]
 rw[show(([0,1,9]:List UInt8).drop (2+Zx [0,1,9]))=[] from rfl,Yv (by decide)]
 rfl
theorem ct3:ZP ([]++[0,2,5,11])=([[5,11]],[],0):=by
 rw[Y3 (by decide) (by decide) (by decide) (by decide)]
 rw[show(([]++[0,2,5,11]:List UInt8).drop (2+Zx ([]++[0,2,5,11])))=[] from rfl,Yv (by decide)]
 rfl
theorem fk1 [Known]:AQ Tryz.prog 24 [.ptr 0 0,.sl .ext [.int .u8 0,.int .u8 2,.int .u8 5]] [[.bool true,.sl .ext [],.int .i64 0]] (.tup [.sl .ext [],.int .i64 0]) [[.bool true,.sl .ext [.int .u8 0,.int .u8 2,.int .u8 5],.int .i64 0]]:=by
 have h:=V0 [] [0,2,5] (by decide)
 rw[ct1]at h
 exact h
theorem fk2 [Known]:AQ Tryz.prog 24 [.ptr 0 0,.sl .ext [.int .u8 11,.int .u8 0,.int .u8 1,.int .u8 9]] [[.bool true,.sl .ext [.int .u8 0,.int .u8 2,.int .u8 5],.int .i64 0]] (.tup [.sl .ext [.sl [.int .u8 5,.int .u8 11],.sl [.int .u8 9]],.int .i64 0]) [[.bool true,.sl .ext [],.int .i64 0]]:=by
 have h:=V0 [0,2,5] [11,0,1,9] (by decide)
 rw[ct2]at h
 exact h
theorem fk3 [Known]:AQ Tryz.prog 24 [.ptr 0 0,.sl .ext [.int .u8 0,.int .u8 2,.int .u8 5,.int .u8 11]] [[.bool true,.sl .ext [],.int .i64 0]] (.tup [.sl .ext [.sl [.int .u8 5,.int .u8 11]],.int .i64 0]) [[.bool true,.sl .ext [],.int .i64 0]]:=by
 have h:=V0 [] [0,2,5,11] (by decide)
 rw[ct3]at h
 exact h
abbrev coF:List Fr:=[⟨1,19,49⟩]
theorem cl0 [Known]:AT Tryz.prog 12 [.ptr 1 0] (coW (.sl .nil []) (.sl .nil []) 0 0 []) [] (.int .i64 0) (coW (.sl .nil []) (.sl .nil []) 0 0 []) []:=by
 refine Zl Tryz.func12 rfl Tryz.ntmps12 rfl rfl ?_
 repeat'(first|(apply Zs Tryz.func16 Tryz.ntmps16;exact Z;exact Z;kernel_rfl;(iterate 6 exact Z))|(apply Z4;(apply Zb Za;exact Z);exact Z)|(apply Zj Za;exact Z)|(apply Zf Za;exact Z)|(apply Zr Za;exact Z)|(apply Ze;(iterate 3 exact Z);(first|with_reducible assumption|decide +kernel|(solve|simp only[bn])))|(apply Zk;exact Z;(first|with_reducible assumption|decide +kernel|(solve|simp only[bn]));exact Z;exact Z)|(apply Zc;exact Z;(first|with_reducible assumption|decide +kernel|(solve|simp only[bn]))))
 all_goals(apply ZT [0,1] [];(apply Zb Za;exact Z);(iterate 7 exact Z))
 all_goals rfl
theorem Kn [Known]:AT Tryz.prog 12 [.ptr 1 0] (coW (.sl .nil []) (.sl .nil []) 0 0 [.int .u8 0,.int .u8 2,.int .u8 5]) [] (.int .i64 0) (coW (.sl .nil []) (.sl .nil []) 0 0 [.int .u8 0,.int .u8 2,.int .u8 5]) []:=by
 refine Zl Tryz.func12 rfl Tryz.ntmps12 rfl rfl ?_
 repeat'(first|(apply Zs Tryz.func16 Tryz.ntmps16;exact Z;exact Z;kernel_rfl;(iterate 6 exact Z))|(apply Z4;(apply Zb Za;exact Z);exact Z)|(apply Zj Za;exact Z)|(apply Zf Za;exact Z)|(apply Zr Za;exact Z)|(apply Ze;(iterate 3 exact Z);(first|with_reducible assumption|decide +kernel|(solve|simp only[bn])))|(apply Zk;exact Z;(first|with_reducible assumption|decide +kernel|(solve|simp only[bn]));exact Z;exact Z)|(apply Zc;exact Z;(first|with_reducible assumption|decide +kernel|(solve|simp only[bn]))))
 all_goals(apply ZT [0,1] [];(apply Zb Za;exact Z);(iterate 7 exact Z))
 all_goals rfl
theorem Ko [Known]:AT Tryz.prog 12 [.ptr 1 0] (coW (.sl (.own 0) [Ve]) (.sl .nil []) 0 0 []) coF (.int .i64 0) (coW (.sl (.own 0) [Ve]) (.sl .nil []) 0 0 []) coF:=by
 refine Zl Tryz.func12 rfl Tryz.ntmps12 rfl rfl ?_
 repeat'(first|(apply Zs Tryz.func16 Tryz.ntmps16;exact Z;exact Z;kernel_rfl;(iterate 6 exact Z))|(apply Z4;(apply Zb Za;exact Z);exact Z)|(apply Zj Za;exact Z)|(apply Zf Za;exact Z)|(apply Zr Za;exact Z)|(apply Ze;(iterate 3 exact Z);(first|with_reducible assumption|decide +kernel|(solve|simp only[bn])))|(apply Zk;exact Z;(first|with_reducible assumption|decide +kernel|(solve|simp only[bn]));exact Z;exact Z)|(apply Zc;exact Z;(first|with_reducible assumption|decide +kernel|(solve|simp only[bn]))))
 all_goals(apply ZT [0,1] [0];(apply Zb Za;exact Z);(iterate 7 exact Z))
 all_goals rfl
theorem ctO [Known]:AT Tryz.prog 25 [.ptr 1 0,.sl .ext [.int .u8 5,.int .u8 11]] (coW (.sl .nil []) (.sl .nil []) 0 0 []) [] (.int .i64 0) (coW (.sl (.own 0) [Ve]) (.sl .nil []) 0 0 []) coF:=by
 have hR:=XP
 replace hR:AP Tryz.prog 35 [.sl .ext [.int .u8 5,.int .u8 11]] _ []:=hR
 refine Zl Tryz.func25 rfl Tryz.ntmps25 rfl rfl ?_
 repeat'(first|exact Jf (t:=30) rfl rfl|(apply Zd (hR);kernel_rfl;(iterate 4 exact Z))|refine ZO Za Z Z Z Z Z Z (Zi rfl) (List.cons_ne_nil _ _) Z Qd Qd Z Z Z ?_|(apply Zj Za;exact Z)|(apply Zf Za;exact Z)|(apply Zr Za;exact Z)|(apply Zc;exact Z;(first|with_reducible assumption|decide +kernel|(solve|simp only[bn])))|refine Zo Za Z Z Z Z ?_|refine Zy Za Z Z Z Z Z Z Z Z Z Z Z Z ?_|(apply ZV 8 YT;decide +kernel;kernel_rfl;kernel_rfl;kernel_rfl;exact Z;exact Z)|(apply Z6;(iterate 4 exact Z))|exact AE.nil _ _ _ _|(apply Yn;exact Z)|(apply VW;exact Z)|(apply YM;exact Z;exact Z;decide +kernel;exact Z)|(apply YN;exact Z)|(apply UM;exact Z)|exact AO.nil _ _ _|(apply Z5;(decide +kernel))|(apply WU;(iterate 3 exact Z))|exact AOs.nil|exact Ws rfl rfl|exact XO rfl rfl rfl rfl rfl)
 all_goals(apply ZT [0,1] [0];(apply Zb Za;exact Z);(iterate 7 exact Z))
 all_goals rfl
theorem ct9 [Known]:AT Tryz.prog 25 [.ptr 1 0,.sl .ext [.int .u8 9]] (coW (.sl (.own 0) [Ve]) (.sl .nil []) 0 0 []) coF (.int .i64 3) (coW (.sl (.own 0) [Ve]) (.sl .nil []) 0 0 []) coF:=by
 have hR9:=XQ
 replace hR9:AP Tryz.prog 35 [.sl .ext [.int .u8 9]] _ []:=hR9
 refine Zl Tryz.func25 rfl Tryz.ntmps25 rfl rfl ?_
 repeat'(first|(apply Zd (hR9);kernel_rfl;(iterate 4 exact Z))|(apply Zj Za;exact Z)|(apply Zf Za;exact Z)|(apply Zr Za;exact Z)|(apply Zg;exact Z;(first|with_reducible assumption|decide +kernel|(solve|simp only[bn]))))
 all_goals(apply ZT [0,1] [0];(apply Zb Za;exact Z);(iterate 7 exact Z))
 all_goals rfl
theorem cc3 [Known]:AT Tryz.prog 26 [.ptr 1 0,.int .i64 3] (coW (.sl (.own 0) [Ve]) (.sl .nil []) 0 0 []) coF (.tup []) (coW (.sl .nil []) (.sl .nil []) 0 3 []) coF:=by
 have hC:=Ko
 refine Zl Tryz.func26 rfl Tryz.ntmps26 rfl rfl ?_
 repeat'(first|(apply Zh [0,1] [0] (hC);kernel_rfl;(iterate 10 exact Z))|(apply Zj Za;exact Z)|(apply Zf Za;exact Z)|(apply Zr Za;exact Z)|(apply Zc;exact Z;(first|with_reducible assumption|decide +kernel|(solve|simp only[bn]))))
 all_goals(apply XK [0,1] [0];(apply Zb Za;exact Z);(iterate 7 exact Z))
 all_goals rfl
theorem ck1 [Known]:AT Tryz.prog 10 [.ptr 1 0,.sl .ext [.int .u8 0,.int .u8 2,.int .u8 5]] (coW (.sl .nil []) (.sl .nil []) 0 0 []) [] (.int .i64 0) (coW (.sl .nil []) (.sl .nil []) 0 0 [.int .u8 0,.int .u8 2,.int .u8 5]) []:=by
 have hF:=fk1
 have hC:=cl0
 refine Zl Tryz.func10 rfl Tryz.ntmps10 rfl rfl ?_
 repeat'(first|(apply Yc [0] (hF);kernel_rfl;(iterate 7 exact Z))|(apply Zh [0,1] [] (hC);kernel_rfl;(iterate 10 exact Z))|refine Yq 20 ?_|refine YL ?_|(apply Zj Za;exact Z)|(apply Zf Za;exact Z)|(apply Zc;exact Z;(first|with_reducible assumption|decide +kernel|(solve|simp only[bn])))|refine Zo Za Z Z Z Z ?_)
 all_goals(apply ZT [0,1] [];(apply Zb Za;exact Z);(iterate 7 exact Z))
 all_goals rfl
theorem ck2 [Known]:AT Tryz.prog 10 [.ptr 1 0,.sl .ext [.int .u8 11,.int .u8 0,.int .u8 1,.int .u8 9]] (coW (.sl .nil []) (.sl .nil []) 0 0 [.int .u8 0,.int .u8 2,.int .u8 5]) [] (.int .i64 3) (coW (.sl .nil []) (.sl .nil []) 0 3 []) []:=by
 have hF:=fk2
 have hC:=Kn
 have h1:=ctO
 have h2:=ct9
 have h3:=cc3
 refine Zl Tryz.func10 rfl Tryz.ntmps10 rfl rfl ?_
 repeat'(first|(apply Yc [0] (hF);kernel_rfl;(iterate 7 exact Z))|(apply Zh [0,1] [] (hC);kernel_rfl;(iterate 10 exact Z))|(apply Zh [0,1] [] (h1);kernel_rfl;(iterate 10 exact Z))|(apply Zh [0,1] [0] (h2);kernel_rfl;(iterate 10 exact Z))|(apply Zh [0,1] [0] (h3);kernel_rfl;(iterate 10 exact Z))|refine Yq 20 ?_|refine YL ?_|(apply Zj Za;exact Z)|(apply Zf Za;exact Z)|(apply Zg;exact Z;(first|with_reducible assumption|decide +kernel|(solve|simp only[bn])))|(apply Zc;exact Z;(first|with_reducible assumption|decide +kernel|(solve|simp only[bn])))|refine Zo Za Z Z Z Z ?_|(apply Zu Za;(iterate 6 exact Z);(first|exact Qt|rotate_left);(first|with_reducible assumption|decide +kernel|exact Z);(first|exact Zi rfl|with_reducible assumption|decide +kernel|rotate_left)))
 all_goals(apply ZT [0,1] [];(apply Zb Za;exact Z);(iterate 7 exact Z))
 all_goals rfl
theorem ck3 [Known]:AT Tryz.prog 10 [.ptr 1 0,.sl .ext [.int .u8 0,.int .u8 2,.int .u8 5,.int .u8 11]] (coW (.sl .nil []) (.sl .nil []) 0 0 []) [] (.int .i64 0) (coW (.sl (.own 0) [Ve]) (.sl .nil []) 0 0 []) coF:=by
 have hF:=fk3
 have hC:=cl0
 have h1:=ctO
 refine Zl Tryz.func10 rfl Tryz.ntmps10 rfl rfl ?_
 repeat'(first|(apply Yc [0] (hF);kernel_rfl;(iterate 7 exact Z))|(apply Zh [0,1] [] (hC);kernel_rfl;(iterate 10 exact Z))|(apply Zh [0,1] [] (h1);kernel_rfl;(iterate 10 exact Z))|refine Yq 20 ?_|refine YL ?_|(apply Zj Za;exact Z)|(apply Zf Za;exact Z)|(apply Zg;exact Z;(first|with_reducible assumption|decide +kernel|(solve|simp only[bn])))|(apply Zc;exact Z;(first|with_reducible assumption|decide +kernel|(solve|simp only[bn])))|refine Zo Za Z Z Z Z ?_|(apply Zu Za;(iterate 6 exact Z);(first|exact Qt|rotate_left);(first|with_reducible assumption|decide +kernel|exact Z);(first|exact Zi rfl|with_reducible assumption|decide +kernel|rotate_left)))
 all_goals(apply ZT [0,1] [0];(apply Zb Za;exact Z);(iterate 7 exact Z))
 all_goals rfl
abbrev coN:D:=.sl .nil []
abbrev co8:List E:=[.int .u8 0,.int .u8 6,.int .u8 5,.int .u8 0,.int .u8 0,.int .u8 0,.int .u8 0,.int .u8 0]
abbrev coG:List Fr:=[⟨8,1,5⟩]
theorem XV [Known]:AT Tryz.prog 4 [] [] [] (.ptr 1 0) (coW coN coN 0 0 []) []:=by
 have hN:=Xv
 replace hN:AQ Tryz.prog 9 [] [] (.ptr 0 0) [[.bool true,.sl .ext [],.int .i64 0]]:=hN
 refine Zl Tryz.func4 rfl Tryz.ntmps4 rfl rfl ?_
 repeat'(first|(apply Yc [] (hN);kernel_rfl;(iterate 7 exact Z))|(apply Zj Za;exact Z)|(apply Zf Za;exact Z))
 all_goals(apply ZT [0,1] [];(apply Zb Za;exact Z);(iterate 7 exact Z))
 all_goals rfl
theorem Xb [Known](s e:Int)(left:List E):AT Tryz.prog 11 [.ptr 1 0] (coW coN coN s e left) [] (.int .i64 0) (coW coN coN s e left) []:=by
 refine Zl Tryz.func11 rfl Tryz.ntmps11 rfl rfl ?_
 repeat'(first|(apply Zj Za;exact Z)|(apply Zf Za;exact Z)|(apply Zc;exact Z;(first|with_reducible assumption|decide +kernel|(solve|simp only[bn])))|refine Zo Za Z Z Z Z ?_)
 all_goals(apply ZT [0,1] [];(apply Zb Za;exact Z);(iterate 7 exact Z))
 all_goals rfl
theorem Xx [Known]:AT Tryz.prog 11 [.ptr 1 0] (coW (.sl (.own 0) [Ve]) coN 0 0 []) coF (.int .i64 1) (coW (.sl (.own 0) [Ve]) coN 0 0 []) coF:=by
 refine Zl Tryz.func11 rfl Tryz.ntmps11 rfl rfl ?_
 repeat'(first|(apply Zj Za;exact Z)|(apply Zf Za;exact Z)|(apply Zc;exact Z;(first|with_reducible assumption|decide +kernel|(solve|simp only[bn])))|refine Zo Za Z Z Z Z ?_)
 all_goals(apply ZT [0,1] [0];(apply Zb Za;exact Z);(iterate 7 exact Z))
 all_goals rfl
theorem ccl [Known](s e:Int)(left:List E):AT Tryz.prog 12 [.ptr 1 0] (coW coN coN s e left) [] (.int .i64 e) (coW coN coN s e left) []:=by
 refine Zl Tryz.func12 rfl Tryz.ntmps12 rfl rfl ?_
 repeat'(first|(apply Zs Tryz.func16 Tryz.ntmps16;exact Z;exact Z;kernel_rfl;(iterate 6 exact Z))|(apply Z4;(apply Zb Za;exact Z);exact Z)|(apply Zj Za;exact Z)|(apply Zf Za;exact Z)|(apply Zr Za;exact Z)|(apply Ze;(iterate 3 exact Z);(first|with_reducible assumption|decide +kernel|(solve|simp only[bn])))|(apply Zk;exact Z;(first|with_reducible assumption|decide +kernel|(solve|simp only[bn]));exact Z;exact Z)|(apply Zc;exact Z;(first|with_reducible assumption|decide +kernel|(solve|simp only[bn]))))
 all_goals(apply ZT [0,1] [];(apply Zb Za;exact Z);(iterate 7 exact Z))
 all_goals rfl
theorem Kp [Known]:AT Tryz.prog 6 [.ptr 1 0,.agg [.int .u64 5,.int .i64 0,.int .i64 0,.int .i64 0,.int .u64 0,coN]] (coW coN coN 0 3 []) [] (.int .i64 0) (coW coN (.sl (.own 0) co8) 0 3 []) coG:=by
 have hW:=Ye ⟨5,0,0,0,0,[]⟩
 rw[show Yh ⟨5,0,0,0,0,[]⟩=.tup [.sl .ext [.int .u8 5,.int .u8 0,.int .u8 0,.int .u8 0,.int .u8 0,.int .u8 0],.int .i64 0] by kernel_rfl]at hW
 replace hW:AP Tryz.prog 7 [.agg [.int .u64 5,.int .i64 0,.int .i64 0,.int .i64 0,.int .u64 0,.sl .ext []]] _ []:=hW
 have hF:=Y4 [5,0,0,0,0,0] (by decide) (by decide)
 replace hF:AP Tryz.prog 17 [.sl .ext [.int .u8 5,.int .u8 0,.int .u8 0,.int .u8 0,.int .u8 0,.int .u8 0]] (.tup [.sl .ext co8,.int .i64 0]) []:=hF
 refine Zl Tryz.func6 rfl Tryz.ntmps6 rfl rfl ?_
 repeat'(first|(apply Zd (hW);kernel_rfl;(iterate 4 exact Z))|(apply Zd (hF);kernel_rfl;(iterate 4 exact Z))|(apply Zs Tryz.func16 Tryz.ntmps16;exact Z;exact Z;kernel_rfl;(iterate 6 exact Z))|(apply Z4;(apply Zb Za;exact Z);exact Z)|refine ZO Za Z Z Z Z Z Z (Zi rfl) (List.cons_ne_nil _ _) Z Qd Qd Z Z Z ?_|(apply Zj Za;exact Z)|(apply Zf Za;exact Z)|(apply Zr Za;exact Z)|(apply Ze;(iterate 3 exact Z);(first|with_reducible assumption|decide +kernel|(solve|simp only[bn])))|(apply Zk;exact Z;(first|with_reducible assumption|decide +kernel|(solve|simp only[bn]));exact Z;exact Z)|(apply Zg;exact Z;(first|with_reducible assumption|decide +kernel|(solve|simp only[bn])))|(apply Zc;exact Z;(first|with_reducible assumption|decide +kernel|(solve|simp only[bn]))))
 all_goals(apply ZT [0,1] [0];(apply Zb Za;exact Z);(iterate 7 exact Z))
 all_goals rfl
theorem Kq [Known]:AT Tryz.prog 8 [.ptr 1 0] (coW coN (.sl (.own 0) co8) 0 3 []) coG (.sl (.own 0) co8) (coW coN coN 0 3 []) coG:=by
 refine Zl Tryz.func8 rfl Tryz.ntmps8 rfl rfl ?_
 repeat'(first|(apply Zf Za;exact Z)|(apply Zc;exact Z;(first|with_reducible assumption|decide +kernel|(solve|simp only[bn]))))
 all_goals(apply ZT [0,1] [0];(apply Zb Za;exact Z);(iterate 7 exact Z))
 all_goals rfl
theorem XW [Known]:AT Tryz.prog 14 [.ptr 1 0,.int .i64 3] (coW (.sl .ext []) coN 0 0 []) [] (.int .i64 0) (coW (.sl .ext []) coN 3 0 []) []:=by
 refine Zl Tryz.func14 rfl Tryz.ntmps14 rfl rfl ?_
 repeat'(first|(apply Zs Tryz.func16 Tryz.ntmps16;exact Z;exact Z;kernel_rfl;(iterate 6 exact Z))|(apply Z4;(apply Zb Za;exact Z);exact Z)|(apply Zj Za;exact Z)|(apply Zf Za;exact Z)|(apply Zr Za;exact Z)|(apply Ze;(iterate 3 exact Z);(first|with_reducible assumption|decide +kernel|(solve|simp only[bn])))|(apply Zk;exact Z;(first|with_reducible assumption|decide +kernel|(solve|simp only[bn]));exact Z;exact Z)|(apply Zm;exact Z;(first|with_reducible assumption|decide +kernel|(solve|simp only[bn]));exact Z;exact Z)|(apply Zc;exact Z;(first|with_reducible assumption|decide +kernel|(solve|simp only[bn]))))
 all_goals(apply ZT [0,1] [];(apply Zb Za;exact Z);(iterate 7 exact Z))
 all_goals rfl
theorem Xy [Known]:AT Tryz.prog 14 [.ptr 1 0,.int .i64 4] (coW (.sl .ext []) coN 3 0 []) [] (.int .i64 7) (coW (.sl .ext []) coN 3 0 []) []:=by
 refine Zl Tryz.func14 rfl Tryz.ntmps14 rfl rfl ?_
 repeat'(first|(apply Zs Tryz.func16 Tryz.ntmps16;exact Z;exact Z;kernel_rfl;(iterate 6 exact Z))|(apply Z4;(apply Zb Za;exact Z);exact Z)|(apply Zj Za;exact Z)|(apply Zf Za;exact Z)|(apply Zr Za;exact Z)|(apply Ze;(iterate 3 exact Z);(first|with_reducible assumption|decide +kernel|(solve|simp only[bn])))|(apply ZG;(iterate 3 exact Z);(first|with_reducible assumption|decide +kernel|(solve|simp only[bn])))|(apply Zk;exact Z;(first|with_reducible assumption|decide +kernel|(solve|simp only[bn]));exact Z;exact Z)|(apply Zm;exact Z;(first|with_reducible assumption|decide +kernel|(solve|simp only[bn]));exact Z;exact Z)|(apply Zg;exact Z;(first|with_reducible assumption|decide +kernel|(solve|simp only[bn])))|(apply Zc;exact Z;(first|with_reducible assumption|decide +kernel|(solve|simp only[bn]))))
 all_goals(apply ZT [0,1] [];(apply Zb Za;exact Z);(iterate 7 exact Z))
 all_goals rfl
theorem XX [Known]:AT Tryz.prog 15 [.ptr 1 0] (coW (.sl .ext []) coN 3 0 []) [] (.int .i64 3) (coW (.sl .ext []) coN 3 0 []) []:=by
 refine Zl Tryz.func15 rfl Tryz.ntmps15 rfl rfl ?_
 repeat'(first|(apply Zf Za;exact Z)|(apply Zc;exact Z;(first|with_reducible assumption|decide +kernel|(solve|simp only[bn]))))
 all_goals(apply ZT [0,1] [];(apply Zb Za;exact Z);(iterate 7 exact Z))
 all_goals rfl
theorem Jx [Known]:AP Tryz.prog 27 [.sl .ext []] (.sl .ext []) []:=by
 refine AP.ofA (Zl Tryz.func27 Z Tryz.ntmps27 Z Z ?_)
 repeat'(first|(apply Y2 Za;(iterate 5 exact Z);intro b hbn)|(apply Zj Za;exact Z)|(apply Zf Za;exact Z)|(apply Zr Za;exact Z)|(apply Ud;exact Z;all_goals intro hb)|refine WN Za Z Z Z Z Z Z Z Z Z Z Z Z ?_|refine ZN Za Z Z Z Z Z Z ?_)
 all_goals exact Qe
theorem XZ [Known]:AT Tryz.prog 13 [.ptr 1 0] (coW (.sl (.own 0) [Ve]) coN 0 0 []) coF (.tup [.agg rqO,.bool true]) (coW (.sl .ext []) coN 0 0 []) coF:=by
 have hW:=Xx
 have hC:=Jx
 have hU1:Uni 19 [Ve]:=by intro e he;rw[List.mem_singleton]at he;subst he;rfl
 refine Zl Tryz.func13 rfl Tryz.ntmps13 rfl rfl ?_
 repeat'(first|(apply Zh [0,1] [0] (hW);kernel_rfl;(iterate 10 exact Z))|(apply Zd (hC);kernel_rfl;(iterate 4 exact Z))|refine Jt Za Z Z Z Z Z Z hU1 (by decide) (by decide) Z ?_|(apply Zj Za;exact Z)|(apply Zf Za;exact Z)|(apply Zr Za;exact Z)|(apply Zc;exact Z;(first|with_reducible assumption|decide +kernel|(solve|simp only[bn])))|(apply Zu Za;(iterate 6 exact Z);(first|exact Qt|rotate_left);(first|with_reducible assumption|decide +kernel|exact Z);(first|exact Zi rfl|with_reducible assumption|decide +kernel|rotate_left)))
 all_goals(apply ZT [0,1] [0];(apply Zb Za;exact Z);(iterate 7 exact Z))
 all_goals rfl
theorem UU [Known]:AP Tryz.prog 5 [] (.bool true) []:=by
 have k0:=XV
 have k1:=ck1
 have k2:=Xb 0 0 [.int .u8 0,.int .u8 2,.int .u8 5]
 have k3:=ck2
 have k4:=ccl 0 3 []
 have k5:=Kp
 have k6:=Kq
 have k7:=ck3
 have k8:=XZ
 have k9:=XW
 have k10:=XX
 have k11:=Xy
 have k12:=Xb 0 3 []
 refine AP.ofA (Zl Tryz.func5 Z Tryz.ntmps5 Z Z ?_)
 repeat'(first|(apply Zh [] [] (k0);kernel_rfl;(iterate 10 exact Z))|(apply Zh [0,1] [] (k1);kernel_rfl;(iterate 10 exact Z))|(apply Zh [0,1] [] (k2);kernel_rfl;(iterate 10 exact Z))|(apply Zh [0,1] [] (k3);kernel_rfl;(iterate 10 exact Z))|(apply Zh [0,1] [] (k4);kernel_rfl;(iterate 10 exact Z))|(apply Zh [0,1] [] (k5);kernel_rfl;(iterate 10 exact Z))|(apply Zh [0,1] [2] (k6);kernel_rfl;(iterate 10 exact Z))|(apply Zh [2,3] [] (k7);kernel_rfl;(iterate 10 exact Z))|(apply Zh [2,3] [4] (k8);kernel_rfl;(iterate 10 exact Z))|(apply Zh [2,3] [] (k9);kernel_rfl;(iterate 10 exact Z))|(apply Zh [2,3] [] (k10);kernel_rfl;(iterate 10 exact Z))|(apply Zh [2,3] [] (k11);kernel_rfl;(iterate 10 exact Z))|(apply Zh [0,1] [] (k12);kernel_rfl;(iterate 10 exact Z))|(apply Zj Za;exact Z)|(apply Zf Za;exact Z)|(apply Ze;(iterate 3 exact Z);(first|with_reducible assumption|decide +kernel|(solve|simp only[bn])))|(apply Zk;exact Z;(first|with_reducible assumption|decide +kernel|(solve|simp only[bn]));exact Z;exact Z)|refine Zo Za Z Z Z Z ?_|refine Zy Za Z Z Z Z Z Z Z Z Z Z Z Z ?_)
 all_goals exact Qe
def Uw (x:RyV):List UInt8:=match ZM x with
 | true=>ZY (ZD x)
 | false=>[]
def Yr (l:List RyV):List UInt8:=(l.map Uw).flatten
theorem QJ (x:RyV):(Uw x).length<=662:=by
 unfold Uw
 cases h:ZM x with
 | true=>
  have:=Y5 h
  simp only[ZY,List.length_cons]
  omega
 | false=>simp
theorem UV {l:List RyV}{i:Nat}{x:RyV}(h:l[i]?=some x):Yr (l.take (i+1))=Yr (l.take i)++Uw x:=by
 unfold Yr
 rw[List.take_add_one,h,List.map_append,List.flatten_append]
 simp
theorem QK (l:List RyV):(Yr l).length<=662*l.length:=by
 induction l with
 | nil=>simp[Yr]
 | cons x l ih=>
  have:=QJ x
  unfold Yr at ih ⊢
  rw[List.map_cons,List.flatten_cons,List.length_append,List.length_cons]
  omega
theorem Vf (l:List RyV)(i:Nat):(Yr (l.take i)).length<=662*i:=by
 have h:=QK (l.take i)
 have:(l.take i).length<=i:=by rw[List.length_take];omega
 have:=Nat.mul_le_mul_left 662 this
 omega
end Go.Proofs.YthdgejfglbjogaaGreatDoor
end
section
open Go.RowKit Go.Pl
namespace Go.Pl
def V5 {α:Type}(P:Program)(fs:Array Field)(i o:Nat)(R:Rep α):Prop:=
 ∀(H:Type) (enc:TypeId × Value->H) (W:World) (spare:Nat->Bool) (held:Bool) (n:Nat) (cs:List Value) (xs:List (DataW H × List MemPlace)),cs.length=o+R.n->xs.length=fs.size ->
  (∀(j:Nat) (f:Field),fs[j]?=some f->DataW.trod enc P W 0 spare held n f.type ((cs.drop f.offset).take (P.cellsOf f.type))=xs[j]?)->∃ x,R.ok W (· < W.heap.size) (cs.drop o) x
variable {P:Program} {t:TypeId} {fs:Array Field}
theorem VM {α:Type}{R:Rep α}{i o:Nat}{f:Field}(hf:fs[i]?=some f)(ho:f.offset=o)(hc:P.cellsOf f.type=R.n)(h:YP P f.type R){H:Type}{enc:TypeId × Value->H}{W:World}{spare:Nat->Bool}{held:Bool}{n:Nat}{cs:List Value}{xs:List (DataW H × List MemPlace)}(hl:xs.length=fs.size)
  (hg:∀(j:Nat) (f:Field),fs[j]?=some f->DataW.trod enc P W 0 spare held n f.type ((cs.drop f.offset).take (P.cellsOf f.type))=xs[j]?):∃ x,R.ok W (· < W.heap.size) ((cs.drop o).take R.n) x:=by
 have e:=hg i f hf
 rw[ho,hc]at e
 have hi:i<xs.length:=by
  rw[hl]
  exact(Array.getElem?_eq_some_iff.1 hf).1
 exact h H enc W spare held n _ _ (e.trans (List.getElem?_eq_getElem hi))
theorem UW {α:Type}{R:Rep α}{i o:Nat}{f:Field}(hf:fs[i]?=some f)(ho:f.offset=o)(hc:P.cellsOf f.type=R.n)(h:YP P f.type R):V5 P fs i o R:=by
 intro H enc W spare held n cs xs hcl hl hg
 obtain⟨x,hx⟩:=VM hf ho hc h hl hg
 rw[List.take_of_length_le (by rw[List.length_drop];omega)]at hx
 exact⟨x,hx⟩
theorem Yi {α β:Type}{R:Rep α}{R':Rep β}{i o:Nat}{f:Field}(hf:fs[i]?=some f)(ho:f.offset=o)(hc:P.cellsOf f.type=R.n)(h:YP P f.type R)(h':V5 P fs (i+1) (o+R.n) R'):V5 P fs i o (R.prod R'):=by
 intro H enc W spare held n cs xs hcl hl hg
 obtain⟨x,hx⟩:=VM hf ho hc h hl hg
 have hn:(R.prod R').n=R.n+R'.n:=rfl
 obtain⟨x',hx'⟩:=h' H enc W spare held n cs xs (by rw[hn]at hcl;omega) hl hg
 refine⟨(x,x'),(cs.drop o).take R.n,(cs.drop o).drop R.n,(List.take_append_drop _ _).symm,hx,?_⟩
 rw[List.drop_drop]
 exact hx'
theorem V6 {α:Type}{R:Rep α}(hs:P.underlying t=some (.struct fs))(hc:P.cellsOf t=R.n)(h:V5 P fs 0 0 R):YP P t R:=by
 intro H enc W spare held fuel cs y hy
 obtain⟨xs,n,_,_,hl,hxl,hg⟩:=DataW.trod_struct hs hy
 exact h H enc W spare held n cs xs (by omega) hxl hg
end Go.Pl
end
section
open Go.RowKit Go.Pl Go.Av
namespace Go.Proofs.YthdgejfglbjogaaGreatDoor
set_option maxHeartbeats 4000000
abbrev RY:Rep (Nat × Int × Int × Int × Nat × List UInt8):=Rep.u64.prod (Rep.i64.prod (Rep.i64.prod (Rep.i64.prod (Rep.u64.prod (Rep.slice Rep.byte (by decide))))))
theorem Xz:YP Tryz.prog 29 RY:=
 V6 Tryz.underlying29 (by kernel_rfl) (Yi rfl rfl (by kernel_rfl) (Vl Tryz.underlying26) (Yi rfl rfl (by kernel_rfl) (Wv Tryz.underlying27) (Yi rfl rfl (by kernel_rfl) (Wv Tryz.underlying3) (Yi rfl rfl (by kernel_rfl) (Wv Tryz.underlying3) (Yi rfl rfl (by kernel_rfl) (Vl Tryz.underlying26) (UW rfl rfl (by kernel_rfl) (YU (R:=Rep.byte) (by decide) Tryz.underlying23 (by kernel_rfl) (WY Tryz.underlying5))))))))
abbrev XY:=Nat × Int × Int × Int × Nat × List UInt8
def XY.v (x:XY):RyV:=⟨x.1,x.2.1,x.2.2.1,x.2.2.2.1,x.2.2.2.2.1,x.2.2.2.2.2⟩
abbrev ryE (x:RyV):E:=.agg [.int .u64 (x.id:Int),.int .i64 x.err,.int .i64 x.num,.int .i64 x.cnt,.int .u64 (x.tok:Int),.sl (x.data.map E.byte)]
abbrev Vk (l:List RyV):List E:=l.map ryE
theorem X0 (l:List RyV):Uni 6 (Vk l):=Uni.map (f:=ryE) (fun _=>rfl) l
theorem XA:ToE RY (fun x=>ryE (XY.v x)):=ToE.u64.prod (ToE.i64.prod (ToE.i64.prod (ToE.i64.prod (ToE.u64.prod (ToE.byte.slice (by decide))))))
theorem X1 [Known]{W:World}{v:Value}{l:List XY}(hs:Sl RY W (· < W.heap.size) v l):V W (g0 W) [] (.sl .ext (Vk (l.map XY.v))) v:=by
 have h:=V.ofE (w:=W) (g:=g0 W) (fr:=[]) (e:=.sl (l.map fun x=>ryE (XY.v x))) (XA.sl (C:=(g0 W).C) (fun k hk o=>hk) hs)
 have e:Vk (l.map XY.v)=l.map fun x=>ryE (XY.v x):=List.map_map ..
 rw[e]
 exact h
abbrev UX (c:Nat):List Fr:=[⟨c,1,5⟩]
theorem JX [Known](x:RyV)(h:ZM x=false):AT Tryz.prog 6 [.ptr 1 0,.agg (ryC x)] (coW coN coN 0 0 []) [] (.int .i64 3) (coW coN coN 0 0 []) []:=by
 have hW:=Ye x
 unfold Yh at hW
 rw[h]at hW
 clear h
 refine Zl Tryz.func6 rfl Tryz.ntmps6 rfl rfl ?_
 repeat'(first|(apply Zd (hW);kernel_rfl;(iterate 4 exact Z))|(apply Zs Tryz.func16 Tryz.ntmps16;exact Z;exact Z;kernel_rfl;(iterate 6 exact Z))|(apply Z4;(apply Zb Za;exact Z);exact Z)|(apply Zj Za;exact Z)|(apply Zf Za;exact Z)|(apply Zr Za;exact Z)|(apply Ze;(iterate 3 exact Z);(first|with_reducible assumption|decide +kernel|(solve|simp only[bn])))|(apply Zk;exact Z;(first|with_reducible assumption|decide +kernel|(solve|simp only[bn]));exact Z;exact Z)|(apply Zg;exact Z;(first|with_reducible assumption|decide +kernel|(solve|simp only[bn])))|(apply Zc;exact Z;(first|with_reducible assumption|decide +kernel|(solve|simp only[bn]))))
 all_goals(apply ZT [0,1] [];(apply Zb Za;exact Z);(iterate 7 exact Z))
 all_goals rfl
theorem JY [Known](x:RyV)(h:ZM x=false)(K:List E):AT Tryz.prog 6 [.ptr 1 0,.agg (ryC x)] (coW coN (.sl (.own 0) K) 0 0 []) (UX K.length) (.int .i64 3) (coW coN (.sl (.own 0) K) 0 0 []) (UX K.length):=by
 have hW:=Ye x
 unfold Yh at hW
 rw[h]at hW
 clear h
 refine Zl Tryz.func6 rfl Tryz.ntmps6 rfl rfl ?_
 repeat'(first|(apply Zd (hW);kernel_rfl;(iterate 4 exact Z))|(apply Zs Tryz.func16 Tryz.ntmps16;exact Z;exact Z;kernel_rfl;(iterate 6 exact Z))|(apply Z4;(apply Zb Za;exact Z);exact Z)|(apply Zj Za;exact Z)|(apply Zf Za;exact Z)|(apply Zr Za;exact Z)|(apply Ze;(iterate 3 exact Z);(first|with_reducible assumption|decide +kernel|(solve|simp only[bn])))|(apply Zk;exact Z;(first|with_reducible assumption|decide +kernel|(solve|simp only[bn]));exact Z;exact Z)|(apply Zg;exact Z;(first|with_reducible assumption|decide +kernel|(solve|simp only[bn])))|(apply Zc;exact Z;(first|with_reducible assumption|decide +kernel|(solve|simp only[bn]))))
 all_goals(apply ZT [0,1] [0];(apply Zb Za;exact Z);(iterate 7 exact Z))
 all_goals rfl
theorem Kr [Known](x:RyV)(h:ZM x=true)(G:List E)(hG:(ZY (ZD x)).map E.byte=G):AT Tryz.prog 6 [.ptr 1 0,.agg (ryC x)] (coW coN coN 0 0 []) [] (.int .i64 0) (coW coN (.sl (.own 0) G) 0 0 []) (UX G.length):=by
 have hW:=Ye x
 have hB:=Y5 h
 have hF:=Y4 (ZD x) (by omega) (by omega)
 unfold Yh at hW
 rw[h]at hW
 clear h
 dsimp only at hW
 have hU:Uni 1 G:=hG ▸ Ym _
 have hl:G.length=(ZD x).length+2:=by rw[<- hG];simp[ZY]
 have hn:G ≠ []:=by intro e;rw[e]at hl;cases hl
 have g1:G.length<=maxLen:=by unfold maxLen;omega
 have g2:G.length*1<=140737488355328:=by omega
 replace hF:AP Tryz.prog 17 [byE (ZD x)] (.tup [.sl .ext G,.int .i64 0]) []:=hG ▸ hF
 clear hG hl
 generalize ZD x=B at *
 refine Zl Tryz.func6 rfl Tryz.ntmps6 rfl rfl ?_
 repeat'(first|(apply Zd (hW);kernel_rfl;(iterate 4 exact Z))|(apply Zd (hF);kernel_rfl;(iterate 4 exact Z))|(apply Zs Tryz.func16 Tryz.ntmps16;exact Z;exact Z;kernel_rfl;(iterate 6 exact Z))|(apply Z4;(apply Zb Za;exact Z);exact Z)|refine Yx Za Z Z Z Z Z Z hU hn g1 g2 Z Z Z ?_|(apply Zj Za;exact Z)|(apply Zf Za;exact Z)|(apply Zr Za;exact Z)|(apply Ze;(iterate 3 exact Z);(first|with_reducible assumption|decide +kernel|(solve|simp only[bn])))|(apply Zk;exact Z;(first|with_reducible assumption|decide +kernel|(solve|simp only[bn]));exact Z;exact Z)|(apply Zg;exact Z;(first|with_reducible assumption|decide +kernel|(solve|simp only[bn])))|(apply Zc;exact Z;(first|with_reducible assumption|decide +kernel|(solve|simp only[bn]))))
 all_goals(apply ZT [0,1] [0];(apply Zb Za;exact Z);(iterate 7 exact Z))
 all_goals rfl
theorem Ks [Known](x:RyV)(h:ZM x=true)(G K:List E)(hG:(ZY (ZD x)).map E.byte=G)(hUK:Uni 1 K)(hKl:K.length<=100000):AT Tryz.prog 6 [.ptr 1 0,.agg (ryC x)] (coW coN (.sl (.own 0) K) 0 0 []) (UX K.length) (.int .i64 0) (coW coN (.sl (.own 0) (K++G)) 0 0 []) (UX (K.length+G.length)):=by
 have hW:=Ye x
 have hB:=Y5 h
 have hF:=Y4 (ZD x) (by omega) (by omega)
 unfold Yh at hW
 rw[h]at hW
 clear h
 dsimp only at hW
 have hU:Uni 1 G:=hG ▸ Ym _
 have hl:G.length=(ZD x).length+2:=by rw[<- hG];simp[ZY]
 have hn:G ≠ []:=by intro e;rw[e]at hl;cases hl
 have g1:K.length+G.length<=maxLen:=by unfold maxLen;omega
 have g2:(K.length+G.length)*1<=140737488355328:=by omega
 replace hF:AP Tryz.prog 17 [byE (ZD x)] (.tup [.sl .ext G,.int .i64 0]) []:=hG ▸ hF
 clear hG hl hKl
 generalize ZD x=B at *
 refine Zl Tryz.func6 rfl Tryz.ntmps6 rfl rfl ?_
 repeat'(first|(apply Zd (hW);kernel_rfl;(iterate 4 exact Z))|(apply Zd (hF);kernel_rfl;(iterate 4 exact Z))|(apply Zs Tryz.func16 Tryz.ntmps16;exact Z;exact Z;kernel_rfl;(iterate 6 exact Z))|(apply Z4;(apply Zb Za;exact Z);exact Z)|refine ZB Za Z Z Z Z Z Z Z Z Z hUK hU hn g1 g2 Z Z ?_|(apply Zj Za;exact Z)|(apply Zf Za;exact Z)|(apply Zr Za;exact Z)|(apply Ze;(iterate 3 exact Z);(first|with_reducible assumption|decide +kernel|(solve|simp only[bn])))|(apply Zk;exact Z;(first|with_reducible assumption|decide +kernel|(solve|simp only[bn]));exact Z;exact Z)|(apply Zg;exact Z;(first|with_reducible assumption|decide +kernel|(solve|simp only[bn])))|(apply Zc;exact Z;(first|with_reducible assumption|decide +kernel|(solve|simp only[bn]))))
 all_goals(apply ZT [0,1] [0];(apply Zb Za;exact Z);(iterate 7 exact Z))
 all_goals rfl
theorem X2 [Known]:AT Tryz.prog 8 [.ptr 1 0] (coW coN coN 0 0 []) [] coN (coW coN coN 0 0 []) []:=by
 refine Zl Tryz.func8 rfl Tryz.ntmps8 rfl rfl ?_
 repeat'(first|(apply Zf Za;exact Z)|(apply Zc;exact Z;(first|with_reducible assumption|decide +kernel|(solve|simp only[bn]))))
 all_goals(apply ZT [0,1] [];(apply Zb Za;exact Z);(iterate 7 exact Z))
 all_goals rfl
theorem JZ [Known](K:List E):AT Tryz.prog 8 [.ptr 1 0] (coW coN (.sl (.own 0) K) 0 0 []) (UX K.length) (.sl (.own 0) K) (coW coN coN 0 0 []) (UX K.length):=by
 refine Zl Tryz.func8 rfl Tryz.ntmps8 rfl rfl ?_
 repeat'(first|(apply Zf Za;exact Z)|(apply Zc;exact Z;(first|with_reducible assumption|decide +kernel|(solve|simp only[bn]))))
 all_goals(apply ZT [0,1] [0];(apply Zb Za;exact Z);(iterate 7 exact Z))
 all_goals rfl
end Go.Proofs.YthdgejfglbjogaaGreatDoor
end
