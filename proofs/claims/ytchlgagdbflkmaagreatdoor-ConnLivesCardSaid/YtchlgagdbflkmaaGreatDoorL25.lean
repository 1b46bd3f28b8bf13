/- A connection: what is taken out of it, bound, answered and closed. -/
import Derived.Test.YtchlgagdbflkmaaGreatDoorL24
import Derived.Test.YtchlgagdbflkmaaGreatDoorL12
import Derived.Test.YtchlgagdbflkmaaGreatDoorL07
import Derived.Test.YtchlgagdbflkmaaGreatDoorL01
import Derived.Test.YtchlgagdbflkmaaGreatDoorL13
set_option linter.unusedVariables false
set_option linter.unusedSimpArgs false
section
open Go.RowKit Go.Pl Go.Av
namespace Go.Proofs.YtchlgagdbflkmaaGreatDoor
set_option maxHeartbeats 4000000
theorem AC.nv [Known]{P:Program}{f:FuncId}{args:List D}{x:Fr}(h:AC P f args [] [] fun r b t=>b=[]/\((r=.ret (.sl .nil [])/\t=[])\/(r=.ret (.sl (.own 0) [])/\t=[x])))(hx:x.n=0):AP P f args (.sl (.own 0) []) [x]:=by
 refine⟨fun g w vs hm hl hv=>(h.run g w vs hm hl hv).mono fun e w' ⟨g',bx',fr',r,h1,h2,h3,h4,h5⟩=>?_⟩
 subst h4
 rcases h5 with⟨rfl,rfl⟩ | ⟨rfl,rfl⟩
 ·obtain⟨v,rfl,hv⟩:=h3
  obtain⟨a1,a2⟩:=WO hv
  have a2:v=.slice none 0 0:=a2
  subst a2
  refine⟨⟨g'.C,g'.ρ,[none]⟩,[],[x],.ret (.sl (.own 0) []),⟨h1.os,h1.tape,h1.output,h1.size,h1.block,h1.C,h1.cell,h1.newC,h1.ρp,h1.ρn,fun k c hk=>by simp at hk,fun i f hf=>by simp at hf⟩,
   ⟨h2.bl,fun i k cs _ hc=>by simp at hc,h2.bC,h2.bN,rfl,fun i k c f hk=>?_,fun i j b c c' hk=>?_,fun b c hk=>by simp at hk,h2.Clt,h2.gl⟩,⟨_,rfl,.sl _ _ _ (.slE _ _ (Nat.zero_le _)) ⟨x,rfl,Nat.zero_le _,fun _=>.inl ⟨none,rfl,rfl⟩⟩⟩,rfl,rfl,rfl⟩
  ·cases i<;>simp at hk
  ·cases i<;>simp at hk
 ·exact⟨g',[],[x],_,h1,h2,h3,rfl,rfl,rfl⟩
theorem H4 {P:Program}{rs:List ResultVar}{S:St}{d':D}{ds:List D}{F:List Fr}{x:Fr}(ts:List Nat)(h:ResL P S rs ds)(ht:Vv ts S.fr.length=true)(hn:nf ((Q5 ds).ren (idx []) (idx ts))=some d')(hF:nfl (VY ts S.fr)=some F)(hd:(d'=.sl .nil []/\F=[])\/(d'=.sl (.own 0) []/\F=[x])) :
  QV P rs 0 0 (fun r b t=>b=[]/\((r=.ret (.sl .nil [])/\t=[])\/(r=.ret (.sl (.own 0) [])/\t=[x]))) .ret S:=
 ⟨ds,[],ts,h,Wi _,Wq ht,fun i h=>by omega,fun i h=>by omega,rfl,hd.imp (fun q=>⟨by rw[YZ hn,q.1],by rw[YO hF,q.2]⟩) (fun q=>⟨by rw[YZ hn,q.1],by rw[YO hF,q.2]⟩)⟩
theorem TA [Known](L:List E)(hU:Uni 19 L)(hl:L.length<=8):AP Tryz.prog 52 [.sl .ext L] (.sl (.own 0) L) [⟨L.length,19,41⟩]:=by
 have d2:L.length<=maxLen:=by unfold maxLen;omega
 have d3:L.length*240<=140737488355328:=by omega
 cases L with
 | nil=>
  refine AC.nv ?_ rfl
  refine Zp Tryz.func52 rfl Tryz.ntmps52 rfl rfl ?_
  repeat'(first|(apply Ug Zb;(iterate 5 exact Z);intro b hbn)|(apply Zl Zb;exact Z)|(apply Zj Zb;exact Z)|(apply Zt Zb;exact Z)|(apply Yq;exact Z;all_goals intro hb)|refine V1 Zb Z Z Z Z Z Z Z Z Z Z Z Z ?_|refine ZN Zb Z Z Z Z Z Z ?_)
  all_goals first|(apply H4 [];(apply Zd Zb;exact Z);(iterate 3 exact Z);exact .inl ⟨rfl,rfl⟩)|(apply H4 [0];(apply Zd Zb;exact Z);(iterate 3 exact Z);exact .inr ⟨rfl,rfl⟩)
 | cons x L=>
  have hne:x::L ≠ []:=List.cons_ne_nil _ _
  refine Zp Tryz.func52 rfl Tryz.ntmps52 rfl rfl ?_
  repeat'(first|(apply Ug Zb;(iterate 5 exact Z);intro b hbn;(have hbn2:=hbn (List.cons_ne_nil _ _));subst hbn2;clear hbn)|(apply Zl Zb;exact Z)|(apply Zj Zb;exact Z)|(apply Zt Zb;exact Z)|(apply Zg;exact Z;(first|with_reducible assumption|(solve|simp only[bn])))|refine V1 Zb Z Z Z Z Z Z Z Z Z Z Z Z ?_|(apply ZJ Zb;(iterate 6 exact Z);(first|with_reducible assumption|exact Z|rotate_left);exact Z;exact Z;(first|exact Zk rfl|with_reducible assumption|rotate_left);(first|exact Zk rfl|with_reducible assumption|rotate_left);(first|exact Qb|rotate_left);(first|exact Qb|rotate_left);(first|exact Qb|rotate_left);exact Z;exact Z))
  all_goals first|(apply Yc [] [0];(apply Zd Zb;exact Z);(iterate 7 exact Z))|skip
  all_goals first|rfl|exact hU|exact hne|(show 0+(x::L).length<=maxLen;omega)|(show(0+(x::L).length)*200<=140737488355328;omega)|exact congrArg (fun n=>[(⟨n,19,41⟩:Fr)]) (Nat.zero_add _)
abbrev GF:List D:=[.int .u64 0,.int .i64 0,.bool false,.int .u64 0,.int .u64 0,.str [],.str [],.bool false,.int .u64 0,.int .u64 0,.str [],.str [],.int .i64 0,.int .i64 0,.int .i64 0,.sl .nil [],.int .u64 0,.int .u64 0,.bool false]
theorem MC [Known](o:List E)(c oc:Nat)(s e:Int)(l:List UInt8)(br:Int):AT Tryz.prog 11 [.ptr 1 0] (cvS (cvW []) s (cvO o) e l br) (cvF c oc) (.tup [.agg GF,.bool false]) (cvS (cvW []) s (cvO o) e l br) (cvF c oc):=by
 have hW:=H3 [] o c oc s e l br
 refine Zp Tryz.func11 rfl Tryz.ntmps11 rfl rfl ?_
 repeat'(first|(apply Zm [0,1] [0,1] (hW);kernel_rfl;(iterate 10 exact Z))|(apply Zl Zb;exact Z)|(apply Zj Zb;exact Z)|(apply Zt Zb;exact Z)|(apply Zf;exact Z;(first|with_reducible assumption|decide +kernel|(solve|simp only[bn]))))
 all_goals(apply Yc [0,1] [0,1];(apply Zd Zb;exact Z);(iterate 7 exact Z))
 all_goals rfl
theorem knx [Known](x:RqV)(L o:List E)(hU:Uni 19 L)(hl:L.length<=7)(c oc:Nat)(s e:Int)(l:List UInt8)(br:Int):AT Tryz.prog 11 [.ptr 1 0] (cvS (cvW (rqE x::L)) s (cvO o) e l br) (cvF c oc) (.tup [.agg (rqC x),.bool true]) (cvS (.sl (.own 2) L) s (cvO o) e l br) (cvF c oc++[⟨L.length,19,41⟩]):=by
 have hW:=H3 (rqE x::L) o c oc s e l br
 have hC:=TA L hU (by omega)
 have hU1:Uni 19 (rqE x::L):=by
  intro e he
  rcases List.mem_cons.1 he with rfl|he
  ·rfl
  ·exact hU e he
 have d1:(((rqE x::L).length:Int)==0)=false:=by simp;omega
 obtain⟨id,kd,⟨ei,en,es,eh,ed⟩,⟨di,dn,dq,dh,dd⟩,pol,num,tik,pay,life,tok,on⟩:=x
 refine Zp Tryz.func11 rfl Tryz.ntmps11 rfl rfl ?_
 repeat'(first|(apply Zm [0,1] [0,1] (hW);kernel_rfl;(iterate 10 exact Z))|(apply Zm [] [] (hC);kernel_rfl;(iterate 10 exact Z))|(apply KP Zb;(iterate 6 exact Z);exact hU1;exact(by decide);(simp only[List.length_cons];omega);exact Z)|(apply Zl Zb;exact Z)|(apply Zj Zb;exact Z)|(apply Zt Zb;exact Z)|(apply Zg;exact Z;(first|with_reducible assumption|decide +kernel|(solve|simp only[bn])))|(apply ZF Zb;(iterate 6 exact Z);(first|exact Qt|rotate_left);(first|with_reducible assumption|decide +kernel|exact Z);(first|exact Zk rfl|with_reducible assumption|decide +kernel|rotate_left)))
 all_goals(apply Yc [0,1] [0,1,2];(apply Zd Zb;exact Z);(iterate 7 exact Z))
 all_goals rfl
theorem kcX [Known](e n:Nat)(he:e ≠ 0)(L o:List E)(c oc:Nat)(s:Int)(l:List UInt8)(br:Int):AT Tryz.prog 21 [.ptr 1 0,.int .i64 (n:Int)] (cvS (cvW L) s (cvO o) (e:Int) l br) (cvF c oc) (.tup []) (cvS (cvW L) s (cvO o) (e:Int) l br) (cvF c oc):=by
 have hC:=kcl L o c oc s (e:Int) l br
 have d1:((e:Int) != 0)=true:=by simp;omega
 refine Zp Tryz.func21 rfl Tryz.ntmps21 rfl rfl ?_
 repeat'(first|(apply Zm [0,1] [0,1] (hC);kernel_rfl;(iterate 10 exact Z))|(apply Zl Zb;exact Z)|(apply Zj Zb;exact Z)|(apply Zt Zb;exact Z)|(apply Zf;exact Z;(first|with_reducible assumption|decide +kernel|(solve|simp only[bn]))))
 all_goals(apply Vh [0,1] [0,1];(apply Zd Zb;exact Z);(iterate 7 exact Z))
 all_goals rfl
theorem kc0 [Known](L o:List E)(c oc:Nat)(s:Int)(l:List UInt8)(br:Int):AT Tryz.prog 21 [.ptr 1 0,.int .i64 0] (cvS (cvW L) s (cvO o) 0 l br) (cvF c oc) (.tup []) (cvS cvN s (cvO o) 16 l br) (cvF c oc):=by
 have hC:=kcl L o c oc s 0 l br
 refine Zp Tryz.func21 rfl Tryz.ntmps21 rfl rfl ?_
 repeat'(first|(apply Zm [0,1] [0,1] (hC);kernel_rfl;(iterate 10 exact Z))|(apply Zl Zb;exact Z)|(apply Zj Zb;exact Z)|(apply Zt Zb;exact Z)|(apply Zf;exact Z;(first|with_reducible assumption|decide +kernel|(solve|simp only[bn])))|(apply Zg;exact Z;(first|with_reducible assumption|decide +kernel|(solve|simp only[bn]))))
 all_goals(apply Vh [0,1] [0,1];(apply Zd Zb;exact Z);(iterate 7 exact Z))
 all_goals rfl
theorem MD [Known](n s:Int)(e:Nat)(L o:List E)(c oc:Nat)(l:List UInt8)(br:Int):AT Tryz.prog 15 [.ptr 1 0,.int .i64 n] (cvS (cvW L) s (cvO o) (e:Int) l br) (cvF c oc) (.int .i64 (ON n s e).1) (cvS (cvW L) (ON n s e).2 (cvO o) (e:Int) l br) (cvF c oc):=by
 unfold ON
 by_cases h1:n<1
 ·have d1:decide (n<1)=true:=decide_eq_true h1
  rw[if_pos (.inl h1)]
  refine Zp Tryz.func15 rfl Tryz.ntmps15 rfl rfl ?_
  repeat'(first|(apply Zr Tryz.func54 Tryz.ntmps54;exact Z;exact Z;kernel_rfl;(iterate 6 exact Z))|(apply Z4;(apply Zd Zb;exact Z);exact Z)|(apply Zl Zb;exact Z)|(apply Zj Zb;exact Z)|(apply Zt Zb;exact Z)|(apply Zi;(iterate 3 exact Z);(first|with_reducible assumption|decide +kernel|(solve|simp only[bn])))|(apply Zq;(iterate 3 exact Z);(first|with_reducible assumption|decide +kernel|(solve|simp only[bn])))|(apply Zo;exact Z;(first|with_reducible assumption|decide +kernel|(solve|simp only[bn]));exact Z;exact Z)|(apply Zf;exact Z;(first|with_reducible assumption|decide +kernel|(solve|simp only[bn])))|(apply Zg;exact Z;(first|with_reducible assumption|decide +kernel|(solve|simp only[bn]))))
  all_goals(apply Yc [0,1] [0,1];(apply Zd Zb;exact Z);(iterate 7 exact Z))
  all_goals rfl
 have d1:decide (n<1)=false:=decide_eq_false h1
 by_cases h2:n>1099511627776
 ·have d2:decide (n>1099511627776)=true:=decide_eq_true h2
  rw[if_pos (.inr h2)]
  refine Zp Tryz.func15 rfl Tryz.ntmps15 rfl rfl ?_
  repeat'(first|(apply Zr Tryz.func54 Tryz.ntmps54;exact Z;exact Z;kernel_rfl;(iterate 6 exact Z))|(apply Z4;(apply Zd Zb;exact Z);exact Z)|(apply Zl Zb;exact Z)|(apply Zj Zb;exact Z)|(apply Zt Zb;exact Z)|(apply Zi;(iterate 3 exact Z);(first|with_reducible assumption|decide +kernel|(solve|simp only[bn])))|(apply Zo;exact Z;(first|with_reducible assumption|decide +kernel|(solve|simp only[bn]));exact Z;exact Z)|(apply Zn;exact Z;(first|with_reducible assumption|decide +kernel|(solve|simp only[bn]));exact Z;exact Z)|(apply Zf;exact Z;(first|with_reducible assumption|decide +kernel|(solve|simp only[bn])))|(apply Zg;exact Z;(first|with_reducible assumption|decide +kernel|(solve|simp only[bn]))))
  all_goals(apply Yc [0,1] [0,1];(apply Zd Zb;exact Z);(iterate 7 exact Z))
  all_goals rfl
 have d2:decide (n>1099511627776)=false:=decide_eq_false h2
 rw[if_neg (by omega)]
 by_cases h3:s>0
 ·have d3:decide (s>0)=true:=decide_eq_true h3
  rw[if_pos (.inl h3)]
  refine Zp Tryz.func15 rfl Tryz.ntmps15 rfl rfl ?_
  repeat'(first|(apply Zr Tryz.func54 Tryz.ntmps54;exact Z;exact Z;kernel_rfl;(iterate 6 exact Z))|(apply Z4;(apply Zd Zb;exact Z);exact Z)|(apply Zl Zb;exact Z)|(apply Zj Zb;exact Z)|(apply Zt Zb;exact Z)|(apply Zi;(iterate 3 exact Z);(first|with_reducible assumption|decide +kernel|(solve|simp only[bn])))|(apply Zq;(iterate 3 exact Z);(first|with_reducible assumption|decide +kernel|(solve|simp only[bn])))|(apply Zo;exact Z;(first|with_reducible assumption|decide +kernel|(solve|simp only[bn]));exact Z;exact Z)|(apply Zn;exact Z;(first|with_reducible assumption|decide +kernel|(solve|simp only[bn]));exact Z;exact Z)|(apply Zf;exact Z;(first|with_reducible assumption|decide +kernel|(solve|simp only[bn])))|(apply Zg;exact Z;(first|with_reducible assumption|decide +kernel|(solve|simp only[bn]))))
  all_goals(apply Yc [0,1] [0,1];(apply Zd Zb;exact Z);(iterate 7 exact Z))
  all_goals rfl
 have d3:decide (s>0)=false:=decide_eq_false h3
 by_cases h4:e=0
 ·subst h4
  have d4:(((0:Nat):Int) != 0)=false:=rfl
  rw[if_neg (by omega)]
  refine Zp Tryz.func15 rfl Tryz.ntmps15 rfl rfl ?_
  repeat'(first|(apply Zr Tryz.func54 Tryz.ntmps54;exact Z;exact Z;kernel_rfl;(iterate 6 exact Z))|(apply Z4;(apply Zd Zb;exact Z);exact Z)|(apply Zl Zb;exact Z)|(apply Zj Zb;exact Z)|(apply Zt Zb;exact Z)|(apply Zi;(iterate 3 exact Z);(first|with_reducible assumption|decide +kernel|(solve|simp only[bn])))|(apply Zo;exact Z;(first|with_reducible assumption|decide +kernel|(solve|simp only[bn]));exact Z;exact Z)|(apply Zn;exact Z;(first|with_reducible assumption|decide +kernel|(solve|simp only[bn]));exact Z;exact Z)|(apply Zg;exact Z;(first|with_reducible assumption|decide +kernel|(solve|simp only[bn]))))
  all_goals(apply Yc [0,1] [0,1];(apply Zd Zb;exact Z);(iterate 7 exact Z))
  all_goals rfl
 ·have d4:((e:Int) != 0)=true:=by simp;omega
  rw[if_pos (.inr h4)]
  refine Zp Tryz.func15 rfl Tryz.ntmps15 rfl rfl ?_
  repeat'(first|(apply Zr Tryz.func54 Tryz.ntmps54;exact Z;exact Z;kernel_rfl;(iterate 6 exact Z))|(apply Z4;(apply Zd Zb;exact Z);exact Z)|(apply Zl Zb;exact Z)|(apply Zj Zb;exact Z)|(apply Zt Zb;exact Z)|(apply Zi;(iterate 3 exact Z);(first|with_reducible assumption|decide +kernel|(solve|simp only[bn])))|(apply Zo;exact Z;(first|with_reducible assumption|decide +kernel|(solve|simp only[bn]));exact Z;exact Z)|(apply Zn;exact Z;(first|with_reducible assumption|decide +kernel|(solve|simp only[bn]));exact Z;exact Z)|(apply Zf;exact Z;(first|with_reducible assumption|decide +kernel|(solve|simp only[bn])))|(apply Zg;exact Z;(first|with_reducible assumption|decide +kernel|(solve|simp only[bn]))))
  all_goals(apply Yc [0,1] [0,1];(apply Zd Zb;exact Z);(iterate 7 exact Z))
  all_goals rfl
theorem Ny [Known](x:RyV)(h:Y5 x=false)(L o:List E)(c oc:Nat)(s e:Int)(l:List UInt8)(br:Int):AT Tryz.prog 17 [.ptr 1 0,.agg (ryC x)] (cvS (cvW L) s (cvO o) e l br) (cvF c oc) (.int .i64 3) (cvS (cvW L) s (cvO o) e l br) (cvF c oc):=by
 have hW:=QX x
 unfold Qw at hW
 rw[h]at hW
 clear h
 refine Zp Tryz.func17 rfl Tryz.ntmps17 rfl rfl ?_
 repeat'(first|(apply Zc (hW);kernel_rfl;(iterate 4 exact Z))|(apply Zr Tryz.func54 Tryz.ntmps54;exact Z;exact Z;kernel_rfl;(iterate 6 exact Z))|(apply Z4;(apply Zd Zb;exact Z);exact Z)|(apply Zl Zb;exact Z)|(apply Zj Zb;exact Z)|(apply Zt Zb;exact Z)|(apply Zi;(iterate 3 exact Z);(first|with_reducible assumption|decide +kernel|(solve|simp only[bn])))|(apply Zo;exact Z;(first|with_reducible assumption|decide +kernel|(solve|simp only[bn]));exact Z;exact Z)|(apply Zf;exact Z;(first|with_reducible assumption|decide +kernel|(solve|simp only[bn])))|(apply Zg;exact Z;(first|with_reducible assumption|decide +kernel|(solve|simp only[bn]))))
 all_goals(apply Yc [0,1] [0,1];(apply Zd Zb;exact Z);(iterate 7 exact Z))
 all_goals rfl
theorem Nz [Known](x:RyV)(h:Y5 x=true)(G L o:List E)(hG:(UY (Vw x)).map E.byte=G)(hU0:Uni 1 o)(hol:o.length<=100000)(c oc:Nat)(hoc:oc=o.length)(s e:Int)(l:List UInt8)(br:Int):AT Tryz.prog 17 [.ptr 1 0,.agg (ryC x)] (cvS (cvW L) s (cvO o) e l br) (cvF c oc) (.int .i64 0) (cvS (cvW L) s (cvO (o++G)) e l br) (cvF c (o.length+G.length)):=by
 have hW:=QX x
 have hB:=Jq h
 have hF:=XW (Vw x) (by omega) (by omega)
 unfold Qw at hW
 rw[h]at hW
 clear h
 dsimp only at hW
 have hU:Uni 1 G:=hG ▸ YD _
 have hl:G.length=(Vw x).length+2:=by rw[<- hG];simp[UY]
 have hn:G ≠ []:=by intro e;rw[e]at hl;cases hl
 have g1:o.length+G.length<=maxLen:=by unfold maxLen;omega
 have g2:(o.length+G.length)*1<=140737488355328:=by omega
 replace hF:AP Tryz.prog 56 [byE (Vw x)] (.tup [.sl .ext G,.int .i64 0]) []:=hG ▸ hF
 clear hG hl hol
 generalize Vw x=B at *
 refine Zp Tryz.func17 rfl Tryz.ntmps17 rfl rfl ?_
 repeat'(first|(apply Zc (hW);kernel_rfl;(iterate 4 exact Z))|(apply Zc (hF);kernel_rfl;(iterate 4 exact Z))|(apply Zr Tryz.func54 Tryz.ntmps54;exact Z;exact Z;kernel_rfl;(iterate 6 exact Z))|(apply Z4;(apply Zd Zb;exact Z);exact Z)|refine ZJ Zb Z Z Z Z Z Z hoc Z Z hU0 hU hn g1 g2 Z Z ?_|(apply Zl Zb;exact Z)|(apply Zj Zb;exact Z)|(apply Zt Zb;exact Z)|(apply Zi;(iterate 3 exact Z);(first|with_reducible assumption|decide +kernel|(solve|simp only[bn])))|(apply Zo;exact Z;(first|with_reducible assumption|decide +kernel|(solve|simp only[bn]));exact Z;exact Z)|(apply Zf;exact Z;(first|with_reducible assumption|decide +kernel|(solve|simp only[bn])))|(apply Zg;exact Z;(first|with_reducible assumption|decide +kernel|(solve|simp only[bn]))))
 all_goals(apply Yc [0,1] [0,1];(apply Zd Zb;exact Z);(iterate 7 exact Z))
 all_goals rfl
theorem ME [Known](L o:List E)(c oc:Nat)(s e:Int)(l:List UInt8)(br:Int):AT Tryz.prog 20 [.ptr 1 0] (cvS (cvW L) s (cvO o) e l br) (cvF c oc) (cvO o) (cvS (cvW L) s cvN e l br) (cvF c oc):=by
 refine Zp Tryz.func20 rfl Tryz.ntmps20 rfl rfl ?_
 repeat'(first|(apply Zj Zb;exact Z)|(apply Zg;exact Z;(first|with_reducible assumption|decide +kernel|(solve|simp only[bn]))))
 all_goals(apply Yc [0,1] [0,1];(apply Zd Zb;exact Z);(iterate 7 exact Z))
 all_goals rfl
theorem K6 {x:EidV}(hi:x.i=true):ZY x=true ↔ x.h=[]/\x.d=[]/\1<=(x.n:Int)/\(x.n:Int)<=4294967295/\(x.s:Int)<=4294967295:=by
 have hz:isZ x=false:=by simp[isZ,hi]
 rw[Xc hz hi]
 simp[hi,and_assoc]
theorem GG {x:EidV}(hi:x.i=false):isZ x=true ↔ (x.n:Int)=0/\(x.s:Int)=0/\x.h=[]/\x.d=[]:=by
 simp[isZ,hi]
theorem K7 {x:EidV}(hi:x.i=false)(hz:isZ x=false):ZY x=true ↔ (x.n:Int)=0/\(x.s:Int)=0/\(x.h.length:Int) ≥ 1/\(x.h.length:Int)<=16/\(x.d.length:Int)<=24/\x.h.all (okB 45)=true/\x.d.all (okB 47)=true:=by
 rw[Xd hz hi]
 simp only[Bool.and_eq_true,beq_iff_eq,decide_eq_true_eq,and_true,true_and,and_assoc,hi,beq_self_eq_true]
def W5 (x:EidV):Int:=if x.i then(if ZY x then 1 else -1) else if isZ x then 0 else if ZY x then 2 else -1
theorem Qc (x:EidV):decide (W5 x<1)=(!(ZY x)||isZ x):=by
 unfold W5
 cases hi:x.i with
 | true=>
  have hz:isZ x=false:=by simp[isZ,hi]
  rw[hz];cases ZY x<;>rfl
 | false=>
  cases hz:isZ x with
  | true=>rw[KN hz];rfl
  | false=>cases ZY x<;>rfl
theorem JM [Known](s:List UInt8)(b:Bool)(m:Nat)(hm:m=if b then 47 else 45)(hs:s.length<=9223372036854775807):AP Tryz.prog 127 [.str s,.bool b] (.bool (s.all (okB m))) []:=by
 refine AP.ofA (Zp Tryz.func127 Z Tryz.ntmps127 Z Z ?_)
 repeat'(first|(apply Zj Zb;exact Z))
 refine Yr (fun k tm bx fr=>∃ i,k+i=s.length/\(∀ c ∈ s.take i,okB m c=true)/\tm=[(0,.str s),(1,.bool b),(5,.int .i64 (i:Int))]/\bx=[]/\fr=[]) (s.length+1) (Lands.mk' (m:=s.length) (Nat.lt_succ_self _) ⟨0,rfl,by simp,rfl,rfl,rfl⟩ ?_ rfl rfl rfl rfl rfl rfl) ?_
 ·exact .cons rfl (.cons rfl (.cons rfl .nil))
 rintro k tm bx fr ⟨i,hk,hall,rfl,rfl,rfl⟩
 rcases Nat.lt_or_ge i s.length with hlt|hge
 ·have hd:decide ((i:Int)<(s.length:Int))=true:=by simp;omega
  obtain⟨c,hc⟩:∃ c,s[i]?=some c:=⟨_,List.getElem?_eq_getElem hlt⟩
  have hv:s[((i:Nat):Int).toNat]?=some c:=by simpa using hc
  have ei:IntKind.i64.wrap ((i:Int)+1)=((i+1:Nat):Int):=by rw[IntWalk.i64_in _ (by omega)];omega
  have hstep:okB m c=true->∀ x ∈ s.take (i+1),okB m x=true:=fun h x hx=>by
   rw[List.take_add_one,hc]at hx
   rcases List.mem_append.1 hx with hx|hx
   ·exact hall x hx
   ·simp at hx;subst hx;exact h
  have hbad:¬ okB m c=true->s.all (okB m)=false:=fun h=>List.all_eq_false.2 ⟨c,List.mem_of_getElem? hc,h⟩
  cases b with
  | false=>
   have hm':m=45:=hm
   subst hm'
   repeat'(first|rw[ei]|refine Yo Zb Z Z Z Z Z (Int.natCast_nonneg _) hv ?_|(apply Zl Zb;exact Z)|(apply Zj Zb;exact Z)|(apply Zt Zb;exact Z)|(apply Zi;(iterate 3 exact Z);(first|with_reducible assumption|(solve|simp only[bn])))|(apply Zs;(iterate 3 exact Z);(first|with_reducible assumption|(solve|simp only[bn])))|(apply Zq;(iterate 3 exact Z);(first|with_reducible assumption|(solve|simp only[bn])))|refine Yh Z Z Z ?_|(apply ZZ;exact Z;exact Z;all_goals intro hb)|(apply Zo;exact Z;(first|with_reducible assumption|(solve|simp only[bn]));exact Z;exact Z)|(apply Zn;exact Z;(first|with_reducible assumption|(solve|simp only[bn]));exact Z;exact Z)|(apply Zf;exact Z;(first|with_reducible assumption|(solve|simp only[bn])))|(apply Zg;exact Z;(first|with_reducible assumption|(solve|simp only[bn])))|refine Yu ?_|refine ZG Zb Z Z Z Z ?_)
   all_goals first
    | (refine Lands.mk' (m:=k-1) (by omega) ⟨i+1,by omega,hstep ?_,rfl,rfl,rfl⟩ ?_ rfl rfl rfl rfl rfl rfl
       ·rw[V2]
        clear hstep hbad hall
        simp only[decide_eq_true_eq,decide_eq_false_iff_not,beq_iff_eq,beq_eq_false_iff_ne,ne_eq,Bool.not_eq_false',Bool.not_eq_true']at *
        omega
       ·exact .cons rfl (.cons rfl (.cons rfl .nil)))
    | ((apply Zw [];(apply Zd Zb;exact Z);(iterate 4 exact Z))
       ·rw[hbad (fun h=>by
          rw[V2]at h
          clear hstep hbad hall
          simp only[decide_eq_true_eq,decide_eq_false_iff_not,beq_iff_eq,beq_eq_false_iff_ne,ne_eq,Bool.not_eq_false',Bool.not_eq_true']at *
          omega)]
       ·rfl)
  | true=>
   have hm':m=47:=hm
   subst hm'
   repeat'(first|rw[ei]|refine Yo Zb Z Z Z Z Z (Int.natCast_nonneg _) hv ?_|(apply Zl Zb;exact Z)|(apply Zj Zb;exact Z)|(apply Zt Zb;exact Z)|(apply Zi;(iterate 3 exact Z);(first|with_reducible assumption|(solve|simp only[bn])))|(apply Zs;(iterate 3 exact Z);(first|with_reducible assumption|(solve|simp only[bn])))|(apply Zq;(iterate 3 exact Z);(first|with_reducible assumption|(solve|simp only[bn])))|refine Yh Z Z Z ?_|(apply ZZ;exact Z;exact Z;all_goals intro hb)|(apply Zo;exact Z;(first|with_reducible assumption|(solve|simp only[bn]));exact Z;exact Z)|(apply Zn;exact Z;(first|with_reducible assumption|(solve|simp only[bn]));exact Z;exact Z)|(apply Zf;exact Z;(first|with_reducible assumption|(solve|simp only[bn])))|(apply Zg;exact Z;(first|with_reducible assumption|(solve|simp only[bn])))|(apply Yq;exact Z;all_goals intro hb)|refine Yu ?_|refine ZG Zb Z Z Z Z ?_)
   all_goals first
    | (refine Lands.mk' (m:=k-1) (by omega) ⟨i+1,by omega,hstep ?_,rfl,rfl,rfl⟩ ?_ rfl rfl rfl rfl rfl rfl
       ·rw[V2]
        clear hstep hbad hall
        simp only[decide_eq_true_eq,decide_eq_false_iff_not,beq_iff_eq,beq_eq_false_iff_ne,ne_eq,Bool.not_eq_false',Bool.not_eq_true']at *
        omega
       ·exact .cons rfl (.cons rfl (.cons rfl .nil)))
    | ((apply Zw [];(apply Zd Zb;exact Z);(iterate 4 exact Z))
       ·rw[hbad (fun h=>by
          rw[V2]at h
          clear hstep hbad hall
          simp only[decide_eq_true_eq,decide_eq_false_iff_not,beq_iff_eq,beq_eq_false_iff_ne,ne_eq,Bool.not_eq_false',Bool.not_eq_true']at *
          omega)]
       ·rfl)
 ·have hd:decide ((i:Int)<(s.length:Int))=false:=by simp;omega
  repeat'(first|(apply Zl Zb;exact Z)|(apply Zj Zb;exact Z)|(apply Zt Zb;exact Z)|(apply Zg;exact Z;(first|with_reducible assumption|(solve|simp only[bn])))|refine ZG Zb Z Z Z Z ?_)
  (apply Zw [];(apply Zd Zb;exact Z);(iterate 4 exact Z))
  ·rw[List.take_of_length_le hge]at hall
   rw[List.all_eq_true.2 hall]
  ·rfl
def Fit (x:EidV):Prop:=x.h.length<=9223372036854775807/\x.d.length<=9223372036854775807
theorem Qf [Known](x:EidV)(hx:Fit x):AP Tryz.prog 112 [.agg (eC x)] (.int .i64 (W5 x)) []:=by
 refine AP.ofA (Zp Tryz.func112 Z Tryz.ntmps112 Z Z ?_)
 cases hi:x.i with
 | true=>
  have hE:=K6 hi
  repeat'(first|(apply Zl Zb;exact Z)|(apply Zj Zb;exact Z)|(apply Zt Zb;exact Z)|(apply Zi;(iterate 3 exact Z);(first|with_reducible assumption|(solve|simp only[bn])))|(apply Zq;(iterate 3 exact Z);(first|with_reducible assumption|(solve|simp only[bn])))|(apply ZZ;exact Z;exact Z;all_goals intro hb)|(apply Zo;exact Z;(first|with_reducible assumption|(solve|simp only[bn]));exact Z;exact Z)|(apply Zn;exact Z;(first|with_reducible assumption|(solve|simp only[bn]));exact Z;exact Z)|(apply Zf;exact Z;(first|with_reducible assumption|(solve|simp only[bn])))|(apply Yq;exact Z;all_goals intro hb))
  all_goals(apply Zw [];(apply Zd Zb;exact Z);(iterate 4 exact Z))
  all_goals first
   | rfl
   | (unfold W5
      rw[hi]
      simp only[if_true]
      simp only[decide_eq_true_eq,decide_eq_false_iff_not,beq_iff_eq,beq_eq_false_iff_ne,ne_eq,bne_iff_ne,bne_eq_false_iff_eq,Bool.not_eq_false',Bool.not_eq_true']at *
      split
      ·first
         | rfl
         | (exfalso;rename_i h;obtain⟨h1,h2,h3,h4,h5⟩:=hE.1 h;first|contradiction|omega)
      ·first
         | rfl
         | (exfalso;rename_i h;exact h (hE.2 ⟨by assumption,by assumption,by omega,by omega,by omega⟩)))
 | false=>
  have hZ:=GG hi
  have hE:=fun hz=>K7 (x:=x) hi hz
  repeat'(first|(apply Zc (JM x.h false 45 rfl hx.1);kernel_rfl;(iterate 4 exact Z))|(apply Zc (JM x.d true 47 rfl hx.2);kernel_rfl;(iterate 4 exact Z))|(apply Zl Zb;exact Z)|(apply Zj Zb;exact Z)|(apply Zt Zb;exact Z)|(apply Zi;(iterate 3 exact Z);(first|with_reducible assumption|(solve|simp only[bn])))|(apply Zs;(iterate 3 exact Z);(first|with_reducible assumption|(solve|simp only[bn])))|(apply Zq;(iterate 3 exact Z);(first|with_reducible assumption|(solve|simp only[bn])))|(apply ZZ;exact Z;exact Z;all_goals intro hb)|(apply Zo;exact Z;(first|with_reducible assumption|(solve|simp only[bn]));exact Z;exact Z)|(apply Zn;exact Z;(first|with_reducible assumption|(solve|simp only[bn]));exact Z;exact Z)|(apply Zf;exact Z;(first|with_reducible assumption|(solve|simp only[bn])))|(apply Zg;exact Z;(first|with_reducible assumption|(solve|simp only[bn])))|(apply Yq;exact Z;all_goals intro hb)|refine ZG Zb Z Z Z Z ?_)
  all_goals(apply Zw [];(apply Zd Zb;exact Z);(iterate 4 exact Z))
  all_goals first
   | rfl
   | (unfold W5
      rw[hi]
      simp only[Bool.false_eq_true,if_false]
      simp only[decide_eq_true_eq,decide_eq_false_iff_not,beq_iff_eq,beq_eq_false_iff_ne,ne_eq,bne_iff_ne,bne_eq_false_iff_eq,Bool.not_eq_false',Bool.not_eq_true']at *
      split
      ·first
         | rfl
         | (exfalso;rename_i h;obtain⟨h1,h2,h3,h4⟩:=hZ.1 h;first|contradiction|omega)
      ·rename_i hz
       have hz':isZ x=false:=by simpa using hz
       split
       ·first
          | rfl
          | (exfalso;rename_i h;obtain⟨h1,h2,h3,h4,h5,h6,h7⟩:=(hE hz').1 h;first|contradiction|omega|(simp_all;done))
       ·first
          | rfl
          | (exfalso;rename_i h;exact h ((hE hz').2 ⟨by omega,by omega,by omega,by omega,by omega,by assumption,by assumption⟩))
          | (exfalso;exact hz (hZ.2 ⟨by assumption,by assumption,by assumption,by assumption⟩)))
theorem GH [Known](x:EidV):AP Tryz.prog 53 [.agg (eC x)] (.agg (eC x)) []:=by
 refine AP.ofA (Zp Tryz.func53 Z Tryz.ntmps53 Z Z ?_)
 repeat'(first|(apply Zj Zb;exact Z))
 (apply Zw [];(apply Zd Zb;exact Z);(iterate 4 exact Z))
 all_goals rfl
theorem X5 [Known](a b:RqV):AP Tryz.prog 13 [.agg (rqC a),.agg (rqC b)] (.bool (VF a b)) []:=by
 unfold VF eqE
 refine AP.ofA (Zp Tryz.func13 Z Tryz.ntmps13 Z Z ?_)
 repeat'(first|refine Z0 Zb Z Z Z Z Z Z Z Z Z ?_|(apply Zl Zb;exact Z)|(apply Zj Zb;exact Z)|(apply Zi;(iterate 3 exact Z);(first|with_reducible assumption|(solve|simp only[bn])))|(apply Zs;(iterate 3 exact Z);(first|with_reducible assumption|(solve|simp only[bn])))|(apply ZZ;exact Z;exact Z;all_goals intro hb)|(apply Zo;exact Z;(first|with_reducible assumption|(solve|simp only[bn]));exact Z;exact Z)|(apply Zn;exact Z;(first|with_reducible assumption|(solve|simp only[bn]));exact Z;exact Z)|refine We Zb Z Z Z Z Qk Qk Z Z Z ?_|refine Z0 Zb Z Z Z Z Z Z Z Z Z ?_)
 all_goals(apply Zw [];(apply Zd Zb;exact Z);(iterate 4 exact Z))
 all_goals first|rfl|(simp only[*,Bool.true_and,Bool.false_and];done)
theorem Ig [Known](x:RqV):AP Tryz.prog 14 [.agg (rqC x)] (.agg (rqC x)) []:=by
 have h1:=GH x.ep
 have h2:=GH x.ds
 obtain⟨id,kd,⟨ei,en,es,eh,ed⟩,⟨di,dn,dq,dh,dd⟩,pol,num,tik,pay,life,tok,on⟩:=x
 show AP Tryz.prog _ [.agg [.int .u64 (id:Int),.int .i64 kd,.bool ei,.int .u64 (en:Int),.int .u64 (es:Int),.str eh,.str ed,.bool di,.int .u64 (dn:Int),.int .u64 (dq:Int),.str dh,.str dd,.int .i64 pol,.int .i64 num,.int .i64 tik,.sl .ext (pay.map E.byte),.int .u64 (life:Int),.int .u64 (tok:Int),.bool on]] _ []
 refine AP.ofA (Zp Tryz.func14 Z Tryz.ntmps14 Z Z ?_)
 repeat'(first|(apply Zc (h1);kernel_rfl;(iterate 4 exact Z))|(apply Zc (h2);kernel_rfl;(iterate 4 exact Z))|(apply Zl Zb;exact Z)|(apply Zj Zb;exact Z)|(apply Za 24 Ze;decide +kernel;kernel_rfl;kernel_rfl;kernel_rfl;exact Z;exact Z)|(apply Zv;(iterate 4 exact Z))|exact AE.nil _ _ _ _|(apply ZB;exact Z)|(apply ZD;exact Z;exact Z;decide +kernel;exact Z)|(apply ZE;exact Z)|exact AO.nil _ _ _|(apply Zu;(decide +kernel))|exact AOs.nil|exact ZR rfl rfl)
 all_goals exact Qe
end Go.Proofs.YtchlgagdbflkmaaGreatDoor
end
section
open Go.RowKit Go.Pl
namespace Go.Av
def Ih:Code->Bool
 | .loop _=>true
 | .seq a b=>Ih a||Ih b
 | .block _ c=>Ih c
 | _=>false
def WJ:Code->Code
 | .loop c=>c
 | .seq a b=>match Ih a with
  | true=>WJ a
  | false=>WJ b
 | .block _ c=>WJ c
 | c=>c
end Go.Av
end
section
open Go.RowKit Go.Pl
namespace Go.Pl
def Kt {α:Type}(P:Program)(fs:Array Field)(i o:Nat)(R:Rep α):Prop:=
 ∀(H:Type) (enc:TypeId × Value->H) (W:World) (spare:Nat->Bool) (held:Bool) (n:Nat) (cs:List Value) (xs:List (DataW H × List MemPlace)),cs.length=o+R.n->xs.length=fs.size ->
  (∀(j:Nat) (f:Field),fs[j]?=some f->DataW.trod enc P W 0 spare held n f.type ((cs.drop f.offset).take (P.cellsOf f.type))=xs[j]?)->∃ x,R.ok W (· < W.heap.size) (cs.drop o) x
variable {P:Program} {t:TypeId} {fs:Array Field}
theorem X6 {α:Type}{R:Rep α}{i o:Nat}{f:Field}(hf:fs[i]?=some f)(ho:f.offset=o)(hc:P.cellsOf f.type=R.n)(h:Uq P f.type R){H:Type}{enc:TypeId × Value->H}{W:World}{spare:Nat->Bool}{held:Bool}{n:Nat}{cs:List Value}{xs:List (DataW H × List MemPlace)}(hl:xs.length=fs.size)
  (hg:∀(j:Nat) (f:Field),fs[j]?=some f->DataW.trod enc P W 0 spare held n f.type ((cs.drop f.offset).take (P.cellsOf f.type))=xs[j]?):∃ x,R.ok W (· < W.heap.size) ((cs.drop o).take R.n) x:=by
 have e:=hg i f hf
 rw[ho,hc]at e
 have hi:i<xs.length:=by
  rw[hl]
  exact(Array.getElem?_eq_some_iff.1 hf).1
 exact h H enc W spare held n _ _ (e.trans (List.getElem?_eq_getElem hi))
theorem Xv {α:Type}{R:Rep α}{i o:Nat}{f:Field}(hf:fs[i]?=some f)(ho:f.offset=o)(hc:P.cellsOf f.type=R.n)(h:Uq P f.type R):Kt P fs i o R:=by
 intro H enc W spare held n cs xs hcl hl hg
 obtain⟨x,hx⟩:=X6 hf ho hc h hl hg
 rw[List.take_of_length_le (by rw[List.length_drop];omega)]at hx
 exact⟨x,hx⟩
theorem Wx {α β:Type}{R:Rep α}{R':Rep β}{i o:Nat}{f:Field}(hf:fs[i]?=some f)(ho:f.offset=o)(hc:P.cellsOf f.type=R.n)(h:Uq P f.type R)(h':Kt P fs (i+1) (o+R.n) R'):Kt P fs i o (R.prod R'):=by
 intro H enc W spare held n cs xs hcl hl hg
 obtain⟨x,hx⟩:=X6 hf ho hc h hl hg
 have hn:(R.prod R').n=R.n+R'.n:=rfl
 obtain⟨x',hx'⟩:=h' H enc W spare held n cs xs (by rw[hn]at hcl;omega) hl hg
 refine⟨(x,x'),(cs.drop o).take R.n,(cs.drop o).drop R.n,(List.take_append_drop _ _).symm,hx,?_⟩
 rw[List.drop_drop]
 exact hx'
theorem Jg {α:Type}{R:Rep α}(hs:P.underlying t=some (.struct fs))(hc:P.cellsOf t=R.n)(h:Kt P fs 0 0 R):Uq P t R:=by
 intro H enc W spare held fuel cs y hy
 obtain⟨xs,n,_,_,hl,hxl,hg⟩:=DataW.trod_struct hs hy
 exact h H enc W spare held n cs xs (by omega) hxl hg
end Go.Pl
end
section
open Go.RowKit Go.Pl Go.Av
namespace Go.Proofs.YtchlgagdbflkmaaGreatDoor
set_option maxHeartbeats 4000000
abbrev RY:Rep (Nat × Int × Int × Int × Nat × List UInt8):=Rep.u64.prod (Rep.i64.prod (Rep.i64.prod (Rep.i64.prod (Rep.u64.prod (Rep.slice Rep.byte (by decide))))))
theorem TB:Uq Tryz.prog 33 RY:=
 Jg Tryz.underlying33 (by kernel_rfl) (Wx rfl rfl (by kernel_rfl) (XC Tryz.underlying31) (Wx rfl rfl (by kernel_rfl) (Ur Tryz.underlying28) (Wx rfl rfl (by kernel_rfl) (Ur Tryz.underlying3) (Wx rfl rfl (by kernel_rfl) (Ur Tryz.underlying3) (Wx rfl rfl (by kernel_rfl) (XC Tryz.underlying31) (Xv rfl rfl (by kernel_rfl) (Qn (R:=Rep.byte) (by decide) Tryz.underlying26 (by kernel_rfl) (J2 Tryz.underlying5))))))))
abbrev XY:=Nat × Int × Int × Int × Nat × List UInt8
def XY.v (x:XY):RyV:=⟨x.1,x.2.1,x.2.2.1,x.2.2.2.1,x.2.2.2.2.1,x.2.2.2.2.2⟩
structure CoV where
 kd:Int
 n:Int
 b:List UInt8
 r:RyV
abbrev coE (o:CoV):E:=.agg [.int .i64 o.kd,.int .i64 o.n,.sl (o.b.map E.byte),.int .u64 (o.r.id:Int),.int .i64 o.r.err,.int .i64 o.r.num,.int .i64 o.r.cnt,.int .u64 (o.r.tok:Int),.sl (o.r.data.map E.byte)]
theorem V8 (l:List CoV):Uni 9 (l.map coE):=Uni.map (f:=coE) (fun _=>rfl) l
theorem K8 (x:RqV):VF x x=true:=by
 unfold VF eqE
 simp
def GI:RqV:=⟨0,0,Zx,Zx,0,0,0,[],0,0,false⟩
abbrev Qg (p left:List UInt8)(tk:Nat)(w:List RqV)(e:Nat)(br:Int):Prop:=w.length<=8/\(e=0->(ZS p).2.2=0/\(ZS p).2.1=left/\(ZS p).1.length=tk/\br=0)/\(e ≠ 0->w=[])
abbrev cwX (P:List E)(tk:Int)(w:D)(s:Int)(o:D)(e:Int):List (List D):=[[.sl (.own 2) P,.int .i64 tk,w,.int .i64 s,o,.int .i64 e]]
abbrev cwL (L:List E):D:=.sl (.own 3) L
abbrev cwO (o:List E):D:=.sl (.own 4) o
abbrev cwG (c oc n c2 oc2:Nat):List Fr:=cvF c oc++[⟨n,1,5⟩,⟨c2,19,46⟩,⟨oc2,1,5⟩]
abbrev cwB (p left:List UInt8)(tk:Nat)(w:List RqV)(s:Int)(o:List UInt8)(e:Nat)(br:Int):List (List D):=cvS (cvW (w.map rqE)) s (cvO (o.map E.byte)) (e:Int) left br++cwX (p.map E.byte) (tk:Int) (cwL (w.map rqE)) s (cwO (o.map E.byte)) (e:Int)
abbrev cwF (p:List UInt8)(w:List RqV)(o:List UInt8):List Fr:=cwG w.length o.length p.length w.length o.length
abbrev cwT (ops:List CoV)(i:Nat):List (Nat × D):=[(0,.sl .ext (ops.map coE)),(3,.ptr 1 0),(4,.ptr 2 0),(5,.int .i64 (i:Int))]
def CwJ (ops:List CoV)(k:Nat)(tm:List (Nat × D))(bx:List (List D))(fr:List Fr):Prop:=
 ∃(i:Nat) (p left:List UInt8) (tk:Nat) (w:List RqV) (s:Int) (o:List UInt8) (e:Nat) (br:Int),k+i=60/\Qg p left tk w e br/\p.length<=10500/\o.length<=700*i/\tm=cwT ops i/\bx=cwB p left tk w s o e br/\fr=cwF p w o
end Go.Proofs.YtchlgagdbflkmaaGreatDoor
end
