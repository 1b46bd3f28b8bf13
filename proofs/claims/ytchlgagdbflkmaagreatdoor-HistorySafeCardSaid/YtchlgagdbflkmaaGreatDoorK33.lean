/- Package reply: which replies may be. -/
import Derived.Test.YtchlgagdbflkmaaGreatDoorK12
import Derived.Test.YtchlgagdbflkmaaGreatDoorK13
import Derived.Test.YtchlgagdbflkmaaGreatDoorK10
import Derived.Test.YtchlgagdbflkmaaGreatDoorK18
import Derived.Test.YtchlgagdbflkmaaGreatDoorK25
set_option linter.unusedVariables false
set_option linter.unusedSimpArgs false
section
open Go.RowKit Go.Pl Go.Av
namespace Go.Proofs.YtchlgagdbflkmaaGreatDoor
set_option maxHeartbeats 4000000
structure RyV where
 id:Nat
 err:Int
 num:Int
 cnt:Int
 tok:Nat
 data:List UInt8
abbrev ryC (x:RyV):List D:=[.int .u64 (x.id:Int),.int .i64 x.err,.int .i64 x.num,.int .i64 x.cnt,.int .u64 (x.tok:Int),byE x.data]
def Ib (a b:RyV):Bool:=((a.id:Int)==(b.id:Int))&&((a.err==b.err)&&((a.num==b.num)&&((a.cnt==b.cnt)&&(((a.tok:Int)==(b.tok:Int))&&(a.data==b.data)))))
theorem TW [Known](a b:RyV):AP Tryz.prog 96 [.agg (ryC a),.agg (ryC b)] (.bool (Ib a b)) []:=by
 have hB:=Q4 a.data b.data
 unfold Ib
 refine AP.ofA (Zl Tryz.func96 Z Tryz.ntmps96 Z Z ?_)
 repeat'(first|(apply Zb (hB);kernel_rfl;(iterate 4 exact Z))|(apply Zg Za;exact Z)|(apply Zh Za;exact Z)|(apply Zd;(iterate 3 exact Z);(first|with_reducible assumption|(solve|simp only[bn])))|(apply Zr;(iterate 3 exact Z);(first|with_reducible assumption|(solve|simp only[bn])))|(apply Ym;exact Z;exact Z;all_goals intro hb)|(apply Zj;exact Z;(first|with_reducible assumption|(solve|simp only[bn]));exact Z;exact Z)|(apply Zi;exact Z;(first|with_reducible assumption|(solve|simp only[bn]));exact Z;exact Z))
 all_goals(apply Zt [];(apply Zc Za;exact Z);(iterate 4 exact Z))
 all_goals first|rfl|(simp only[*,Bool.true_and,Bool.false_and];done)
theorem TX [Known](id:Nat)(e:Int):AP Tryz.prog 97 [.int .u64 (id:Int),.int .i64 e] (.agg (ryC ⟨id,e,0,0,0,[]⟩)) []:=by
 refine AP.ofA (Zl Tryz.func97 Z Tryz.ntmps97 Z Z ?_)
 repeat'(first|(apply Zh Za;exact Z))
 all_goals exact Qe
def JD (n:Int):Bool:=decide (n<0)||decide (n>1099511627776)
theorem Xl [Known](n:Int):AP Tryz.prog 120 [.int .i64 n] (.bool (JD n)) []:=by
 unfold JD
 refine AP.ofA (Zl Tryz.func120 Z Tryz.ntmps120 Z Z ?_)
 repeat'(first|(apply Zg Za;exact Z)|(apply Zh Za;exact Z)|(apply Zd;(iterate 3 exact Z);(first|with_reducible assumption|(solve|simp only[bn])))|(apply Zo;(iterate 3 exact Z);(first|with_reducible assumption|(solve|simp only[bn])))|(apply Ym;exact Z;exact Z;all_goals intro hb)|(apply Zj;exact Z;(first|with_reducible assumption|(solve|simp only[bn]));exact Z;exact Z)|(apply Zi;exact Z;(first|with_reducible assumption|(solve|simp only[bn]));exact Z;exact Z))
 all_goals(apply Zt [];(apply Zc Za;exact Z);(iterate 4 exact Z))
 all_goals first|rfl|(simp only[*];done)|(simp only[*];rfl)
def Br:Bool->Bool->Int
 | true,_=>0
 | false,true=>1
 | false,false => -1
theorem Bt (l:List Int):Uni 1 (l.map fun n:Int=>E.int .i64 n):=Uni.map (f:=fun n:Int=>E.int .i64 n) (fun _=>rfl) l
theorem LM [Known](a b:Int)(x y:Bool)(hx:JD a=x)(hy:JD b=y):AP Tryz.prog 138 [.sl .ext [.int .i64 a,.int .i64 b],.fn 120 []] (.int .i64 (Br x y)) []:=by
 have ga:=Xl a
 have gb:=Xl b
 rw[hx]at ga
 rw[hy]at gb
 have hU:=Bt [a,b]
 have q0:decide ((0:Int)<(([.int .i64 a,.int .i64 b]:List E).length:Int))=true:=rfl
 have q1:decide ((1:Int)<(([.int .i64 a,.int .i64 b]:List E).length:Int))=true:=rfl
 have q2:decide ((2:Int)<(([.int .i64 a,.int .i64 b]:List E).length:Int))=false:=rfl
 have e1:IntKind.i64.wrap (0+1)=1:=by decide
 have e2:IntKind.i64.wrap (1+1)=2:=by decide
 cases x<;>cases y
 all_goals
  refine AP.ofA (Zl Tryz.func138 Z Tryz.ntmps138 Z Z ?_)
  repeat'(first|rw[e1]|rw[e2]|(apply WR (ga);exact Z;kernel_rfl;(iterate 3 exact Z))|(apply WR (gb);exact Z;kernel_rfl;(iterate 3 exact Z))|refine Zw Za Z Z Z Z Z Z (by decide) Z hU ?_|refine Ws 20 ?_|refine W0 ?_|(apply Zg Za;exact Z)|(apply Zh Za;exact Z)|(apply Zs Za;exact Z)|(apply Ze;exact Z;(first|with_reducible assumption|decide +kernel|(solve|simp only[bn])))|(apply Zf;exact Z;(first|with_reducible assumption|decide +kernel|(solve|simp only[bn])))|refine WI ?_|refine Zn Za Z Z Z Z ?_)
  all_goals exact Qe
theorem Ml [Known](a b:Int):AP Tryz.prog 119 [.sl .ext [.int .i64 a,.int .i64 b],.fn 120 []] (.bool (JD a||JD b)) []:=by
 cases hx:JD a<;>cases hy:JD b
 all_goals
  have hI:=LM a b _ _ hx hy
  refine AP.ofA (Zl Tryz.func119 Z Tryz.ntmps119 Z Z ?_)
  repeat'(first|(apply Zb (hI);kernel_rfl;(iterate 4 exact Z))|(apply Zg Za;exact Z)|(apply Zh Za;exact Z))
  all_goals exact Qe
theorem Ha [Known](a b:Int):AP Tryz.prog 95 [.sl .ext [.int .i64 a,.int .i64 b]] (.bool (!(JD a||JD b))) []:=by
 have hI:=Ml a b
 refine AP.ofA (Zl Tryz.func95 Z Tryz.ntmps95 Z Z ?_)
 repeat'(first|(apply Zb (hI);kernel_rfl;(iterate 4 exact Z))|(apply Zg Za;exact Z)|(apply Zh Za;exact Z))
 all_goals exact Qe
def Rn (x:RyV):Bool:=decide ((x.id:Int)>1099511627776)||(decide (x.err<0)||(decide (x.err>99)||((JD x.num||JD x.cnt)||(decide ((x.tok:Int)>2147483648)||decide (((x.data.map E.byte).length:Int)>600)))))
def Yk (x:RyV):Bool:=match Rn x with
 | true=>false
 | false=>match x.err != 0 with
  | true=>Ib x ⟨x.id,x.err,0,0,0,[]⟩
  | false=>true
theorem B6 [Known](id:Nat)(err num cnt:Int)(tok:Nat)(data:List UInt8)(w s:Bool)(g0:decide ((id:Int)>1099511627776)=true)
  (hW:AP Tryz.prog 95 [.sl .ext [.int .i64 num,.int .i64 cnt]] (.bool (!w)) [])
  (hF:AP Tryz.prog 97 [.int .u64 (id:Int),.int .i64 err] (.agg [.int .u64 (id:Int),.int .i64 err,.int .i64 0,.int .i64 0,.int .u64 0,.sl .ext []]) [])
  (hS:AP Tryz.prog 96 [.agg [.int .u64 (id:Int),.int .i64 err,.int .i64 num,.int .i64 cnt,.int .u64 (tok:Int),byE data],.agg [.int .u64 (id:Int),.int .i64 err,.int .i64 0,.int .i64 0,.int .u64 0,.sl .ext []]] (.bool s) []) :
  AP Tryz.prog 61 [.agg [.int .u64 (id:Int),.int .i64 err,.int .i64 num,.int .i64 cnt,.int .u64 (tok:Int),byE data]] (.bool false) []:=by
 refine AP.ofA (Zl Tryz.func61 Z Tryz.ntmps61 Z Z ?_)
 repeat'(first|(apply Zg Za;exact Z)|(apply Zh Za;exact Z)|(apply Zs Za;exact Z)|(apply Zo;(iterate 3 exact Z);(first|with_reducible assumption|decide +kernel|(solve|simp only[bn])))|(apply Zj;exact Z;(first|with_reducible assumption|decide +kernel|(solve|simp only[bn]));exact Z;exact Z)|(apply Ze;exact Z;(first|with_reducible assumption|decide +kernel|(solve|simp only[bn]))))
 all_goals exact Qe
theorem B7 [Known](id:Nat)(err num cnt:Int)(tok:Nat)(data:List UInt8)(w s:Bool)(g0:decide ((id:Int)>1099511627776)=false)(g1:decide (err<0)=true)
  (hW:AP Tryz.prog 95 [.sl .ext [.int .i64 num,.int .i64 cnt]] (.bool (!w)) [])
  (hF:AP Tryz.prog 97 [.int .u64 (id:Int),.int .i64 err] (.agg [.int .u64 (id:Int),.int .i64 err,.int .i64 0,.int .i64 0,.int .u64 0,.sl .ext []]) [])
  (hS:AP Tryz.prog 96 [.agg [.int .u64 (id:Int),.int .i64 err,.int .i64 num,.int .i64 cnt,.int .u64 (tok:Int),byE data],.agg [.int .u64 (id:Int),.int .i64 err,.int .i64 0,.int .i64 0,.int .u64 0,.sl .ext []]] (.bool s) []) :
  AP Tryz.prog 61 [.agg [.int .u64 (id:Int),.int .i64 err,.int .i64 num,.int .i64 cnt,.int .u64 (tok:Int),byE data]] (.bool false) []:=by
 refine AP.ofA (Zl Tryz.func61 Z Tryz.ntmps61 Z Z ?_)
 repeat'(first|(apply Zg Za;exact Z)|(apply Zh Za;exact Z)|(apply Zs Za;exact Z)|(apply Zd;(iterate 3 exact Z);(first|with_reducible assumption|decide +kernel|(solve|simp only[bn])))|(apply Zo;(iterate 3 exact Z);(first|with_reducible assumption|decide +kernel|(solve|simp only[bn])))|(apply Zj;exact Z;(first|with_reducible assumption|decide +kernel|(solve|simp only[bn]));exact Z;exact Z)|(apply Zi;exact Z;(first|with_reducible assumption|decide +kernel|(solve|simp only[bn]));exact Z;exact Z)|(apply Ze;exact Z;(first|with_reducible assumption|decide +kernel|(solve|simp only[bn]))))
 all_goals exact Qe
theorem B8 [Known](id:Nat)(err num cnt:Int)(tok:Nat)(data:List UInt8)(w s:Bool)(g0:decide ((id:Int)>1099511627776)=false)(g1:decide (err<0)=false)(g2:decide (err>99)=true)
  (hW:AP Tryz.prog 95 [.sl .ext [.int .i64 num,.int .i64 cnt]] (.bool (!w)) [])
  (hF:AP Tryz.prog 97 [.int .u64 (id:Int),.int .i64 err] (.agg [.int .u64 (id:Int),.int .i64 err,.int .i64 0,.int .i64 0,.int .u64 0,.sl .ext []]) [])
  (hS:AP Tryz.prog 96 [.agg [.int .u64 (id:Int),.int .i64 err,.int .i64 num,.int .i64 cnt,.int .u64 (tok:Int),byE data],.agg [.int .u64 (id:Int),.int .i64 err,.int .i64 0,.int .i64 0,.int .u64 0,.sl .ext []]] (.bool s) []) :
  AP Tryz.prog 61 [.agg [.int .u64 (id:Int),.int .i64 err,.int .i64 num,.int .i64 cnt,.int .u64 (tok:Int),byE data]] (.bool false) []:=by
 refine AP.ofA (Zl Tryz.func61 Z Tryz.ntmps61 Z Z ?_)
 repeat'(first|(apply Zg Za;exact Z)|(apply Zh Za;exact Z)|(apply Zs Za;exact Z)|(apply Zd;(iterate 3 exact Z);(first|with_reducible assumption|decide +kernel|(solve|simp only[bn])))|(apply Zo;(iterate 3 exact Z);(first|with_reducible assumption|decide +kernel|(solve|simp only[bn])))|(apply Zj;exact Z;(first|with_reducible assumption|decide +kernel|(solve|simp only[bn]));exact Z;exact Z)|(apply Zi;exact Z;(first|with_reducible assumption|decide +kernel|(solve|simp only[bn]));exact Z;exact Z)|(apply Ze;exact Z;(first|with_reducible assumption|decide +kernel|(solve|simp only[bn]))))
 all_goals exact Qe
theorem B9 [Known](id:Nat)(err num cnt:Int)(tok:Nat)(data:List UInt8)(w s:Bool)(g0:decide ((id:Int)>1099511627776)=false)(g1:decide (err<0)=false)(g2:decide (err>99)=false)(g3:w=true)
  (hW:AP Tryz.prog 95 [.sl .ext [.int .i64 num,.int .i64 cnt]] (.bool (!w)) [])
  (hF:AP Tryz.prog 97 [.int .u64 (id:Int),.int .i64 err] (.agg [.int .u64 (id:Int),.int .i64 err,.int .i64 0,.int .i64 0,.int .u64 0,.sl .ext []]) [])
  (hS:AP Tryz.prog 96 [.agg [.int .u64 (id:Int),.int .i64 err,.int .i64 num,.int .i64 cnt,.int .u64 (tok:Int),byE data],.agg [.int .u64 (id:Int),.int .i64 err,.int .i64 0,.int .i64 0,.int .u64 0,.sl .ext []]] (.bool s) []) :
  AP Tryz.prog 61 [.agg [.int .u64 (id:Int),.int .i64 err,.int .i64 num,.int .i64 cnt,.int .u64 (tok:Int),byE data]] (.bool false) []:=by
 subst g3
 refine AP.ofA (Zl Tryz.func61 Z Tryz.ntmps61 Z Z ?_)
 repeat'(first|(apply Zb (hW);kernel_rfl;(iterate 4 exact Z))|(apply Zg Za;exact Z)|(apply Zh Za;exact Z)|(apply Zs Za;exact Z)|(apply Zd;(iterate 3 exact Z);(first|with_reducible assumption|decide +kernel|(solve|simp only[bn])))|(apply Zo;(iterate 3 exact Z);(first|with_reducible assumption|decide +kernel|(solve|simp only[bn])))|(apply Zj;exact Z;(first|with_reducible assumption|decide +kernel|(solve|simp only[bn]));exact Z;exact Z)|(apply Zi;exact Z;(first|with_reducible assumption|decide +kernel|(solve|simp only[bn]));exact Z;exact Z)|(apply Ze;exact Z;(first|with_reducible assumption|decide +kernel|(solve|simp only[bn])))|refine ZO Za Z Z Z Z Z Z Z Z Z Z Z Z ?_)
 all_goals exact Qe
theorem Da [Known](id:Nat)(err num cnt:Int)(tok:Nat)(data:List UInt8)(w s:Bool)(g0:decide ((id:Int)>1099511627776)=false)(g1:decide (err<0)=false)(g2:decide (err>99)=false)(g3:w=false)(g4:decide ((tok:Int)>2147483648)=true)
  (hW:AP Tryz.prog 95 [.sl .ext [.int .i64 num,.int .i64 cnt]] (.bool (!w)) [])
  (hF:AP Tryz.prog 97 [.int .u64 (id:Int),.int .i64 err] (.agg [.int .u64 (id:Int),.int .i64 err,.int .i64 0,.int .i64 0,.int .u64 0,.sl .ext []]) [])
  (hS:AP Tryz.prog 96 [.agg [.int .u64 (id:Int),.int .i64 err,.int .i64 num,.int .i64 cnt,.int .u64 (tok:Int),byE data],.agg [.int .u64 (id:Int),.int .i64 err,.int .i64 0,.int .i64 0,.int .u64 0,.sl .ext []]] (.bool s) []) :
  AP Tryz.prog 61 [.agg [.int .u64 (id:Int),.int .i64 err,.int .i64 num,.int .i64 cnt,.int .u64 (tok:Int),byE data]] (.bool false) []:=by
 subst g3
 refine AP.ofA (Zl Tryz.func61 Z Tryz.ntmps61 Z Z ?_)
 repeat'(first|(apply Zb (hW);kernel_rfl;(iterate 4 exact Z))|(apply Zg Za;exact Z)|(apply Zh Za;exact Z)|(apply Zs Za;exact Z)|(apply Zd;(iterate 3 exact Z);(first|with_reducible assumption|decide +kernel|(solve|simp only[bn])))|(apply Zo;(iterate 3 exact Z);(first|with_reducible assumption|decide +kernel|(solve|simp only[bn])))|(apply Zj;exact Z;(first|with_reducible assumption|decide +kernel|(solve|simp only[bn]));exact Z;exact Z)|(apply Zi;exact Z;(first|with_reducible assumption|decide +kernel|(solve|simp only[bn]));exact Z;exact Z)|(apply Ze;exact Z;(first|with_reducible assumption|decide +kernel|(solve|simp only[bn])))|refine ZO Za Z Z Z Z Z Z Z Z Z Z Z Z ?_)
 all_goals exact Qe
theorem Db [Known](id:Nat)(err num cnt:Int)(tok:Nat)(data:List UInt8)(w s:Bool)(g0:decide ((id:Int)>1099511627776)=false)(g1:decide (err<0)=false)(g2:decide (err>99)=false)(g3:w=false)(g4:decide ((tok:Int)>2147483648)=false)(g5:decide (((data.map E.byte).length:Int)>600)=true)
  (hW:AP Tryz.prog 95 [.sl .ext [.int .i64 num,.int .i64 cnt]] (.bool (!w)) [])
  (hF:AP Tryz.prog 97 [.int .u64 (id:Int),.int .i64 err] (.agg [.int .u64 (id:Int),.int .i64 err,.int .i64 0,.int .i64 0,.int .u64 0,.sl .ext []]) [])
  (hS:AP Tryz.prog 96 [.agg [.int .u64 (id:Int),.int .i64 err,.int .i64 num,.int .i64 cnt,.int .u64 (tok:Int),byE data],.agg [.int .u64 (id:Int),.int .i64 err,.int .i64 0,.int .i64 0,.int .u64 0,.sl .ext []]] (.bool s) []) :
  AP Tryz.prog 61 [.agg [.int .u64 (id:Int),.int .i64 err,.int .i64 num,.int .i64 cnt,.int .u64 (tok:Int),byE data]] (.bool false) []:=by
 subst g3
 refine AP.ofA (Zl Tryz.func61 Z Tryz.ntmps61 Z Z ?_)
 repeat'(first|(apply Zb (hW);kernel_rfl;(iterate 4 exact Z))|(apply Zg Za;exact Z)|(apply Zh Za;exact Z)|(apply Zs Za;exact Z)|(apply Zd;(iterate 3 exact Z);(first|with_reducible assumption|decide +kernel|(solve|simp only[bn])))|(apply Zi;exact Z;(first|with_reducible assumption|decide +kernel|(solve|simp only[bn]));exact Z;exact Z)|(apply Ze;exact Z;(first|with_reducible assumption|decide +kernel|(solve|simp only[bn])))|refine Zn Za Z Z Z Z ?_|refine ZO Za Z Z Z Z Z Z Z Z Z Z Z Z ?_)
 all_goals exact Qe
theorem Dc [Known](id:Nat)(err num cnt:Int)(tok:Nat)(data:List UInt8)(w s:Bool)(g0:decide ((id:Int)>1099511627776)=false)(g1:decide (err<0)=false)(g2:decide (err>99)=false)(g3:w=false)(g4:decide ((tok:Int)>2147483648)=false)(g5:decide (((data.map E.byte).length:Int)>600)=false)(g6:(err != 0)=true)
  (hW:AP Tryz.prog 95 [.sl .ext [.int .i64 num,.int .i64 cnt]] (.bool (!w)) [])
  (hF:AP Tryz.prog 97 [.int .u64 (id:Int),.int .i64 err] (.agg [.int .u64 (id:Int),.int .i64 err,.int .i64 0,.int .i64 0,.int .u64 0,.sl .ext []]) [])
  (hS:AP Tryz.prog 96 [.agg [.int .u64 (id:Int),.int .i64 err,.int .i64 num,.int .i64 cnt,.int .u64 (tok:Int),byE data],.agg [.int .u64 (id:Int),.int .i64 err,.int .i64 0,.int .i64 0,.int .u64 0,.sl .ext []]] (.bool s) []) :
  AP Tryz.prog 61 [.agg [.int .u64 (id:Int),.int .i64 err,.int .i64 num,.int .i64 cnt,.int .u64 (tok:Int),byE data]] (.bool s) []:=by
 subst g3
 refine AP.ofA (Zl Tryz.func61 Z Tryz.ntmps61 Z Z ?_)
 repeat'(first|(apply Zb (hW);kernel_rfl;(iterate 4 exact Z))|(apply Zb (hF);kernel_rfl;(iterate 4 exact Z))|(apply Zb (hS);kernel_rfl;(iterate 4 exact Z))|(apply Zg Za;exact Z)|(apply Zh Za;exact Z)|(apply Zs Za;exact Z)|(apply Zd;(iterate 3 exact Z);(first|with_reducible assumption|decide +kernel|(solve|simp only[bn])))|(apply Zi;exact Z;(first|with_reducible assumption|decide +kernel|(solve|simp only[bn]));exact Z;exact Z)|(apply Ze;exact Z;(first|with_reducible assumption|decide +kernel|(solve|simp only[bn])))|(apply Zf;exact Z;(first|with_reducible assumption|decide +kernel|(solve|simp only[bn])))|refine Zn Za Z Z Z Z ?_|refine ZO Za Z Z Z Z Z Z Z Z Z Z Z Z ?_|(apply Zm 6 ZG;decide +kernel;kernel_rfl;kernel_rfl;kernel_rfl;exact Z;exact Z)|(apply Zq;(iterate 4 exact Z))|exact AE.nil _ _ _ _|(apply Zv;exact Z)|(apply ZA;exact Z;exact Z;decide +kernel;exact Z)|(apply ZB;exact Z)|exact AO.nil _ _ _|(apply Zp;(decide +kernel))|exact AOs.nil|exact ZJ rfl rfl)
 all_goals exact Qe
theorem Dd [Known](id:Nat)(err num cnt:Int)(tok:Nat)(data:List UInt8)(w s:Bool)(g0:decide ((id:Int)>1099511627776)=false)(g1:decide (err<0)=false)(g2:decide (err>99)=false)(g3:w=false)(g4:decide ((tok:Int)>2147483648)=false)(g5:decide (((data.map E.byte).length:Int)>600)=false)(g6:(err != 0)=false)
  (hW:AP Tryz.prog 95 [.sl .ext [.int .i64 num,.int .i64 cnt]] (.bool (!w)) [])
  (hF:AP Tryz.prog 97 [.int .u64 (id:Int),.int .i64 err] (.agg [.int .u64 (id:Int),.int .i64 err,.int .i64 0,.int .i64 0,.int .u64 0,.sl .ext []]) [])
  (hS:AP Tryz.prog 96 [.agg [.int .u64 (id:Int),.int .i64 err,.int .i64 num,.int .i64 cnt,.int .u64 (tok:Int),byE data],.agg [.int .u64 (id:Int),.int .i64 err,.int .i64 0,.int .i64 0,.int .u64 0,.sl .ext []]] (.bool s) []) :
  AP Tryz.prog 61 [.agg [.int .u64 (id:Int),.int .i64 err,.int .i64 num,.int .i64 cnt,.int .u64 (tok:Int),byE data]] (.bool true) []:=by
 subst g3
 refine AP.ofA (Zl Tryz.func61 Z Tryz.ntmps61 Z Z ?_)
 repeat'(first|(apply Zb (hW);kernel_rfl;(iterate 4 exact Z))|(apply Zg Za;exact Z)|(apply Zh Za;exact Z)|(apply Zs Za;exact Z)|(apply Zd;(iterate 3 exact Z);(first|with_reducible assumption|decide +kernel|(solve|simp only[bn])))|(apply Zi;exact Z;(first|with_reducible assumption|decide +kernel|(solve|simp only[bn]));exact Z;exact Z)|(apply Zf;exact Z;(first|with_reducible assumption|decide +kernel|(solve|simp only[bn])))|refine Zn Za Z Z Z Z ?_|refine ZO Za Z Z Z Z Z Z Z Z Z Z Z Z ?_)
 all_goals exact Qe
theorem VZ [Known](x:RyV):AP Tryz.prog 61 [.agg (ryC x)] (.bool (Yk x)) []:=by
 have hW:=Ha x.num x.cnt
 have hF:=TX x.id x.err
 have hS:=TW x ⟨x.id,x.err,0,0,0,[]⟩
 unfold Yk Rn
 obtain⟨id,err,num,cnt,tok,data⟩:=x
 dsimp only at *
 generalize Ib _ _=s at *
 cases g0:decide ((id:Int)>1099511627776) with
 | true=>
  exact B6 id err num cnt tok data _ s g0 hW hF hS
 | false=>
  cases g1:decide (err<0) with
  | true=>
   exact B7 id err num cnt tok data _ s g0 g1 hW hF hS
  | false=>
   cases g2:decide (err>99) with
   | true=>
    exact B8 id err num cnt tok data _ s g0 g1 g2 hW hF hS
   | false=>
    cases g3:(JD num||JD cnt) with
    | true=>
     exact B9 id err num cnt tok data _ s g0 g1 g2 g3 hW hF hS
    | false=>
     cases g4:decide ((tok:Int)>2147483648) with
     | true=>
      exact Da id err num cnt tok data _ s g0 g1 g2 g3 g4 hW hF hS
     | false=>
      cases g5:decide (((data.map E.byte).length:Int)>600) with
      | true=>
       exact Db id err num cnt tok data _ s g0 g1 g2 g3 g4 g5 hW hF hS
      | false=>
       cases g6:(err != 0) with
       | true=>
        exact Dc id err num cnt tok data _ s g0 g1 g2 g3 g4 g5 g6 hW hF hS
       | false=>
        exact Dd id err num cnt tok data _ s g0 g1 g2 g3 g4 g5 g6 hW hF hS
end Go.Proofs.YtchlgagdbflkmaaGreatDoor
end
section
open Go.RowKit Go.Pl
namespace Go.Av
section
variable {P:Program} {Q:X->St->Prop} {n:Nat} {ee:Nat × Nat} {tm:List (Nat × D)} {bx bx':List (List D)} {fr fr':List Fr} {b0:Bs} {g:G} {w:World} {a:Act} {T:Tab}
variable {ops:Array Oper} {rest:List Oper} {t ty:Nat} {pos:String} {after:Array Edge}
theorem XB {b o m c:Nat}{v:Value}(h:V w g fr (.bsl b o m c) v):∃ blk cap,g.ρ[b]?=some blk/\m<=cap/\cap<=maxLen/\v=.slice (some ⟨blk,o,none⟩) m cap/\(c=0\/c=cap):=by
 cases h;exact⟨_,_,‹_›,‹_›,‹_›,rfl,‹_›⟩
theorem YR [Known][Dfr]{x:Operand}{st:Nat}{b o m c:Nat}{ti:Ti}{e:Nat}(hT:chk P T=true)(hx:ev tm x=.bsl b o m c)(ht:tl T st=some ti)(hk:ti.kd=.slice e)(htd:Nat.blt t n=true)
  (kk:AL P ops rest ⟨n,(t,.int .i64 (m:Int))::tm,bx,fr,ee⟩ Q):AL P ops (⟨some t,.call { callee:=.builtin .len,args := #[x],argTypes := #[st] },ty,pos,after,none⟩::rest) ⟨n,tm,bx,fr,ee⟩ Q:=
 ZX _ htd (fun g a w hi=>by
  have h1:V w g fr (ev tm x) (a.eval x):=hi.ev x
  rw[hx]at h1
  obtain⟨blk,cap0,_,_,_,hv,_⟩:=XB h1
  refine⟨.int .i64 (m:Int),?_,.int _ _⟩
  simp[execOp,resolve,invoke,builtin,Builtin.len_,Sem.run_bind,hv,run_underlying ((ZP hT ht).slice hk),goInt]) kk
theorem YK [Known][Dfr](hT:chk P T=true){x y:Operand}{st e:Nat}{k:IntKind}{i:Int}{b m c o2:Nat}{ti te:Ti}(hx:ev tm x=.bsl b 0 m c)(hy:ev tm y=.int k i)(ht:tl T st=some ti)(hk:ti.kd=.slice e)(hte:tl T e=some te)(htd:Nat.blt t n=true)
  (h0:0<=i) (hi2:i<(m:Int)) (ho:i.toNat*te.size=o2)
  (kk:AL P ops rest ⟨n,(t,.ptr b o2)::tm,bx,fr,ee⟩ Q):AL P ops (⟨some t,.indexAddr st x y,ty,pos,after,none⟩::rest) ⟨n,tm,bx,fr,ee⟩ Q:=
 ZX _ htd (fun g a w hi=>by
  have h1:V w g fr (ev tm x) (a.eval x):=hi.ev x
  rw[hx]at h1
  have h2:V w g fr (ev tm y) (a.eval y):=hi.ev y
  rw[hy]at h2
  have h2:=h2.int_inv
  obtain⟨blk,cap0,hb,_,_,hv,_⟩:=XB h1
  have hu:=(ZP hT ht).slice hk
  have hsz:=Yo (P:=P) (t:=e) (ZP hT hte).tSize w
  have hadd:(⟨blk,0,none⟩:Addr).add (i.toNat*te.size)=⟨blk,o2,none⟩:=by rw[Addr.add_mid,Nat.zero_add,ho]
  refine⟨.pointer (some ⟨blk,o2,none⟩),?_,.ptr _ _ _ hb⟩
  have hrun:(Instr.indexAt st (.slice (some ⟨blk,0,none⟩) m cap0) (.int k i)).run P w=.ok (.pointer (some ⟨blk,o2,none⟩)) w:=by
   simp[Instr.indexAt,asIntOf,Sem.run_bind,run_underlying hu,(⟨h0,hi2⟩:0<=i/\i<(m:Int)),hsz,hadd]
  simp[execOp,hv,h2,Sem.run_bind,hrun]) kk
theorem Mem.rowc [Known](hm:Mem g bx fr w){b blk z:Nat}{l:List E}(hb:g.ρ[b]?=some blk)(hx:bx[b]?=some [.row z l]):∃ vs ty,w.heap[blk]?=some (.cells vs ty (0,0))/\(z=0\/vs.size=z)/\l.length<=vs.size /\
  ∀(j:Nat) (e:E) (v:Value),l[j]?=some e->vs[j]?=some v->VE w g.C e v:=by
 obtain⟨vs,ty,h1,h2,h3⟩:=hm.bat b blk _ hb hx
 refine⟨vs,ty,h1,h2.2.2 z l rfl,by have:=h2.2.1;simpa[D.ex]using this,fun j e v he hv=>(h3 j _ v ?_ hv).offC⟩
 show(l.map D.ofC)[j]?=_
 rw[List.getElem?_map,he];rfl
theorem VK [Known][Dfr](hT:chk P T=true){x:Operand}{lt b o z:Nat}{l:List E}{e:E}{d:D}{ti:Ti}(hx:ev tm x=.ptr b o)(ht:tl T lt=some ti)(ha:ti.kd.agg=false)(hb:bx[b]?=some [.row z l])(he:l[o]?=some e)(hd:nf (.ofE e)=some d)(htd:Nat.blt t n=true)
  (kk:AL P ops rest ⟨n,(t,d)::tm,bx,fr,ee⟩ Q):AL P ops (⟨some t,.load lt x,ty,pos,after,none⟩::rest) ⟨n,tm,bx,fr,ee⟩ Q:=
 ZX _ htd (fun g a w hi=>by
  have h1:V w g fr (ev tm x) (a.eval x):=hi.ev x
  rw[hx]at h1
  obtain⟨blk,h2,h3⟩:=QA h1
  obtain⟨vs,ut,r1,r2,r3,r4⟩:=hi.mem.rowc h2 hb
  have ho:=(List.getElem?_eq_some_iff.1 he).1
  have hv:vs[o]?=some (vs[o]'(by omega)):=Array.getElem?_eq_getElem _
  have hc:w.cell? ⟨blk,o,none⟩=some (vs[o]'(by omega)):=(cell_of_row w blk o vs ut (0,0) r1).trans hv
  have hag:tAgg P lt=some false:=by rw[(ZP hT ht).tAgg,ha]
  refine⟨_,?_,by rw[<- YA hd];exact V.ofE (r4 o e _ he hv)⟩
  simp[execOp,h3,Instr.loadAt,Instr.sureAddr,Sem.run_bind,Qy hag hc]) kk
theorem YT [Known][Dfr](hT:chk P T=true){x:Operand}{lt b o z:Nat}{l es:List E}{ds:List D}{ti:Ti}(hx:ev tm x=.ptr b o)(ht:tl T lt=some ti)(ha:ti.kd.agg=true)(hb:bx[b]?=some [.row z l])(he:(l.drop o).take ti.size=es)(hle:o+ti.size<=l.length)(hd:nfs (es.map .ofE)=some ds)(htd:Nat.blt t n=true)
  (kk:AL P ops rest ⟨n,(t,.agg ds)::tm,bx,fr,ee⟩ Q):AL P ops (⟨some t,.load lt x,ty,pos,after,none⟩::rest) ⟨n,tm,bx,fr,ee⟩ Q:=
 ZX _ htd (fun g a w hi=>by
  have h1:V w g fr (ev tm x) (a.eval x):=hi.ev x
  rw[hx]at h1
  obtain⟨blk,h2,h3⟩:=QA h1
  obtain⟨vs,ut,r1,r2,r3,r4⟩:=hi.mem.rowc h2 hb
  have hag:tAgg P lt=some true:=by rw[(ZP hT ht).tAgg,ha]
  have hrun:=Qz (P:=P) (w:=w) (b:=blk) (o:=o) hag ((vs.toList.drop o).take ti.size) (by rw[(ZP hT ht).tSize];simp;omega) fun j u hu=>by
   rw[cell_of_row w blk (o+j) vs ut (0,0) r1]
   have hu':j<ti.size/\vs[o+j]?=some u:=by simpa[List.getElem?_take]using hu
   exact hu'.2
  refine⟨.agg ((vs.toList.drop o).take ti.size).toArray,?_,?_⟩
  ·simp[execOp,h3,Instr.loadAt,Instr.sureAddr,Sem.run_bind,hrun]
  ·rw[<- Vs hd]
   refine .agg _ _ (by rw[<- he];simp;omega) fun j d u hd hu=>?_
   rw[List.getElem?_map]at hd
   cases hj:es[j]? with
   | none=>simp[hj]at hd
   | some e=>
    simp[hj]at hd;subst hd
    rw[<- he]at hj
    have hj':j<ti.size/\l[o+j]?=some e:=by simpa[List.getElem?_take]using hj
    have hu':j<ti.size/\vs[o+j]?=some u:=by simpa[List.getElem?_take]using hu
    exact V.ofE (r4 _ e u hj'.2 hu'.2)) kk
theorem JY (w:World)(t ty e e2:TypeId)(i:TypeInfo)(ht:P.underlying t=some (.slice e))(hi:P.info? e=some i)
  (g sLen sCap:Nat) (cur:Array Value) (hg:w.heap[g]?=some (.cells cur e2 (0,0)))
  (a:Addr) (m c:Nat) (news:List Value) (hl:news.length=m*i.size) (hnews:∀ j u,news[j]?=some u->w.cell? (a.add j)=some u) (h1:∀ u ∈ news,u.oneCell'=true)
  (hroom:sLen+m<=sCap) (hfit:sLen*i.size+news.length<=cur.size) :
  (Builtin.append_ #[t,t] ty #[.slice (some ⟨g,0,none⟩) sLen sCap,.slice (some a) m c]).run P w =
   .ok (.slice (some ⟨g,0,none⟩) (sLen+m) sCap) (w.setRow g (cur.toList.take (sLen*i.size)++news++cur.toList.drop (sLen*i.size+news.length)).toArray):=by
 have hf:=run_firstCells_some (P:=P) w i.size m a m c news hl hnews
 have hst:=run_storeCells_at P g (sLen*i.size) e2 news 0 cur w hg (by simpa using hfit) h1
 simp only[Nat.add_zero]at hst
 simp[Builtin.append_,run_underlying ht,sizeOf,typeInfo,hi,Builtin.lenOf,hroom,hf,Addr.add_lit,hst]
theorem Hb [Known][Dfr]{o:Op}(h:∀ b0 g a w,Inv b0 ⟨n,tm,bx,fr,ee⟩ g a w->∃ v w' tm' bx' fr' g' d,(execOp a.eval ⟨some t,o,ty,pos,after,none⟩).run P w=.ok (.value v) w'/\Inv b0 ⟨n,tm',bx',fr',ee⟩ g' a w'/\V w' g' fr' d v/\AL P ops rest ⟨n,(t,d)::tm',bx',fr',ee⟩ Q)(htd:Nat.blt t n=true) :
  AL P ops (⟨some t,o,ty,pos,after,none⟩::rest) ⟨n,tm,bx,fr,ee⟩ Q:=⟨fun b0 g a w hi=>
 wpList_plain rfl fun K hK=>by
  obtain⟨v,w',tm',bx',fr',g',d,hr,hi2,hv,k⟩:=h b0 g a w hi
  unfold Oper.wp
  rw[hr]
  exact hK _ _ (k.run b0 g' _ w' (hi2.put htd hv))⟩
theorem JZ (z:Nat)(l:List E):D.ex [.row z l]=l.map .ofC:=rfl
theorem TY {z n:Nat}{l:List E}(h1:1<=n)(h2:l.length<=n)(h3:z=0\/n=z):D.fits [.row z l] n:=⟨h1,by rw[JZ,List.length_map];exact h2,fun z' l' e=>by injection e with e _;injection e with e e2;rw[<- e];exact h3⟩
theorem Kq {z:Nat}{l:List E}(h1:1<=z)(h2:l.length<=z):D.fits [.row z l] z:=⟨h1,by rw[JZ,List.length_map];exact h2,fun z' l' e=>by injection e with e _;injection e with e e2;exact .inr e⟩
theorem XC {l:List E}{j:Nat}{d:D}(h:(l.map D.ofC)[j]?=some d):∃ x,l[j]?=some x/\d=D.ofC x:=by
 rw[List.getElem?_map]at h
 cases hj:l[j]? with
 | none=>rw[hj]at h;cases h
 | some x=>rw[hj]at h;exact⟨x,rfl,by injection h with h;exact h.symm⟩
theorem Gi [Known][Dfr](hT:chk P T=true){x y:Operand}{st e m:Nat}{l':List E}{ti te:Ti}{bx2:Nat->List (List D)}(ht:tl T st=some ti)(hk:ti.kd=.slice e)(hte:tl T e=some te)(hx:emp (ev tm x)=true)(hy:Src bx te.size (ev tm y) l')
  (hpos:Nat.blt 0 te.size=true) (hU':Uni te.size l') (hne:l' ≠ []) (hlen:l'.length<=maxLen) (hby:l'.length*te.bytes<=140737488355328)
  (hm:bx.length=m) (hbx:∀ c',nfb (bx++[[.row (c'*te.size) (flat l')]])=some (bx2 c')) (htd:Nat.blt t n=true)
  (k:∀ c',l'.length<=c'->AL P ops rest ⟨n,(t,.bsl m 0 l'.length c')::tm,bx2 c',fr,ee⟩ Q):AL P ops (⟨some t,.call { callee:=.builtin .append,args := #[x,y],argTypes := #[st,st] },ty,pos,after,none⟩::rest) ⟨n,tm,bx,fr,ee⟩ Q:=
 Hb (fun b0 g a w hi=>by
  have h1:V w g fr (ev tm x) (a.eval x):=hi.ev x
  have h2:V w g fr (ev tm y) (a.eval y):=hi.ev y
  obtain⟨A0,hxv⟩:=HO h1 hx
  obtain⟨ad,c,news,hyv,n1,n2,n3,n4⟩:=hy hi.mem h2 hU' hne
  have hpos':0<l'.length:=List.length_pos_iff.2 hne
  have hpos:0<te.size:=by simpa[Nat.blt_eq]using hpos
  have hu:=(ZP hT ht).slice hk
  obtain⟨ie,ue,z,i1,i2,i3,i4,i5,i6,i7⟩:=(ZP hT hte).out
  have hr:=Ul (P:=P) A0 w st ty e ie z hu i1 i3 ad l'.length c news (by rw[<- i5];exact n1) n2 hpos' (by simp only[maxLen]at hlen;omega) (by rw[<- i6];omega)
  have hge:=grownCap_ge w l'.length 0 e
  have hcm:=grownCap_le_maxLen w l'.length 0 e hlen
  obtain⟨C2,hC2⟩:∃ C2,C2=grownCap w l'.length 0 e:=⟨_,rfl⟩
  rw[<- hC2]at hr hge hcm
  have hcurr:news.toArray++Builtin.zeroCells z.cells (C2-l'.length)=(news++(Builtin.zeroCells z.cells (C2-l'.length)).toList).toArray:=by simp
  rw[hcurr]at hr
  have hz:=(Vu (w:=w) (g:=g) (fr:=fr) i7).1
  have hzc:z.cells.size=ie.size:=by
   rw[<- Array.length_toList,hz,<- i5]
   exact(Xu hT hte).symm
  have hfl:=hU'.flat
  have hd:Mem g bx fr w.drew:=hi.mem.drew
  have hzl:(Builtin.zeroCells z.cells (C2-l'.length)).toList.length=(C2-l'.length)*te.size:=by rw[Array.length_toList,size_zeroCells,hzc,<- i5]
  have hmul:C2*te.size=l'.length*te.size+(C2-l'.length)*te.size:=by rw[<- Nat.add_mul];congr 1;omega
  obtain⟨k1,k2⟩:=hd.box0 (news++(Builtin.zeroCells z.cells (C2-l'.length)).toList) [.row (C2*te.size) (flat l')] e (by
    rw[List.length_append,hzl,n1,<- hmul]
    exact Kq (by have:1<=l'.length*te.size:=Nat.mul_pos hpos' hpos;omega) (by rw[hfl];omega)) (fun j d u hd hu=>by
   rw[JZ]at hd
   obtain⟨x2,hx2,rfl⟩:=XC hd
   have hj:=(List.getElem?_eq_some_iff.1 hx2).1
   rw[List.getElem?_append_left (by omega)]at hu
   exact V.ofC (n4 j x2 u hx2 hu).drew)
  have e1:=Wl (hbx C2)
  subst hm
  rw[e1]at k2
  have hevo:=Evo.drew.trans k1
  refine⟨.slice (some ⟨w.heap.size,0,none⟩) l'.length C2,_,tm,bx2 C2,fr,_,.bsl bx.length 0 l'.length C2,by simp only[execOp,resolve,invoke,builtin,Sem.run_bind,Sem.run_pure,Result.andThen_ok,List.map_toArray,List.map_cons,List.map_nil,hxv,hyv,hr],⟨hi.size,hi.defers,k2,fun t=>(hi.tm t).evo hevo,hi.evo.trans hevo,hi.bd⟩,.bsl _ 0 _ C2 w.heap.size C2 ?_ hge hcm (.inr rfl),k C2 hge⟩
  have:=hi.mem.bl
  dsimp only at this
  show(g.ρ++[w.drew.heap.size])[bx.length]?=_
  rw[List.getElem?_append_right (by omega),this,Nat.sub_self]
  rfl) htd
theorem Kr [Known][Dfr](hT:chk P T=true){x y:Operand}{st e m:Nat}{l':List E}{tk:Tok}{ti te:Ti}{bx2:Nat->List (List D)}(ht:tl T st=some ti)(hk:ti.kd=.slice e)(hte:tl T e=some te)(hx:ev tm x=.sl .nil [])(hy:ev tm y=.sl tk l')
  (hpos:Nat.blt 0 te.size=true) (hU':Uni te.size l') (hne:l' ≠ []) (hlen:l'.length<=maxLen) (hby:l'.length*te.bytes<=140737488355328)
  (hm:bx.length=m) (hbx:∀ c',nfb (bx++[[.row (c'*te.size) (flat l')]])=some (bx2 c')) (htd:Nat.blt t n=true)
  (k:∀ c',l'.length<=c'->AL P ops rest ⟨n,(t,.bsl m 0 l'.length c')::tm,bx2 c',fr,ee⟩ Q):AL P ops (⟨some t,.call { callee:=.builtin .append,args := #[x,y],argTypes := #[st,st] },ty,pos,after,none⟩::rest) ⟨n,tm,bx,fr,ee⟩ Q:=
 Gi hT ht hk hte (by rw[hx];rfl) (Src.sl hy) hpos hU' hne hlen hby hm hbx htd k
def WB (l:List E)(o:Nat)(es:List E):List E:=l.take o++(es++l.drop (o+es.length))
theorem J0 [Known][Dfr](hT:chk P T=true){x y:Operand}{lt b o z:Nat}{l es l2:List E}{d:D}{ti:Ti}(hx:ev tm x=.ptr b o)(hy:nf (ev tm y)=some d)(hes:D.toEs d.cellsOf=some es)(ht:tl T lt=some ti)(hs:Nat.beq es.length ti.size=true)(hb:bx[b]?=some [.row z l])
  (hle:o+es.length<=l.length) (hl2:WB l o es=l2) (hb':nfb (bx.set b [.row z l2])=some bx')
  (k:AL P ops rest ⟨n,tm,bx',fr,ee⟩ Q):AL P ops (⟨none,.store lt x y,ty,pos,after,none⟩::rest) ⟨n,tm,bx,fr,ee⟩ Q:=
 HI (fun g a w hi=>by
  have h1:V w g fr (ev tm x) (a.eval x):=hi.ev x
  rw[hx]at h1
  obtain⟨blk,h2,h3⟩:=QA h1
  have hv:V w g fr (ev tm y) (a.eval y):=hi.ev y
  rw[YA hy]at hv
  have hlen:=(Jh hes).1
  have ho:D.ones d.cellsOf=true:=by
   have:∀ {ds:List D} {es:List E},D.toEs ds=some es->D.ones ds=true:=by
    intro ds
    induction ds with
    | nil=>intros;rfl
    | cons d0 ds ih=>
     intro es h
     cases hd0:d0.toE1 with
     | none=>simp[D.toEs,hd0]at h
     | some e0=>
      cases hds:D.toEs ds with
      | none=>simp[D.toEs,hd0,hds]at h
      | some es0=>
       have:d0.one=true:=by cases d0<;>first|rfl|(simp[D.toE1]at hd0)
       simp only[D.ones,this]
       exact ih hds
   exact this hes
  obtain⟨vs,q2,q3,q4⟩:=hv.cells ho
  have hm:=hi.mem
  obtain⟨us,ut,r1,r2,r0,r3⟩:=hm.rowc h2 hb
  have hs':=Nat.eq_of_beq_eq_true hs
  have hvs1:∀ v ∈ vs,v.oneCell'=true:=fun v hv=>by
   obtain⟨j,hj⟩:=List.getElem?_of_mem hv
   have hlt:j<d.cellsOf.length:=by rw[<- q3];exact(List.getElem?_eq_some_iff.1 hj).1
   exact(q4 j _ v (List.getElem?_eq_getElem hlt) hj).one (Uk ho (List.getElem?_eq_getElem hlt))
  have hrun:=run_storeCells_at (P:=P) blk o ut vs 0 us w r1 (by omega) hvs1
  have hag:=(ZP hT ht)
  obtain⟨w',hw'⟩:∃ w',w'=w.setRow blk (us.toList.take (o+0)++vs++us.toList.drop (o+0+vs.length)).toArray:=⟨_,rfl⟩
  have hheap:w'.heap[blk]?=some (.cells (us.toList.take (o+0)++vs++us.toList.drop (o+0+vs.length)).toArray ut (0,0)):=by
   rw[hw'];exact setRow_heap w blk us _ ut _ r1
  have hfar:∀ k,k ≠ blk->w'.heap[k]?=w.heap[k]? := fun k hk=>by
   rw[hw'];simp only[World.setRow,Array.getElem?_modify];rw[if_neg (fun e=>hk e.symm)]
  have hsize:w'.heap.size=w.heap.size:=by rw[hw'];simp[World.setRow]
  have hcell:∀ k p,g.C k p->w'.cell? ⟨k,p,none⟩=w.cell? ⟨k,p,none⟩:=fun k p hC=>World.cell?_of_block (w:=w) (hfar k fun e=>by
   subst e;exact hm.bC k p (List.mem_of_getElem? h2) hC)
  have hevo:Evo ⟨g,fr,w⟩ ⟨g,fr,w'⟩:=⟨by rw[hw'];rfl,by rw[hw'];rfl,by rw[hw'];rfl,by rw[hsize];exact Nat.le_refl _,fun k hk hn=>hfar k fun e=>hn (.inl (e ▸ List.mem_of_getElem? h2)),fun _ _ h=>h,hcell,fun _ _ h=>.inl h,fun _ _ h=>h,fun _ h=>.inl h,fun _ c h=>.inl ⟨c,h⟩,WF.refl _ _⟩
  refine⟨w',g,?_,hevo,?_⟩
  ·rw[<- hw']at hrun
   have hsz:(sizeOf lt).run P w=.ok vs.length w:=Yo (by rw[hag.tSize,q3,hlen,hs']) w
   simp[execOp,h3,Instr.storeAt,Instr.sureAddr,storeVar,Sem.run_bind,q2,hsz,hrun]
  ·rw[<- Wl hb']
   have hl2l:l2.length=l.length:=by rw[<- hl2];simp[WB];omega
   constructor
   ·simp[hm.bl]
   ·intro i k cs' e1 e2
    by_cases hib:i=b
    ·subst hib
     rw[h2]at e1
     injection e1 with e1
     subst e1
     have hlt:i<bx.length:=(List.getElem?_eq_some_iff.1 hb).1
     rw[List.getElem?_set_self hlt]at e2
     injection e2 with e2
     subst e2
     obtain⟨us2,ut2,p1,p2,_⟩:=hm.bat i blk _ h2 hb
     rw[r1]at p1
     injection p1 with p1
     injection p1 with p1 p4
     subst p1 p4
     have hz1:1<=us.size:=p2.1
     have hsz2:(us.toList.take (o+0)++vs++us.toList.drop (o+0+vs.length)).toArray.size=us.size:=by simp;omega
     refine⟨_,ut,hheap,by rw[hsz2];exact TY (by omega) (by omega) r2,fun j c u hc hu=>?_⟩
     rw[JZ]at hc
     obtain⟨x2,hx2,rfl⟩:=XC hc
     ·have hu:(us.toList.take o++vs++us.toList.drop (o+vs.length))[j]?=some u:=by simpa using hu
      rw[<- hl2,WB]at hx2
      rw[List.append_assoc]at hu
      have hvl:vs.length=es.length:=by rw[q3,hlen]
      rcases Nat.lt_or_ge j o with hjo|hjo
      ·rw[List.getElem?_append_left (by simp;omega),List.getElem?_take,if_pos hjo]at hx2 hu
       exact V.ofC ((r3 j x2 u hx2 (by simpa using hu)).mono hevo.C hevo.cell)
      ·rw[List.getElem?_append_right (by simp;omega)]at hx2 hu
       simp only[List.length_take,Nat.min_eq_left (show o<=l.length by omega)]at hx2
       simp only[List.length_take,Nat.min_eq_left (show o<=us.toList.length by simp;omega)]at hu
       rcases Nat.lt_or_ge (j-o) vs.length with hj2|hj2
       ·rw[List.getElem?_append_left (by omega)]at hx2
        rw[List.getElem?_append_left hj2]at hu
        obtain⟨d0,hd0,hd1⟩:=(Jh hes).2 _ x2 hx2
        exact V.ofC (((q4 (j-o) d0 u hd0 hu).toE1 hd1).mono hevo.C hevo.cell)
       ·rw[List.getElem?_append_right (by omega),List.getElem?_drop]at hx2
        rw[List.getElem?_append_right hj2,List.getElem?_drop]at hu
        rw[hvl]at hu
        exact V.ofC ((r3 _ x2 u hx2 (by simpa using hu)).mono hevo.C hevo.cell)
    ·rw[List.getElem?_set_ne (Ne.symm hib)]at e2
     obtain⟨us',ut',t1,t2,t3⟩:=hm.bat i k cs' e1 e2
     have hne:k ≠ blk:=fun e=>by
      subst e
      exact hib (hm.bN i b k e1 h2)
     exact⟨us',ut',(hfar k hne).trans t1,t2,fun j c u hc hu=>(t3 j c u hc hu).evo hevo⟩
   ·exact hm.bC
   ·exact hm.bN
   ·exact hm.tl
   ·intro i k c f e1 e2
    have hTk:=hm.tat i k c f e1 e2
    obtain⟨cur,s1,s2⟩:=hTk.row
    have hne:k ≠ blk:=fun e=>by
     subst e
     exact hm.tρ k c (List.mem_of_getElem? e1) (List.mem_of_getElem? h2)
    exact⟨⟨cur,(hfar k hne).trans s1,s2⟩,hTk.le,hTk.max,hTk.pos,hTk.far⟩
   ·exact hm.tN
   ·exact hm.tρ
   ·intro k p hC
    rw[hsize];exact hm.Clt k p hC
   ·exact hm.gl.evo hevo) k
end
end Go.Av
end
section
open Go.RowKit Go.Pl
namespace Go.Av
mutual
def Bu (l:List E):D->D
 | .bsl _ _ _ _=>.sl .ext l
 | .sl _ l'=>.sl .ext l'
 | .agg ds=>.agg (Mm l ds)
 | .bool b=>.bool b
 | .int k n=>.int k n
 | .str s=>.str s
 | .nilp=>.nilp
 | .eptr cs o=>.eptr cs o
 | .gptr k o=>.gptr k o
 | .nilf=>.nilf
 | .nili=>.nili
 | _=>.junk
def Mm (l:List E):List D->List D
 | []=>[]
 | d::ds=>Bu l d::Mm l ds
end
mutual
def LOk (b n:Nat):D->Prop
 | .bsl b' o n' _=>b'=b/\o=0/\n'=n
 | .agg ds=>Bv b n ds
 | _=>True
def Bv (b n:Nat):List D->Prop
 | []=>True
 | d::ds=>LOk b n d/\Bv b n ds
end
def G.lent (g:G):G:=⟨fun k o=>g.C k o\/k ∈ g.ρ,[],[]⟩
section
variable {P:Program} {Q:X->St->Prop} {n:Nat} {ee:Nat × Nat} {tm:List (Nat × D)} {bx bx':List (List D)} {fr fr':List Fr} {b0:Bs} {g g':G} {w w':World} {a:Act} {T:Tab}
variable {ops:Array Oper} {rest:List Oper} {t ty:Nat} {pos:String} {after:Array Edge}
mutual
def plD:D->D
 | .bool b=>.bool b
 | .int k n=>.int k n
 | .str s=>.str s
 | .nilp=>.nilp
 | .sl _ l=>match l with
  | []=>.sl .ext []
  | _::_=>.junk
 | .agg ds=>.agg (Sk ds)
 | .tup ds=>.tup (Sk ds)
 | .nilf=>.nilf
 | .nili=>.nili
 | _=>.junk
def Sk:List D->List D
 | []=>[]
 | d::ds=>plD d::Sk ds
end
end
section
variable {P:Program} {Q:X->St->Prop} {n:Nat} {ee:Nat × Nat} {tm:List (Nat × D)} {bx:List (List D)} {fr:List Fr} {ops:Array Oper} {rest:List Oper} {ty:Nat} {pos:String} {after:Array Edge} {f:FuncId} {ars:Array Operand} {ats:Array TypeId}
end
end Go.Av
end
section
open Go.RowKit Go.Pl
namespace Go.Av
mutual
def stD (b:Nat)(l:List E):D->D
 | .bsl b' o n c=>match Nat.blt b' b with
  | true=>.bsl b' o n c
  | false=>match Nat.beq b' b with
   | true=>.sl .ext l
   | false=>.junk
 | .ptr b' o=>match Nat.blt b' b with
  | true=>.ptr b' o
  | false=>.junk
 | .sl t l'=>.sl t l'
 | .agg ds=>.agg (LN b l ds)
 | .tup ds=>.tup (LN b l ds)
 | .fn f ds=>.fn f (LN b l ds)
 | .iface t d=>.iface t (stD b l d)
 | .bool b=>.bool b
 | .int k n=>.int k n
 | .str s=>.str s
 | .nilp=>.nilp
 | .eptr cs o=>.eptr cs o
 | .gptr k o=>.gptr k o
 | .nilf=>.nilf
 | .nili=>.nili
 | .yl l=>.yl l
 | .junk=>.junk
 | .row z l=>.row z l
def LN (b:Nat)(l:List E):List D->List D
 | []=>[]
 | d::ds=>stD b l d::LN b l ds
end
mutual
def SOk (b n:Nat):D->Prop
 | .bsl b' o n' _=>Nat.blt b' b=true\/Nat.blt b b'=true\/(b'=b/\o=0/\n'=n)
 | .agg ds=>LO b n ds
 | .tup ds=>LO b n ds
 | .fn _ ds=>LO b n ds
 | .iface _ d=>SOk b n d
 | _=>True
def LO (b n:Nat):List D->Prop
 | []=>True
 | d::ds=>SOk b n d/\LO b n ds
end
section
variable {P:Program} {Q:X->St->Prop} {n:Nat} {ee:Nat × Nat} {tm:List (Nat × D)} {bx bx':List (List D)} {fr fr':List Fr} {b0:Bs} {g g':G} {w w':World} {a:Act} {T:Tab}
variable {ops:Array Oper} {rest:List Oper} {t ty:Nat} {pos:String} {after:Array Edge}
end
end Go.Av
end
section
open Go.RowKit Go.Pl
namespace Go.Av
section
variable {P:Program} {T:Tab} {Q:X->St->Prop} {n:Nat} {ee:Nat × Nat} {tm tm':List (Nat × D)} {bx bx':List (List D)} {fr fr':List Fr} {b0:Bs} {g:G} {w:World} {a:Act} {ys:List Y}
structure AOj [Known][Dfr](P:Program) (l:List Oper) (n:Nat) (rest:List Oper) (ys:List Y) (tm:List (Nat × D)) (bx:List (List D)) (fr:List Fr) (ja:Nat):Prop where
 out:AOt P l n rest ys tm bx fr
 at_:ys[ja]?=some (.pu .junk)
end
end Go.Av
end
