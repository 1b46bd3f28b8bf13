/- Package reply: which replies may be. -/
import Derived.Test.YthdgejfglbjogaaGreatDoorA10
import Derived.Laws.BitsAllLaws
set_option linter.unusedVariables false
set_option linter.unusedSimpArgs false
section
open Go.RowKit Go.Pl Go.Av
namespace Go.Proofs.YthdgejfglbjogaaGreatDoor
set_option maxHeartbeats 4000000
structure RyV where
 id:Nat
 err:Int
 num:Int
 cnt:Int
 tok:Nat
 data:List UInt8
abbrev ryC (x:RyV):List D:=[.int .u64 (x.id:Int),.int .i64 x.err,.int .i64 x.num,.int .i64 x.cnt,.int .u64 (x.tok:Int),byE x.data]
def V1 (a b:RyV):Bool:=((a.id:Int)==(b.id:Int))&&((a.err==b.err)&&((a.num==b.num)&&((a.cnt==b.cnt)&&(((a.tok:Int)==(b.tok:Int))&&(a.data==b.data)))))
theorem QG [Known](a b:RyV):AP Tryz.prog 29 [.agg (ryC a),.agg (ryC b)] (.bool (V1 a b)) []:=by
 have hB:=UN a.data b.data
 unfold V1
 refine AP.ofA (Zl Tryz.func29 Z Tryz.ntmps29 Z Z ?_)
 repeat'(first|(apply Zd (hB);kernel_rfl;(iterate 4 exact Z))|(apply Zj Za;exact Z)|(apply Zf Za;exact Z)|(apply Ze;(iterate 3 exact Z);(first|with_reducible assumption|(solve|simp only[bn])))|(apply Zq;(iterate 3 exact Z);(first|with_reducible assumption|(solve|simp only[bn])))|(apply Yp;exact Z;exact Z;all_goals intro hb)|(apply Zk;exact Z;(first|with_reducible assumption|(solve|simp only[bn]));exact Z;exact Z)|(apply Zm;exact Z;(first|with_reducible assumption|(solve|simp only[bn]));exact Z;exact Z))
 all_goals(apply Zw [];(apply Zb Za;exact Z);(iterate 4 exact Z))
 all_goals first|rfl|(simp only[*,Bool.true_and,Bool.false_and];done)
theorem QH [Known](id:Nat)(e:Int):AP Tryz.prog 30 [.int .u64 (id:Int),.int .i64 e] (.agg (ryC ⟨id,e,0,0,0,[]⟩)) []:=by
 refine AP.ofA (Zl Tryz.func30 Z Tryz.ntmps30 Z Z ?_)
 repeat'(first|(apply Zf Za;exact Z))
 all_goals exact Qe
def Wd (n:Int):Bool:=decide (n<0)||decide (n>1099511627776)
theorem WO [Known](n:Int):AP Tryz.prog 37 [.int .i64 n] (.bool (Wd n)) []:=by
 unfold Wd
 refine AP.ofA (Zl Tryz.func37 Z Tryz.ntmps37 Z Z ?_)
 repeat'(first|(apply Zj Za;exact Z)|(apply Zf Za;exact Z)|(apply Ze;(iterate 3 exact Z);(first|with_reducible assumption|(solve|simp only[bn])))|(apply ZG;(iterate 3 exact Z);(first|with_reducible assumption|(solve|simp only[bn])))|(apply Yp;exact Z;exact Z;all_goals intro hb)|(apply Zk;exact Z;(first|with_reducible assumption|(solve|simp only[bn]));exact Z;exact Z)|(apply Zm;exact Z;(first|with_reducible assumption|(solve|simp only[bn]));exact Z;exact Z))
 all_goals(apply Zw [];(apply Zb Za;exact Z);(iterate 4 exact Z))
 all_goals first|rfl|(simp only[*];done)|(simp only[*];rfl)
def XR:Bool->Bool->Int
 | true,_=>0
 | false,true=>1
 | false,false => -1
theorem Ke (l:List Int):Uni 1 (l.map fun n:Int=>E.int .i64 n):=Uni.map (f:=fun n:Int=>E.int .i64 n) (fun _=>rfl) l
theorem JU [Known](a b:Int)(x y:Bool)(hx:Wd a=x)(hy:Wd b=y):AP Tryz.prog 48 [.sl .ext [.int .i64 a,.int .i64 b],.fn 37 []] (.int .i64 (XR x y)) []:=by
 have ga:=WO a
 have gb:=WO b
 rw[hx]at ga
 rw[hy]at gb
 have hU:=Ke [a,b]
 have q0:decide ((0:Int)<(([.int .i64 a,.int .i64 b]:List E).length:Int))=true:=rfl
 have q1:decide ((1:Int)<(([.int .i64 a,.int .i64 b]:List E).length:Int))=true:=rfl
 have q2:decide ((2:Int)<(([.int .i64 a,.int .i64 b]:List E).length:Int))=false:=rfl
 have e1:IntKind.i64.wrap (0+1)=1:=by decide
 have e2:IntKind.i64.wrap (1+1)=2:=by decide
 cases x<;>cases y
 all_goals
  refine AP.ofA (Zl Tryz.func48 Z Tryz.ntmps48 Z Z ?_)
  repeat'(first|rw[e1]|rw[e2]|(apply VI (ga);exact Z;kernel_rfl;(iterate 3 exact Z))|(apply VI (gb);exact Z;kernel_rfl;(iterate 3 exact Z))|refine Zu Za Z Z Z Z Z Z (by decide) Z hU ?_|refine Yq 20 ?_|refine YL ?_|(apply Zj Za;exact Z)|(apply Zf Za;exact Z)|(apply Zr Za;exact Z)|(apply Zg;exact Z;(first|with_reducible assumption|decide +kernel|(solve|simp only[bn])))|(apply Zc;exact Z;(first|with_reducible assumption|decide +kernel|(solve|simp only[bn])))|refine Uc ?_|refine Zo Za Z Z Z Z ?_)
  all_goals exact Qe
theorem Ju [Known](a b:Int):AP Tryz.prog 36 [.sl .ext [.int .i64 a,.int .i64 b],.fn 37 []] (.bool (Wd a||Wd b)) []:=by
 cases hx:Wd a<;>cases hy:Wd b
 all_goals
  have hI:=JU a b _ _ hx hy
  refine AP.ofA (Zl Tryz.func36 Z Tryz.ntmps36 Z Z ?_)
  repeat'(first|(apply Zd (hI);kernel_rfl;(iterate 4 exact Z))|(apply Zj Za;exact Z)|(apply Zf Za;exact Z))
  all_goals exact Qe
theorem UR [Known](a b:Int):AP Tryz.prog 28 [.sl .ext [.int .i64 a,.int .i64 b]] (.bool (!(Wd a||Wd b))) []:=by
 have hI:=Ju a b
 refine AP.ofA (Zl Tryz.func28 Z Tryz.ntmps28 Z Z ?_)
 repeat'(first|(apply Zd (hI);kernel_rfl;(iterate 4 exact Z))|(apply Zj Za;exact Z)|(apply Zf Za;exact Z))
 all_goals exact Qe
def Qg (x:RyV):Bool:=decide ((x.id:Int)>1099511627776)||(decide (x.err<0)||(decide (x.err>99)||((Wd x.num||Wd x.cnt)||(decide ((x.tok:Int)>2147483648)||decide (((x.data.map E.byte).length:Int)>600)))))
def ZM (x:RyV):Bool:=match Qg x with
 | true=>false
 | false=>match x.err != 0 with
  | true=>V1 x ⟨x.id,x.err,0,0,0,[]⟩
  | false=>true
theorem Kf [Known](id:Nat)(err num cnt:Int)(tok:Nat)(data:List UInt8)(w s:Bool)(g0:decide ((id:Int)>1099511627776)=true)
  (hW:AP Tryz.prog 28 [.sl .ext [.int .i64 num,.int .i64 cnt]] (.bool (!w)) [])
  (hF:AP Tryz.prog 30 [.int .u64 (id:Int),.int .i64 err] (.agg [.int .u64 (id:Int),.int .i64 err,.int .i64 0,.int .i64 0,.int .u64 0,.sl .ext []]) [])
  (hS:AP Tryz.prog 29 [.agg [.int .u64 (id:Int),.int .i64 err,.int .i64 num,.int .i64 cnt,.int .u64 (tok:Int),byE data],.agg [.int .u64 (id:Int),.int .i64 err,.int .i64 0,.int .i64 0,.int .u64 0,.sl .ext []]] (.bool s) []) :
  AP Tryz.prog 18 [.agg [.int .u64 (id:Int),.int .i64 err,.int .i64 num,.int .i64 cnt,.int .u64 (tok:Int),byE data]] (.bool false) []:=by
 refine AP.ofA (Zl Tryz.func18 Z Tryz.ntmps18 Z Z ?_)
 repeat'(first|(apply Zj Za;exact Z)|(apply Zf Za;exact Z)|(apply Zr Za;exact Z)|(apply ZG;(iterate 3 exact Z);(first|with_reducible assumption|decide +kernel|(solve|simp only[bn])))|(apply Zk;exact Z;(first|with_reducible assumption|decide +kernel|(solve|simp only[bn]));exact Z;exact Z)|(apply Zg;exact Z;(first|with_reducible assumption|decide +kernel|(solve|simp only[bn]))))
 all_goals exact Qe
theorem Kg [Known](id:Nat)(err num cnt:Int)(tok:Nat)(data:List UInt8)(w s:Bool)(g0:decide ((id:Int)>1099511627776)=false)(g1:decide (err<0)=true)
  (hW:AP Tryz.prog 28 [.sl .ext [.int .i64 num,.int .i64 cnt]] (.bool (!w)) [])
  (hF:AP Tryz.prog 30 [.int .u64 (id:Int),.int .i64 err] (.agg [.int .u64 (id:Int),.int .i64 err,.int .i64 0,.int .i64 0,.int .u64 0,.sl .ext []]) [])
  (hS:AP Tryz.prog 29 [.agg [.int .u64 (id:Int),.int .i64 err,.int .i64 num,.int .i64 cnt,.int .u64 (tok:Int),byE data],.agg [.int .u64 (id:Int),.int .i64 err,.int .i64 0,.int .i64 0,.int .u64 0,.sl .ext []]] (.bool s) []) :
  AP Tryz.prog 18 [.agg [.int .u64 (id:Int),.int .i64 err,.int .i64 num,.int .i64 cnt,.int .u64 (tok:Int),byE data]] (.bool false) []:=by
 refine AP.ofA (Zl Tryz.func18 Z Tryz.ntmps18 Z Z ?_)
 repeat'(first|(apply Zj Za;exact Z)|(apply Zf Za;exact Z)|(apply Zr Za;exact Z)|(apply Ze;(iterate 3 exact Z);(first|with_reducible assumption|decide +kernel|(solve|simp only[bn])))|(apply ZG;(iterate 3 exact Z);(first|with_reducible assumption|decide +kernel|(solve|simp only[bn])))|(apply Zk;exact Z;(first|with_reducible assumption|decide +kernel|(solve|simp only[bn]));exact Z;exact Z)|(apply Zm;exact Z;(first|with_reducible assumption|decide +kernel|(solve|simp only[bn]));exact Z;exact Z)|(apply Zg;exact Z;(first|with_reducible assumption|decide +kernel|(solve|simp only[bn]))))
 all_goals exact Qe
theorem Kh [Known](id:Nat)(err num cnt:Int)(tok:Nat)(data:List UInt8)(w s:Bool)(g0:decide ((id:Int)>1099511627776)=false)(g1:decide (err<0)=false)(g2:decide (err>99)=true)
  (hW:AP Tryz.prog 28 [.sl .ext [.int .i64 num,.int .i64 cnt]] (.bool (!w)) [])
  (hF:AP Tryz.prog 30 [.int .u64 (id:Int),.int .i64 err] (.agg [.int .u64 (id:Int),.int .i64 err,.int .i64 0,.int .i64 0,.int .u64 0,.sl .ext []]) [])
  (hS:AP Tryz.prog 29 [.agg [.int .u64 (id:Int),.int .i64 err,.int .i64 num,.int .i64 cnt,.int .u64 (tok:Int),byE data],.agg [.int .u64 (id:Int),.int .i64 err,.int .i64 0,.int .i64 0,.int .u64 0,.sl .ext []]] (.bool s) []) :
  AP Tryz.prog 18 [.agg [.int .u64 (id:Int),.int .i64 err,.int .i64 num,.int .i64 cnt,.int .u64 (tok:Int),byE data]] (.bool false) []:=by
 refine AP.ofA (Zl Tryz.func18 Z Tryz.ntmps18 Z Z ?_)
 repeat'(first|(apply Zj Za;exact Z)|(apply Zf Za;exact Z)|(apply Zr Za;exact Z)|(apply Ze;(iterate 3 exact Z);(first|with_reducible assumption|decide +kernel|(solve|simp only[bn])))|(apply ZG;(iterate 3 exact Z);(first|with_reducible assumption|decide +kernel|(solve|simp only[bn])))|(apply Zk;exact Z;(first|with_reducible assumption|decide +kernel|(solve|simp only[bn]));exact Z;exact Z)|(apply Zm;exact Z;(first|with_reducible assumption|decide +kernel|(solve|simp only[bn]));exact Z;exact Z)|(apply Zg;exact Z;(first|with_reducible assumption|decide +kernel|(solve|simp only[bn]))))
 all_goals exact Qe
theorem Ki [Known](id:Nat)(err num cnt:Int)(tok:Nat)(data:List UInt8)(w s:Bool)(g0:decide ((id:Int)>1099511627776)=false)(g1:decide (err<0)=false)(g2:decide (err>99)=false)(g3:w=true)
  (hW:AP Tryz.prog 28 [.sl .ext [.int .i64 num,.int .i64 cnt]] (.bool (!w)) [])
  (hF:AP Tryz.prog 30 [.int .u64 (id:Int),.int .i64 err] (.agg [.int .u64 (id:Int),.int .i64 err,.int .i64 0,.int .i64 0,.int .u64 0,.sl .ext []]) [])
  (hS:AP Tryz.prog 29 [.agg [.int .u64 (id:Int),.int .i64 err,.int .i64 num,.int .i64 cnt,.int .u64 (tok:Int),byE data],.agg [.int .u64 (id:Int),.int .i64 err,.int .i64 0,.int .i64 0,.int .u64 0,.sl .ext []]] (.bool s) []) :
  AP Tryz.prog 18 [.agg [.int .u64 (id:Int),.int .i64 err,.int .i64 num,.int .i64 cnt,.int .u64 (tok:Int),byE data]] (.bool false) []:=by
 subst g3
 refine AP.ofA (Zl Tryz.func18 Z Tryz.ntmps18 Z Z ?_)
 repeat'(first|(apply Zd (hW);kernel_rfl;(iterate 4 exact Z))|(apply Zj Za;exact Z)|(apply Zf Za;exact Z)|(apply Zr Za;exact Z)|(apply Ze;(iterate 3 exact Z);(first|with_reducible assumption|decide +kernel|(solve|simp only[bn])))|(apply ZG;(iterate 3 exact Z);(first|with_reducible assumption|decide +kernel|(solve|simp only[bn])))|(apply Zk;exact Z;(first|with_reducible assumption|decide +kernel|(solve|simp only[bn]));exact Z;exact Z)|(apply Zm;exact Z;(first|with_reducible assumption|decide +kernel|(solve|simp only[bn]));exact Z;exact Z)|(apply Zg;exact Z;(first|with_reducible assumption|decide +kernel|(solve|simp only[bn])))|refine Zy Za Z Z Z Z Z Z Z Z Z Z Z Z ?_)
 all_goals exact Qe
theorem Kj [Known](id:Nat)(err num cnt:Int)(tok:Nat)(data:List UInt8)(w s:Bool)(g0:decide ((id:Int)>1099511627776)=false)(g1:decide (err<0)=false)(g2:decide (err>99)=false)(g3:w=false)(g4:decide ((tok:Int)>2147483648)=true)
  (hW:AP Tryz.prog 28 [.sl .ext [.int .i64 num,.int .i64 cnt]] (.bool (!w)) [])
  (hF:AP Tryz.prog 30 [.int .u64 (id:Int),.int .i64 err] (.agg [.int .u64 (id:Int),.int .i64 err,.int .i64 0,.int .i64 0,.int .u64 0,.sl .ext []]) [])
  (hS:AP Tryz.prog 29 [.agg [.int .u64 (id:Int),.int .i64 err,.int .i64 num,.int .i64 cnt,.int .u64 (tok:Int),byE data],.agg [.int .u64 (id:Int),.int .i64 err,.int .i64 0,.int .i64 0,.int .u64 0,.sl .ext []]] (.bool s) []) :
  AP Tryz.prog 18 [.agg [.int .u64 (id:Int),.int .i64 err,.int .i64 num,.int .i64 cnt,.int .u64 (tok:Int),byE data]] (.bool false) []:=by
 subst g3
 refine AP.ofA (Zl Tryz.func18 Z Tryz.ntmps18 Z Z ?_)
 repeat'(first|(apply Zd (hW);kernel_rfl;(iterate 4 exact Z))|(apply Zj Za;exact Z)|(apply Zf Za;exact Z)|(apply Zr Za;exact Z)|(apply Ze;(iterate 3 exact Z);(first|with_reducible assumption|decide +kernel|(solve|simp only[bn])))|(apply ZG;(iterate 3 exact Z);(first|with_reducible assumption|decide +kernel|(solve|simp only[bn])))|(apply Zk;exact Z;(first|with_reducible assumption|decide +kernel|(solve|simp only[bn]));exact Z;exact Z)|(apply Zm;exact Z;(first|with_reducible assumption|decide +kernel|(solve|simp only[bn]));exact Z;exact Z)|(apply Zg;exact Z;(first|with_reducible assumption|decide +kernel|(solve|simp only[bn])))|refine Zy Za Z Z Z Z Z Z Z Z Z Z Z Z ?_)
 all_goals exact Qe
theorem Kk [Known](id:Nat)(err num cnt:Int)(tok:Nat)(data:List UInt8)(w s:Bool)(g0:decide ((id:Int)>1099511627776)=false)(g1:decide (err<0)=false)(g2:decide (err>99)=false)(g3:w=false)(g4:decide ((tok:Int)>2147483648)=false)(g5:decide (((data.map E.byte).length:Int)>600)=true)
  (hW:AP Tryz.prog 28 [.sl .ext [.int .i64 num,.int .i64 cnt]] (.bool (!w)) [])
  (hF:AP Tryz.prog 30 [.int .u64 (id:Int),.int .i64 err] (.agg [.int .u64 (id:Int),.int .i64 err,.int .i64 0,.int .i64 0,.int .u64 0,.sl .ext []]) [])
  (hS:AP Tryz.prog 29 [.agg [.int .u64 (id:Int),.int .i64 err,.int .i64 num,.int .i64 cnt,.int .u64 (tok:Int),byE data],.agg [.int .u64 (id:Int),.int .i64 err,.int .i64 0,.int .i64 0,.int .u64 0,.sl .ext []]] (.bool s) []) :
  AP Tryz.prog 18 [.agg [.int .u64 (id:Int),.int .i64 err,.int .i64 num,.int .i64 cnt,.int .u64 (tok:Int),byE data]] (.bool false) []:=by
 subst g3
 refine AP.ofA (Zl Tryz.func18 Z Tryz.ntmps18 Z Z ?_)
 repeat'(first|(apply Zd (hW);kernel_rfl;(iterate 4 exact Z))|(apply Zj Za;exact Z)|(apply Zf Za;exact Z)|(apply Zr Za;exact Z)|(apply Ze;(iterate 3 exact Z);(first|with_reducible assumption|decide +kernel|(solve|simp only[bn])))|(apply Zm;exact Z;(first|with_reducible assumption|decide +kernel|(solve|simp only[bn]));exact Z;exact Z)|(apply Zg;exact Z;(first|with_reducible assumption|decide +kernel|(solve|simp only[bn])))|refine Zo Za Z Z Z Z ?_|refine Zy Za Z Z Z Z Z Z Z Z Z Z Z Z ?_)
 all_goals exact Qe
theorem Kl [Known](id:Nat)(err num cnt:Int)(tok:Nat)(data:List UInt8)(w s:Bool)(g0:decide ((id:Int)>1099511627776)=false)(g1:decide (err<0)=false)(g2:decide (err>99)=false)(g3:w=false)(g4:decide ((tok:Int)>2147483648)=false)(g5:decide (((data.map E.byte).length:Int)>600)=false)(g6:(err != 0)=true)
  (hW:AP Tryz.prog 28 [.sl .ext [.int .i64 num,.int .i64 cnt]] (.bool (!w)) [])
  (hF:AP Tryz.prog 30 [.int .u64 (id:Int),.int .i64 err] (.agg [.int .u64 (id:Int),.int .i64 err,.int .i64 0,.int .i64 0,.int .u64 0,.sl .ext []]) [])
  (hS:AP Tryz.prog 29 [.agg [.int .u64 (id:Int),.int .i64 err,.int .i64 num,.int .i64 cnt,.int .u64 (tok:Int),byE data],.agg [.int .u64 (id:Int),.int .i64 err,.int .i64 0,.int .i64 0,.int .u64 0,.sl .ext []]] (.bool s) []) :
  AP Tryz.prog 18 [.agg [.int .u64 (id:Int),.int .i64 err,.int .i64 num,.int .i64 cnt,.int .u64 (tok:Int),byE data]] (.bool s) []:=by
 subst g3
 refine AP.ofA (Zl Tryz.func18 Z Tryz.ntmps18 Z Z ?_)
 repeat'(first|(apply Zd (hW);kernel_rfl;(iterate 4 exact Z))|(apply Zd (hF);kernel_rfl;(iterate 4 exact Z))|(apply Zd (hS);kernel_rfl;(iterate 4 exact Z))|(apply Zj Za;exact Z)|(apply Zf Za;exact Z)|(apply Zr Za;exact Z)|(apply Ze;(iterate 3 exact Z);(first|with_reducible assumption|decide +kernel|(solve|simp only[bn])))|(apply Zm;exact Z;(first|with_reducible assumption|decide +kernel|(solve|simp only[bn]));exact Z;exact Z)|(apply Zg;exact Z;(first|with_reducible assumption|decide +kernel|(solve|simp only[bn])))|(apply Zc;exact Z;(first|with_reducible assumption|decide +kernel|(solve|simp only[bn])))|refine Zo Za Z Z Z Z ?_|refine Zy Za Z Z Z Z Z Z Z Z Z Z Z Z ?_|(apply ZV 6 YT;decide +kernel;kernel_rfl;kernel_rfl;kernel_rfl;exact Z;exact Z)|(apply Z6;(iterate 4 exact Z))|exact AE.nil _ _ _ _|(apply Yn;exact Z)|(apply YM;exact Z;exact Z;decide +kernel;exact Z)|(apply YN;exact Z)|exact AO.nil _ _ _|(apply Z5;(decide +kernel))|exact AOs.nil|exact Ws rfl rfl)
 all_goals exact Qe
theorem Km [Known](id:Nat)(err num cnt:Int)(tok:Nat)(data:List UInt8)(w s:Bool)(g0:decide ((id:Int)>1099511627776)=false)(g1:decide (err<0)=false)(g2:decide (err>99)=false)(g3:w=false)(g4:decide ((tok:Int)>2147483648)=false)(g5:decide (((data.map E.byte).length:Int)>600)=false)(g6:(err != 0)=false)
  (hW:AP Tryz.prog 28 [.sl .ext [.int .i64 num,.int .i64 cnt]] (.bool (!w)) [])
  (hF:AP Tryz.prog 30 [.int .u64 (id:Int),.int .i64 err] (.agg [.int .u64 (id:Int),.int .i64 err,.int .i64 0,.int .i64 0,.int .u64 0,.sl .ext []]) [])
  (hS:AP Tryz.prog 29 [.agg [.int .u64 (id:Int),.int .i64 err,.int .i64 num,.int .i64 cnt,.int .u64 (tok:Int),byE data],.agg [.int .u64 (id:Int),.int .i64 err,.int .i64 0,.int .i64 0,.int .u64 0,.sl .ext []]] (.bool s) []) :
  AP Tryz.prog 18 [.agg [.int .u64 (id:Int),.int .i64 err,.int .i64 num,.int .i64 cnt,.int .u64 (tok:Int),byE data]] (.bool true) []:=by
 subst g3
 refine AP.ofA (Zl Tryz.func18 Z Tryz.ntmps18 Z Z ?_)
 repeat'(first|(apply Zd (hW);kernel_rfl;(iterate 4 exact Z))|(apply Zj Za;exact Z)|(apply Zf Za;exact Z)|(apply Zr Za;exact Z)|(apply Ze;(iterate 3 exact Z);(first|with_reducible assumption|decide +kernel|(solve|simp only[bn])))|(apply Zm;exact Z;(first|with_reducible assumption|decide +kernel|(solve|simp only[bn]));exact Z;exact Z)|(apply Zc;exact Z;(first|with_reducible assumption|decide +kernel|(solve|simp only[bn])))|refine Zo Za Z Z Z Z ?_|refine Zy Za Z Z Z Z Z Z Z Z Z Z Z Z ?_)
 all_goals exact Qe
theorem US [Known](x:RyV):AP Tryz.prog 18 [.agg (ryC x)] (.bool (ZM x)) []:=by
 have hW:=UR x.num x.cnt
 have hF:=QH x.id x.err
 have hS:=QG x ⟨x.id,x.err,0,0,0,[]⟩
 unfold ZM Qg
 obtain⟨id,err,num,cnt,tok,data⟩:=x
 dsimp only at *
 generalize V1 _ _=s at *
 cases g0:decide ((id:Int)>1099511627776) with
 | true=>
  exact Kf id err num cnt tok data _ s g0 hW hF hS
 | false=>
  cases g1:decide (err<0) with
  | true=>
   exact Kg id err num cnt tok data _ s g0 g1 hW hF hS
  | false=>
   cases g2:decide (err>99) with
   | true=>
    exact Kh id err num cnt tok data _ s g0 g1 g2 hW hF hS
   | false=>
    cases g3:(Wd num||Wd cnt) with
    | true=>
     exact Ki id err num cnt tok data _ s g0 g1 g2 g3 hW hF hS
    | false=>
     cases g4:decide ((tok:Int)>2147483648) with
     | true=>
      exact Kj id err num cnt tok data _ s g0 g1 g2 g3 g4 hW hF hS
     | false=>
      cases g5:decide (((data.map E.byte).length:Int)>600) with
      | true=>
       exact Kk id err num cnt tok data _ s g0 g1 g2 g3 g4 g5 hW hF hS
      | false=>
       cases g6:(err != 0) with
       | true=>
        exact Kl id err num cnt tok data _ s g0 g1 g2 g3 g4 g5 g6 hW hF hS
       | false=>
        exact Km id err num cnt tok data _ s g0 g1 g2 g3 g4 g5 g6 hW hF hS
def vnF:Nat->Nat->List UInt8
 | 0,n=>[UInt8.ofNat n]
 | f+1,n=>if n>127 then UInt8.ofNat (n % 128+128)::vnF f (n/128) else [UInt8.ofNat n]
def vn (n:Nat):List UInt8:=vnF 9 n
theorem Wu:∀ f n,(vnF f n).length<=f+1/\0<(vnF f n).length
 | 0,n=>by simp[vnF]
 | f+1,n=>by
  rw[vnF]
  split
  ·have:=Wu f (n/128);simp;omega
  ·simp
theorem XS:∀ n:Nat,n<256->n ||| 128=n % 128+128:=by decide +kernel
theorem Xa (n:Nat):IntKind.u8.wrap (n:Int)=((n % 256:Nat):Int):=by rw[IntKind.wrap_u8];omega
theorem JV (n:Nat):bits .or .u8 (IntKind.u8.wrap (n:Int)) 128=((UInt8.ofNat (n % 128+128)).toNat:Int):=by
 have hc:(UInt8.ofNat (n % 128+128)).toNat=n % 128+128:=by rw[UInt8.toNat_ofNat'];omega
 rw[Xa,hc]
 have:=u8_or_nat (n % 256) 128 (by omega) (by decide)
 rw[XS _ (by omega),show n % 256 % 128=n % 128 by omega]at this
 exact this
theorem Xw (n:Nat):(n:Int).fdiv (2 ^ min (Int.toNat 7) IntKind.u64.bits)=((n/128:Nat):Int):=by
 have e:(2 ^ min (Int.toNat 7) IntKind.u64.bits:Int)=128:=by decide
 rw[e,Int.fdiv_eq_ediv_of_nonneg _ (by omega)]
 omega
abbrev wrC (L:List UInt8):List (List D):=[[.bool true,.sl (.own 0) (L.map E.byte)]]
abbrev wrF (L:List UInt8):List Fr:=[⟨L.length,1,5⟩]
theorem UT (n:Nat):E.int .u8 (bits .or .u8 (IntKind.u8.wrap (n:Int)) 128)=E.byte (UInt8.ofNat (n % 128+128)):=congrArg (E.int .u8) (JV n)
theorem V2 (n:Nat)(h:n<256):E.int .u8 (IntKind.u8.wrap (n:Int))=E.byte (UInt8.ofNat n):=congrArg (E.int .u8) (by rw[Xa,UInt8.toNat_ofNat'])
theorem WX (M:List UInt8)(c:UInt8):M.map E.byte++[E.byte c]=(M++[c]).map E.byte:=by simp
theorem V3 [Known](L:List UInt8)(n:Nat)(hn:n<18446744073709551616)(hL:L.length<=1099511627776):AT Tryz.prog 20 [.ptr 0 0,.int .u64 (n:Int)] (wrC L) (wrF L) (.ptr 0 0) (wrC (L++vn n)) (wrF (L++vn n)):=by
 refine Zl Tryz.func20 rfl Tryz.ntmps20 rfl rfl ?_
 have hl0:(L.map E.byte).length=L.length:=List.length_map ..
 repeat'(first|(apply Zj Za;exact Z)|(apply Zf Za;exact Z)|(apply Zr Za;exact Z)|refine Ze Z Z Z Qt ?_|refine Zm Z Qt Z Z ?_|refine Zc Z Qt ?_)
 refine YD (fun k tm bx fr=>∃(m c:Nat) (M:List UInt8) (K:List E),K=M.map E.byte/\c=K.length/\m<18446744073709551616/\k<=9/\m<128 ^ (k+1)/\M++vnF k m=L++vn n/\tm=[(0,.ptr 0 0),(1,.int .u64 (m:Int)),(4,.nilp)]/\bx=[[.bool true,.sl (.own 0) K]]/\fr=[⟨c,1,5⟩]) 10 (Lands.mk' (m:=9) (by omega) ⟨n,L.length,L,L.map E.byte,rfl,by simp,hn,Nat.le_refl _,Nat.lt_of_lt_of_le hn (by decide),rfl,rfl,rfl,rfl⟩ ?_ rfl rfl rfl rfl rfl rfl) ?_
 ·exact .cons rfl (.cons rfl (.cons rfl .nil))
 rintro k tm bx fr ⟨m,c,M,K,hK,hc,hm,hk,hmk,hM,rfl,rfl,rfl⟩
 have hU:Uni 1 K:=hK ▸ Ym M
 have hKl:K.length=M.length:=by rw[hK,List.length_map]
 have hMl:M.length<=1099511627800:=by
  have:=congrArg List.length hM
  have h1:=Wu 9 n
  rw[List.length_append,List.length_append,vn]at this
  omega
 subst hc
 have ho:=UT m
 rcases Nat.lt_or_ge 127 m with hgt|hle
 ·have t1:decide ((m:Int)>127)=true:=decide_eq_true (by omega)
  cases k with
  | zero=>exfalso;simp at hmk;omega
  | succ k=>
   rw[vnF,if_pos hgt]at hM
   repeat'(first|rw[JV]|(apply VQ;exact Z;exact Z;rotate_left;exact Z)|rw[Xw]|(apply Zj Za;exact Z)|(apply Zf Za;exact Z)|(apply Zr Za;exact Z)|refine Zg Z Qt ?_|refine YZ ?_|refine Zy Za Z Z Z Z Z Z Z Z Z Z Z Z ?_|(apply ZB Za;(iterate 6 exact Z);(first|with_reducible assumption|decide +kernel|exact Z|rotate_left);exact Z;exact Z;(first|exact Zi rfl|with_reducible assumption|decide +kernel|rotate_left);(first|exact Zi rfl|with_reducible assumption|decide +kernel|rotate_left);(first|exact Qt|rotate_left);(first|exact Qt|rotate_left);(first|exact Qt|rotate_left);exact Z;exact Z))
   ·refine Lands.mk' (m:=k) (by omega) ⟨m/128,K.length+1,M++[UInt8.ofNat (m % 128+128)],K++[E.byte (UInt8.ofNat (m % 128+128))],by rw[hK,WX],by simp,by omega,by omega,by rw[Nat.pow_succ]at hmk;omega,by rw[List.append_assoc];exact hM,rfl,rfl,rfl⟩ ?_ rfl rfl rfl rfl rfl rfl
    exact .cons rfl (.cons rfl (.cons rfl .nil))
   all_goals first|decide|(first|rfl|(simp only[List.length_append,List.length_cons,List.length_nil,List.length_map];done)|(simp only[List.length_append,List.length_cons,List.length_nil,List.length_map]at *;(try unfold maxLen);(try simp only[Nat.add_mul]);omega))
 ·have t1:decide ((m:Int)>127)=false:=decide_eq_false (by omega)
  have hv:vnF k m=[UInt8.ofNat m]:=by
   cases k with
   | zero=>rfl
   | succ k=>rw[vnF,if_neg (by omega)]
  have hF:K++[E.int .u8 (IntKind.u8.wrap (m:Int))]=(L++vn n).map E.byte:=by
   rw[V2 m (by omega),hK,WX,<- hv,hM]
  have hFl:K.length+1=(L++vn n).length:=by
   have:=congrArg List.length hF
   simpa using this
  repeat'(first|(apply Zj Za;exact Z)|(apply Zf Za;exact Z)|refine Zc Z Qt ?_|refine Zy Za Z Z Z Z Z Z Z Z Z Z Z Z ?_|(apply ZB Za;(iterate 6 exact Z);(first|with_reducible assumption|decide +kernel|exact Z|rotate_left);exact Z;exact Z;(first|exact Zi rfl|with_reducible assumption|decide +kernel|rotate_left);(first|exact Zi rfl|with_reducible assumption|decide +kernel|rotate_left);(first|exact Qt|rotate_left);(first|exact Qt|rotate_left);(first|exact Qt|rotate_left);exact Z;exact Z))
  all_goals first|(apply ZT [0] [0];(apply Zb Za;exact Z);(iterate 7 exact Z))|(first|rfl|(simp only[List.length_append,List.length_cons,List.length_nil,List.length_map];done)|(simp only[List.length_append,List.length_cons,List.length_nil,List.length_map]at *;(try unfold maxLen);(try simp only[Nat.add_mul]);omega))
  all_goals first|rfl|exact congrArg (fun l=>[[D.bool true,D.sl (.own 0) l]]) hF|exact congrArg (fun c=>[(⟨c,1,5⟩:Fr)]) hFl
theorem Jv [Known](n:Nat)(hn:n<18446744073709551616):AT Tryz.prog 20 [.ptr 0 0,.int .u64 (n:Int)] [[.bool true,.sl .nil []]] [] (.ptr 0 0) (wrC (vn n)) (wrF (vn n)):=by
 refine Zl Tryz.func20 rfl Tryz.ntmps20 rfl rfl ?_
 repeat'(first|(apply Zj Za;exact Z)|(apply Zf Za;exact Z)|(apply Zr Za;exact Z)|refine Ze Z Z Z Qt ?_|refine Zm Z Qt Z Z ?_|refine Zc Z Qt ?_)
 refine YD (fun k tm bx fr=>∃(m c:Nat) (M:List UInt8) (K:List E),K=M.map E.byte/\c=K.length/\m<18446744073709551616/\k<=9/\m<128 ^ (k+1)/\M++vnF k m=vn n/\tm=[(0,.ptr 0 0),(1,.int .u64 (m:Int)),(4,.nilp)]/\((M=[]/\bx=[[.bool true,.sl .nil []]]/\fr=[])\/(bx=[[.bool true,.sl (.own 1) K]]/\fr=[⟨1,1,5⟩,⟨c,1,5⟩]))) 10 (Lands.mk' (m:=9) (by omega) ⟨n,0,[],[],rfl,rfl,hn,Nat.le_refl _,Nat.lt_of_lt_of_le hn (by decide),rfl,rfl,.inl ⟨rfl,rfl,rfl⟩⟩ ?_ rfl rfl rfl rfl rfl rfl) ?_
 ·exact .cons rfl (.cons rfl (.cons rfl .nil))
 rintro k tm bx fr ⟨m,c,M,K,hK,hc,hm,hk,hmk,hM,rfl,⟨rfl,rfl,rfl⟩ | ⟨rfl,rfl⟩⟩
 ·have hU:Uni 1 K:=hK ▸ Ym []
  have hKl:K=[]:=hK
  subst hc
  have ho:=UT m
  rcases Nat.lt_or_ge 127 m with hgt|hle
  ·have t1:decide ((m:Int)>127)=true:=decide_eq_true (by omega)
   cases k with
   | zero=>exfalso;simp at hmk;omega
   | succ k=>
    rw[vnF,if_pos hgt]at hM
    repeat'(first|rw[JV]|(apply VQ;exact Z;exact Z;rotate_left;exact Z)|rw[Xw]|refine ZO Za Z Z Z Z Z Z (Zi rfl) (List.cons_ne_nil _ _) Z Qd Qd Z Z Z ?_|(apply Zj Za;exact Z)|(apply Zf Za;exact Z)|(apply Zr Za;exact Z)|refine Zg Z Qt ?_|refine YZ ?_|refine Zy Za Z Z Z Z Z Z Z Z Z Z Z Z ?_)
    ·refine Lands.mk' (m:=k) (by omega) ⟨m/128,1,[UInt8.ofNat (m % 128+128)],[E.byte (UInt8.ofNat (m % 128+128))],rfl,rfl,by omega,by omega,by rw[Nat.pow_succ]at hmk;omega,by rw[List.nil_append]at hM;exact hM,rfl,.inr ⟨rfl,rfl⟩⟩ ?_ rfl rfl rfl rfl rfl rfl
     exact .cons rfl (.cons rfl (.cons rfl .nil))
    all_goals first|decide|(first|rfl|(simp only[List.length_append,List.length_cons,List.length_nil,List.length_map];done)|(simp only[List.length_append,List.length_cons,List.length_nil,List.length_map]at *;(try unfold maxLen);(try simp only[Nat.add_mul]);omega))
  ·have t1:decide ((m:Int)>127)=false:=decide_eq_false (by omega)
   have hv:vnF k m=[UInt8.ofNat m]:=by
    cases k with
    | zero=>rfl
    | succ k=>rw[vnF,if_neg (by omega)]
   have hF:[E.int .u8 (IntKind.u8.wrap (m:Int))]=(vn n).map E.byte:=by
    rw[V2 m (by omega),<- hM,hv];rfl
   have hFl:1=(vn n).length:=by
    have:=congrArg List.length hF
    simpa using this
   repeat'(first|refine ZO Za Z Z Z Z Z Z (Zi rfl) (List.cons_ne_nil _ _) Z Qd Qd Z Z Z ?_|(apply Zj Za;exact Z)|(apply Zf Za;exact Z)|refine Zc Z Qt ?_|refine Zy Za Z Z Z Z Z Z Z Z Z Z Z Z ?_)
   all_goals first|(apply ZT [0] [1];(apply Zb Za;exact Z);(iterate 7 exact Z))|(first|rfl|(simp only[List.length_append,List.length_cons,List.length_nil,List.length_map];done)|(simp only[List.length_append,List.length_cons,List.length_nil,List.length_map]at *;(try unfold maxLen);(try simp only[Nat.add_mul]);omega))
   all_goals first|rfl|exact congrArg (fun l=>[[D.bool true,D.sl (.own 0) l]]) hF|exact congrArg (fun c=>[(⟨c,1,5⟩:Fr)]) hFl

 ·have hU:Uni 1 K:=hK ▸ Ym M
  have hKl:K.length=M.length:=by rw[hK,List.length_map]
  have hMl:M.length<=1099511627800:=by
   have:=congrArg List.length hM
   have h1:=Wu 9 n
   rw[List.length_append,vn]at this
   omega
  subst hc
  have ho:=UT m
  rcases Nat.lt_or_ge 127 m with hgt|hle
  ·have t1:decide ((m:Int)>127)=true:=decide_eq_true (by omega)
   cases k with
   | zero=>exfalso;simp at hmk;omega
   | succ k=>
    rw[vnF,if_pos hgt]at hM
    repeat'(first|rw[JV]|(apply VQ;exact Z;exact Z;rotate_left;exact Z)|rw[Xw]|(apply Zj Za;exact Z)|(apply Zf Za;exact Z)|(apply Zr Za;exact Z)|refine Zg Z Qt ?_|refine YZ ?_|refine Zy Za Z Z Z Z Z Z Z Z Z Z Z Z ?_|(apply ZB Za;(iterate 6 exact Z);(first|with_reducible assumption|decide +kernel|exact Z|rotate_left);exact Z;exact Z;(first|exact Zi rfl|with_reducible assumption|decide +kernel|rotate_left);(first|exact Zi rfl|with_reducible assumption|decide +kernel|rotate_left);(first|exact Qt|rotate_left);(first|exact Qt|rotate_left);(first|exact Qt|rotate_left);exact Z;exact Z))
    ·refine Lands.mk' (m:=k) (by omega) ⟨m/128,K.length+1,M++[UInt8.ofNat (m % 128+128)],K++[E.byte (UInt8.ofNat (m % 128+128))],by rw[hK,WX],by simp,by omega,by omega,by rw[Nat.pow_succ]at hmk;omega,by rw[List.append_assoc];exact hM,rfl,.inr ⟨rfl,rfl⟩⟩ ?_ rfl rfl rfl rfl rfl rfl
     exact .cons rfl (.cons rfl (.cons rfl .nil))
    all_goals first|decide|(first|rfl|(simp only[List.length_append,List.length_cons,List.length_nil,List.length_map];done)|(simp only[List.length_append,List.length_cons,List.length_nil,List.length_map]at *;(try unfold maxLen);(try simp only[Nat.add_mul]);omega))
  ·have t1:decide ((m:Int)>127)=false:=decide_eq_false (by omega)
   have hv:vnF k m=[UInt8.ofNat m]:=by
    cases k with
    | zero=>rfl
    | succ k=>rw[vnF,if_neg (by omega)]
   have hF:K++[E.int .u8 (IntKind.u8.wrap (m:Int))]=(vn n).map E.byte:=by
    rw[V2 m (by omega),hK,WX,<- hv,hM]
   have hFl:K.length+1=(vn n).length:=by
    have:=congrArg List.length hF
    simpa using this
   repeat'(first|(apply Zj Za;exact Z)|(apply Zf Za;exact Z)|refine Zc Z Qt ?_|refine Zy Za Z Z Z Z Z Z Z Z Z Z Z Z ?_|(apply ZB Za;(iterate 6 exact Z);(first|with_reducible assumption|decide +kernel|exact Z|rotate_left);exact Z;exact Z;(first|exact Zi rfl|with_reducible assumption|decide +kernel|rotate_left);(first|exact Zi rfl|with_reducible assumption|decide +kernel|rotate_left);(first|exact Qt|rotate_left);(first|exact Qt|rotate_left);(first|exact Qt|rotate_left);exact Z;exact Z))
   all_goals first|(apply ZT [0] [1];(apply Zb Za;exact Z);(iterate 7 exact Z))|(first|rfl|(simp only[List.length_append,List.length_cons,List.length_nil,List.length_map];done)|(simp only[List.length_append,List.length_cons,List.length_nil,List.length_map]at *;(try unfold maxLen);(try simp only[Nat.add_mul]);omega))
   all_goals first|rfl|exact congrArg (fun l=>[[D.bool true,D.sl (.own 0) l]]) hF|exact congrArg (fun c=>[(⟨c,1,5⟩:Fr)]) hFl
theorem JW [Known]:AT Tryz.prog 19 [] [] [] (.ptr 0 0) [[.bool true,.sl .nil []]] []:=by
 refine Zl Tryz.func19 rfl Tryz.ntmps19 rfl rfl ?_
 repeat'(first|(apply Zf Za;exact Z))
 all_goals(apply ZT [0] [];(apply Zb Za;exact Z);(iterate 7 exact Z))
 all_goals rfl
theorem V4 [Known](L:List UInt8)(n:Nat)(hn:n<9223372036854775808)(hL:L.length<=1099511627776):AT Tryz.prog 21 [.ptr 0 0,.int .i64 (n:Int)] (wrC L) (wrF L) (.ptr 0 0) (wrC (L++vn n)) (wrF (L++vn n)):=by
 have hN:=V3 L n (by omega) hL
 have e1:(if(0:Int)>(n:Int) then(0:Int) else(n:Int))=(n:Int):=if_neg (by omega)
 have e2:IntKind.u64.wrap (n:Int)=(n:Int):=IntWalk.u64_in _ (by omega)
 refine Zl Tryz.func21 rfl Tryz.ntmps21 rfl rfl ?_
 repeat'(first|refine Q9 Z Z Z ?_|rw[e1]|rw[e2]|(apply Zh [0] [0] (hN);kernel_rfl;(iterate 10 exact Z))|(apply Zj Za;exact Z)|(apply Zf Za;exact Z))
 all_goals(apply ZT [0] [0];(apply Zb Za;exact Z);(iterate 7 exact Z))
 all_goals rfl
theorem Jw [Known](L b:List UInt8)(hb:b.length<=1000000)(hL:L.length<=1000000):AT Tryz.prog 22 [.ptr 0 0,byE b] (wrC L) (wrF L) (.ptr 0 0) (wrC (L++vn b.length++b)) (wrF (L++vn b.length++b)):=by
 have hbl:(b.map E.byte).length=b.length:=List.length_map ..
 have hN:=V3 L b.length (by omega) (by omega)
 have e2:IntKind.u64.wrap (((b.map E.byte).length:Nat):Int)=(b.length:Int):=by rw[hbl];exact IntWalk.u64_in _ (by omega)
 have hvl:=Wu 9 b.length
 have hMl:(L++vn b.length).length<=1000010:=by rw[List.length_append,vn];omega
 generalize L++vn b.length=M at *
 have hU1:=Ym b
 have hU2:=Ym M
 have hMm:(M.map E.byte).length=M.length:=List.length_map ..
 cases b with
 | nil=>
  rw[List.append_nil]
  refine Zl Tryz.func22 rfl Tryz.ntmps22 rfl rfl ?_
  repeat'(first|rw[e2]|(apply Zh [0] [0] (hN);kernel_rfl;(iterate 10 exact Z))|(apply Zj Za;exact Z)|(apply Zf Za;exact Z)|(apply Zr Za;exact Z)|refine Ze Z Z Z Qt ?_|refine Zk Z Qt Z Z ?_|refine Zg Z Qt ?_|refine Zo Za Z Z Z Z ?_|refine ZN Za Z Z Z Z Z Z ?_)
  all_goals(apply ZT [0] [0];(apply Zb Za;exact Z);(iterate 7 exact Z))
  all_goals rfl
 | cons c b=>
  have hne:(c::b).map E.byte ≠ []:=List.cons_ne_nil _ _
  have hf1:M.length=(M.map E.byte).length:=hMm.symm
  have hF:M.map E.byte++(c::b).map E.byte=(M++c::b).map E.byte:=by simp
  have hFl:(M.map E.byte).length+((c::b).map E.byte).length=(M++c::b).length:=by simp
  refine Zl Tryz.func22 rfl Tryz.ntmps22 rfl rfl ?_
  repeat'(first|rw[e2]|(apply Zh [0] [0] (hN);kernel_rfl;(iterate 10 exact Z))|(apply Zj Za;exact Z)|(apply Zf Za;exact Z)|(apply Zr Za;exact Z)|refine Ze Z Z Z Qt ?_|refine Zk Z Qt Z Z ?_|refine Zg Z Qt ?_|refine Zo Za Z Z Z Z ?_|(apply ZB Za;(iterate 6 exact Z);(first|with_reducible assumption|decide +kernel|exact Z|rotate_left);exact Z;exact Z;(first|exact Zi rfl|with_reducible assumption|decide +kernel|rotate_left);(first|exact Zi rfl|with_reducible assumption|decide +kernel|rotate_left);(first|exact Qt|rotate_left);(first|exact Qt|rotate_left);(first|exact Qt|rotate_left);exact Z;exact Z))
  all_goals first|(apply ZT [0] [0];(apply Zb Za;exact Z);(iterate 7 exact Z))|exact hne|exact hf1|exact hU1|exact hU2|(rw[hMm,hbl];unfold maxLen;omega)|(rw[hMm,hbl];show(_+_)*1<=_;omega)
  all_goals first|rfl|exact congrArg (fun l=>[[D.bool true,D.sl (.own 0) l]]) hF|exact congrArg (fun c=>[(⟨c,1,5⟩:Fr)]) hFl
theorem QI [Known](L:List UInt8)(hL:L.length<=1099511627776):AT Tryz.prog 23 [.ptr 0 0] (wrC L) (wrF L) (byE L) (wrC L) (wrF L):=by
 have hC:=WF L (by omega)
 refine Zl Tryz.func23 rfl Tryz.ntmps23 rfl rfl ?_
 repeat'(first|(apply Zd (hC);kernel_rfl;(iterate 4 exact Z))|(apply Zj Za;exact Z)|(apply Zf Za;exact Z)|refine Zc Z Qt ?_)
 all_goals(apply ZT [0] [0];(apply Zb Za;exact Z);(iterate 7 exact Z))
 all_goals rfl
def ZD (x:RyV):List UInt8:=vn x.id++vn x.err.toNat++vn x.num.toNat++vn x.cnt.toNat++vn x.tok++vn x.data.length++x.data
theorem XT [Known](id:Nat)(err num cnt:Int)(tok:Nat)(data:List UInt8)(hR:AP Tryz.prog 18 [.agg [.int .u64 (id:Int),.int .i64 err,.int .i64 num,.int .i64 cnt,.int .u64 (tok:Int),byE data]] (.bool false) []) :
  AP Tryz.prog 7 [.agg [.int .u64 (id:Int),.int .i64 err,.int .i64 num,.int .i64 cnt,.int .u64 (tok:Int),byE data]] (.tup [.sl .ext [],.int .i64 3]) []:=by
 refine AP.ofA (Zl Tryz.func7 Z Tryz.ntmps7 Z Z ?_)
 repeat'(first|(apply Zd (hR);kernel_rfl;(iterate 4 exact Z))|(apply Zj Za;exact Z)|(apply Zf Za;exact Z)|(apply Zr Za;exact Z)|(apply Zg;exact Z;(first|with_reducible assumption|decide +kernel|(solve|simp only[bn]))))
 all_goals exact Qe
theorem XU [Known](id:Nat)(err num cnt:Int)(tok:Nat)(data:List UInt8)(L0 L1 L2 L3 L4 L5 R:List E)(c0 c1 c2 c3 c4 c5:Nat)(hR:AP Tryz.prog 18 [.agg [.int .u64 (id:Int),.int .i64 err,.int .i64 num,.int .i64 cnt,.int .u64 (tok:Int),byE data]] (.bool true) [])
  (hN:AT Tryz.prog 19 [] [] [] (.ptr 0 0) [[.bool true,.sl .nil []]] [])
  (h0:AT Tryz.prog 20 [.ptr 0 0,.int .u64 (id:Int)] [[.bool true,.sl .nil []]] [] (.ptr 0 0) [[.bool true,.sl (.own 0) L0]] [⟨c0,1,5⟩])
  (h1:AT Tryz.prog 21 [.ptr 0 0,.int .i64 err] [[.bool true,.sl (.own 0) L0]] [⟨c0,1,5⟩] (.ptr 0 0) [[.bool true,.sl (.own 0) L1]] [⟨c1,1,5⟩])
  (h2:AT Tryz.prog 21 [.ptr 0 0,.int .i64 num] [[.bool true,.sl (.own 0) L1]] [⟨c1,1,5⟩] (.ptr 0 0) [[.bool true,.sl (.own 0) L2]] [⟨c2,1,5⟩])
  (h3:AT Tryz.prog 21 [.ptr 0 0,.int .i64 cnt] [[.bool true,.sl (.own 0) L2]] [⟨c2,1,5⟩] (.ptr 0 0) [[.bool true,.sl (.own 0) L3]] [⟨c3,1,5⟩])
  (h4:AT Tryz.prog 20 [.ptr 0 0,.int .u64 (tok:Int)] [[.bool true,.sl (.own 0) L3]] [⟨c3,1,5⟩] (.ptr 0 0) [[.bool true,.sl (.own 0) L4]] [⟨c4,1,5⟩])
  (h5:AT Tryz.prog 22 [.ptr 0 0,byE data] [[.bool true,.sl (.own 0) L4]] [⟨c4,1,5⟩] (.ptr 0 0) [[.bool true,.sl (.own 0) L5]] [⟨c5,1,5⟩])
  (hB:AT Tryz.prog 23 [.ptr 0 0] [[.bool true,.sl (.own 0) L5]] [⟨c5,1,5⟩] (.sl .ext R) [[.bool true,.sl (.own 0) L5]] [⟨c5,1,5⟩]) :
  AP Tryz.prog 7 [.agg [.int .u64 (id:Int),.int .i64 err,.int .i64 num,.int .i64 cnt,.int .u64 (tok:Int),byE data]] (.tup [.sl .ext R,.int .i64 0]) []:=by
 refine AP.ofA (Zl Tryz.func7 Z Tryz.ntmps7 Z Z ?_)
 repeat'(first|(apply Zd (hR);kernel_rfl;(iterate 4 exact Z))|(apply Zh [] [] (hN);kernel_rfl;(iterate 10 exact Z))|(apply Zh [1] [] (h0);kernel_rfl;(iterate 10 exact Z))|(apply Zh [1] [0] (h1);kernel_rfl;(iterate 10 exact Z))|(apply Zh [1] [0] (h2);kernel_rfl;(iterate 10 exact Z))|(apply Zh [1] [0] (h3);kernel_rfl;(iterate 10 exact Z))|(apply Zh [1] [0] (h4);kernel_rfl;(iterate 10 exact Z))|(apply Zh [1] [0] (h5);kernel_rfl;(iterate 10 exact Z))|(apply Zh [1] [0] (hB);kernel_rfl;(iterate 10 exact Z))|(apply Zj Za;exact Z)|(apply Zf Za;exact Z)|(apply Zr Za;exact Z)|(apply Zc;exact Z;(first|with_reducible assumption|decide +kernel|(solve|simp only[bn])))|(apply ZV 18 YT;decide +kernel;kernel_rfl;kernel_rfl;kernel_rfl;exact Z;exact Z)|(apply Z6;(iterate 4 exact Z))|exact AE.nil _ _ _ _|(apply Yn;exact Z)|(apply VW;exact Z)|(apply YM;exact Z;exact Z;decide +kernel;exact Z)|(apply YN;exact Z)|(apply UM;exact Z)|exact AO.nil _ _ _|(apply Z5;(decide +kernel))|(apply WU;(iterate 3 exact Z))|exact AOs.nil|exact Ws rfl rfl|exact Jf rfl rfl)
 all_goals exact Qe
theorem Uv {x:RyV}(h:ZM x=true):x.id<=1099511627776/\(0<=x.err/\x.err<=99)/\(0<=x.num/\x.num<=1099511627776)/\(0<=x.cnt/\x.cnt<=1099511627776)/\x.tok<=2147483648/\x.data.length<=600:=by
 unfold ZM at h
 cases ho:Qg x with
 | true=>rw[ho]at h;cases h
 | false=>
  unfold Qg Wd at ho
  simp only[Bool.or_eq_false_iff,decide_eq_false_iff_not,List.length_map]at ho
  omega
theorem ZX (n:Nat):(vn n).length<=10/\0<(vn n).length:=Wu 9 n
theorem Y5 {x:RyV}(h:ZM x=true):(ZD x).length<=660/\0<(ZD x).length:=by
 obtain⟨_,_,_,_,_,hd⟩:=Uv h
 have h1:=ZX x.id
 have h2:=ZX x.err.toNat
 have h3:=ZX x.num.toNat
 have h4:=ZX x.cnt.toNat
 have h5:=ZX x.tok
 have h6:=ZX x.data.length
 unfold ZD
 simp only[List.length_append]
 omega
def Yh (x:RyV):D:=match ZM x with
 | true=>.tup [byE (ZD x),.int .i64 0]
 | false=>.tup [.sl .ext [],.int .i64 3]
theorem Ye [Known](x:RyV):AP Tryz.prog 7 [.agg (ryC x)] (Yh x) []:=by
 have hR:=US x
 unfold Yh
 cases h:ZM x with
 | false=>
  rw[h]at hR
  exact XT _ _ _ _ _ _ hR
 | true=>
  rw[h]at hR
  obtain⟨f1,⟨f2,f2b⟩,⟨f3,f3b⟩,⟨f4,f4b⟩,f5,f6⟩:=Uv h
  clear h
  obtain⟨id,err,num,cnt,tok,data⟩:=x
  dsimp only at *
  obtain⟨e,rfl⟩:=Int.eq_ofNat_of_zero_le f2
  obtain⟨n,rfl⟩:=Int.eq_ofNat_of_zero_le f3
  obtain⟨c,rfl⟩:=Int.eq_ofNat_of_zero_le f4
  have l0:=ZX id
  have l1:=ZX e
  have l2:=ZX n
  have l3:=ZX c
  have l4:=ZX tok
  have l5:=ZX data.length
  exact XU id _ _ _ tok data _ _ _ _ _ _ _ _ _ _ _ _ _ hR JW (Jv id (by omega)) (V4 _ e (by omega) (by omega)) (V4 _ n (by omega) (by simp only[List.length_append];omega)) (V4 _ c (by omega) (by simp only[List.length_append];omega)) (V3 _ tok (by omega) (by simp only[List.length_append];omega)) (Jw _ data (by omega) (by simp only[List.length_append];omega)) (QI _ (by simp only[List.length_append];omega))
end Go.Proofs.YthdgejfglbjogaaGreatDoor
end
