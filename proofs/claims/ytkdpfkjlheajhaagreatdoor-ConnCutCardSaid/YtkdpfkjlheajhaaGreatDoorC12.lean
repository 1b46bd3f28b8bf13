/- Package frame: bytes fed, frames written, lists of slices held against each other. -/
import Derived.Test.YtkdpfkjlheajhaaGreatDoorC11
import Derived.Test.YtkdpfkjlheajhaaGreatDoorC10
import Derived.Laws.BitsAllLaws
set_option linter.unusedVariables false
set_option linter.unusedSimpArgs false
section
open Go.RowKit Go.Pl Go.Av
namespace Go.Proofs.YtkdpfkjlheajhaaGreatDoor
set_option maxHeartbeats 4000000
theorem GB (n:Nat):(n:Int).fdiv (2 ^ min (Int.toNat 8) IntKind.i64.bits)=((n/256:Nat):Int):=by
 rw[show min (Int.toNat 8) IntKind.i64.bits=8 from rfl,show((2:Int) ^ 8)=((256:Nat):Int) from rfl,Int.fdiv_eq_ediv_of_nonneg _ (Int.natCast_nonneg _)]
 omega
theorem XV [Known](b:List UInt8)(h1:1<=b.length)(h2:b.length<=1000):AP Tryz.prog 52 [byE b] (.tup [byE (Ii b),.int .i64 0]) []:=by
 refine AP.weak (Zm Tryz.func52 Z Tryz.ntmps52 Z Z ?_)
 have d1:decide ((((b.map E.byte).length:Nat):Int)<1)=false:=by simp;omega
 have d2:decide ((((b.map E.byte).length:Nat):Int)>1000)=false:=by simp;omega
 have hne:b.map E.byte ≠ []:=by cases b<;>simp at h1 ⊢
 have hU:=ZV b
 repeat'(first|(apply Zj Za;exact Z)|(apply Zg Za;exact Z)|(apply Zq Za;exact Z)|refine Qo ?_|(apply Zi;(iterate 3 exact Z);(first|with_reducible assumption|(solve|simp only[bn])))|(apply Zl;exact Z;(first|with_reducible assumption|(solve|simp only[bn]));exact Z;exact Z)|(apply Ze;exact Z;(first|with_reducible assumption|(solve|simp only[bn])))|refine Zp Za Z Z Z Z ?_|refine VN Za Z Z Z Z Z Z Z Z Z Z Z Z ?_|(apply Z6 Za;(iterate 6 exact Z);(first|with_reducible assumption|exact Z|rotate_left);exact Z;exact Z;(first|exact Zn rfl|with_reducible assumption|rotate_left);(first|exact Zn rfl|with_reducible assumption|rotate_left);(first|exact Qb|rotate_left);(first|exact Qb|rotate_left);(first|exact Qb|rotate_left);exact Z;exact Z)|(apply QD;exact Z;exact Z;(first|exact Qb|rotate_left);exact Z))
 ·(apply Oh;(apply Zd Za;exact Z);exact Z)
  have e1:E.int .u8 (IntKind.u8.wrap (((((b.map E.byte).length:Nat):Int)).fdiv (2 ^ min (Int.toNat 8) IntKind.i64.bits)))=E.byte (UInt8.ofNat (b.length/256)):=by
   rw[GB,List.length_map,IntKind.wrap_u8']
   unfold E.byte
   rw[UInt8.toNat_ofNat']
   congr 1
  have e2:E.int .u8 (IntKind.u8.wrap ((((b.map E.byte).length:Nat):Int)))=E.byte (UInt8.ofNat (b.length % 256)):=by
   rw[List.length_map,IntKind.wrap_u8']
   unfold E.byte
   rw[UInt8.toNat_ofNat']
   congr 1
   omega
  have e3:=congr (congrArg (fun(x y:E)=>D.tup [D.sl .ext (x::y::b.map E.byte),D.int .i64 0]) e1) e2
  exact e3
 ·simp[maxLen];omega
 ·simp;omega
theorem be2 (x y:UInt8):bits .or .i64 (IntKind.i64.wrap (IntKind.i64.wrap (x.toNat:Int)*2 ^ min (Int.toNat 8) IntKind.i64.bits)) (IntKind.i64.wrap (y.toNat:Int))=((256*x.toNat+y.toNat:Nat):Int):=by
 have hx:=x.toNat_lt
 have hy:=y.toNat_lt
 rw[show min (Int.toNat 8) IntKind.i64.bits=8 from rfl,IntWalk.i64_in (x.toNat:Int) (by omega),IntWalk.i64_in (y.toNat:Int) (by omega),IntWalk.i64_in _ (by omega)]
 have e:(x.toNat:Int)*2 ^ 8=((256*x.toNat:Nat):Int):=by omega
 rw[e]
 have h1:(BitVec.ofInt 64 ((256*x.toNat:Nat):Int)).toNat=256*x.toNat:=by
  rw[BitVec.ofInt_natCast,BitVec.toNat_ofNat];exact Nat.mod_eq_of_lt (by omega)
 have h2:(BitVec.ofInt 64 (y.toNat:Int)).toNat=y.toNat:=by
  rw[BitVec.ofInt_natCast,BitVec.toNat_ofNat];exact Nat.mod_eq_of_lt (by omega)
 show IntKind.i64.wrap ((BitVec.ofInt 64 ((256*x.toNat:Nat):Int) ||| BitVec.ofInt 64 (y.toNat:Int)).toNat:Int)=_
 rw[BitVec.toNat_or,h1,h2,nat_join 8 (256*x.toNat) y.toNat (by omega) (by omega),IntWalk.i64_in _ (by omega)]
theorem VU [Known](l b:List UInt8)(hl:l.length+b.length<=1099511627776):AQ Tryz.prog 44 [.ptr 0 0,byE b] (UT true l 0) (.tup [JP (ZG (l++b)).1,.int .i64 (ZG (l++b)).2.2]) (UT true (ZG (l++b)).2.1 (ZG (l++b)).2.2):=by
 refine AQ.weak (Zm Tryz.func44 Z Tryz.ntmps44 Z Z ?_)
 have d1:((0:Int) != 0)=false:=rfl
 have hfl:[l,b].flatten=l++b:=by simp
 repeat'(first|(apply Zg Za;exact Z))
 refine XN 0 (fun k tm bx fr=>∃(out:List (List UInt8)) (cur:List UInt8) (tk:Tok),k=cur.length/\ZG (l++b)=(out++(ZG cur).1,(ZG cur).2)/\out.length+cur.length<=l.length+b.length/\tm=[(0,.ptr 0 0),(7,.sl tk (out.map E.bys))]/\bx=UT true cur 0/\((tk=.nil/\out=[]/\fr=[])\/(∃ c,tk=.own 1/\out ≠ []/\c=(out.map E.bys).length/\fr=[⟨1,1,26⟩,⟨c,1,26⟩]))) (l.length+b.length+1) rfl ?pass (fun H=>?_)
 case pass=>
  rintro k tm bx fr ⟨out,cur,tk,rfl,hT,hle,rfl,rfl,hc⟩
  have hU:=ZV cur
  have hO:=Xp out
  by_cases h2:cur.length<2
  ·have g2:decide ((((cur.map E.byte).length:Nat):Int)<2)=true:=decide_eq_true (by rw[List.length_map];omega)
   repeat'(first|(apply Zj Za;exact Z)|(apply Zg Za;exact Z)|(apply Zq Za;exact Z)|refine VP ?_|(apply Zf;exact Z;(first|with_reducible assumption|(solve|simp only[bn])))|refine Zp Za Z Z Z Z ?_)
   (apply Zu [0];(apply Zd Za;exact Z);(iterate 4 exact Z))
   ·rw[hT,Y3 h2];simp
   ·rw[hT,Y3 h2];rfl
  have g2:decide ((((cur.map E.byte).length:Nat):Int)<2)=false:=decide_eq_false (by rw[List.length_map];omega)
  obtain⟨x,y,r,hcur⟩:∃ x y r,cur=x::y::r:=by
   match cur,h2 with
   | x::y::r,_=>exact⟨x,y,r,rfl⟩
   | [_],h=>simp at h
   | [],h=>simp at h
  have hx0:(cur.map E.byte)[(0:Int).toNat]?=some (E.byte x):=by rw[hcur];rfl
  have hy0:(cur.map E.byte)[(1:Int).toNat]?=some (E.byte y):=by rw[hcur];rfl
  have hn:Z0 cur=256*x.toNat+y.toNat:=by rw[hcur];rfl
  have e0:=be2 x y
  rw[<- hn]at e0
  by_cases h0:Z0 cur=0
  ·have g0:(((Z0 cur:Nat):Int)==0)=true:=by rw[h0];rfl
   repeat'(first|rw[e0]|(apply Zh [0] (Ji true cur 0 3);kernel_rfl;(iterate 7 exact Z))|(apply Zj Za;exact Z)|(apply Zg Za;exact Z)|(apply Zq Za;exact Z)|refine Qo ?_|refine VP ?_|(apply Zf;exact Z;(first|with_reducible assumption|(solve|simp only[bn])))|(apply Ze;exact Z;(first|with_reducible assumption|(solve|simp only[bn])))|refine Zp Za Z Z Z Z ?_|(apply Y1 6 Z9;decide +kernel;kernel_rfl;kernel_rfl;exact Z;exact Z)|(apply Y1 15 Z9;decide +kernel;kernel_rfl;kernel_rfl;exact Z;exact Z)|(apply VO;(iterate 3 exact Z))|refine AD.nil _|exact Qa rfl|(apply Zv Za;(iterate 6 exact Z);(first|exact Qb|rotate_left);(first|with_reducible assumption|exact Z);(first|exact Zn rfl|with_reducible assumption|rotate_left))|(apply Wd;exact Z;exact Z;(first|exact Qb|rotate_left);exact Z))
   (apply Zu [0];(apply Zd Za;exact Z);(iterate 4 exact Z))
   ·rw[hT,Vw h2 h0];simp
   ·rw[hT,Vw h2 h0];rfl
  have g0:(((Z0 cur:Nat):Int)==0)=false:=by simp;omega
  by_cases h1:Z0 cur>1000
  ·have g1:decide (((Z0 cur:Nat):Int)>1000)=true:=decide_eq_true (by omega)
   repeat'(first|rw[e0]|(apply Zh [0] (Ji true cur 0 2);kernel_rfl;(iterate 7 exact Z))|(apply Zj Za;exact Z)|(apply Zg Za;exact Z)|(apply Zq Za;exact Z)|refine Qo ?_|refine VP ?_|(apply Zf;exact Z;(first|with_reducible assumption|(solve|simp only[bn])))|(apply Ze;exact Z;(first|with_reducible assumption|(solve|simp only[bn])))|refine Zp Za Z Z Z Z ?_|(apply Y1 6 Z9;decide +kernel;kernel_rfl;kernel_rfl;exact Z;exact Z)|(apply Y1 15 Z9;decide +kernel;kernel_rfl;kernel_rfl;exact Z;exact Z)|(apply VO;(iterate 3 exact Z))|refine AD.nil _|exact Qa rfl|(apply Zv Za;(iterate 6 exact Z);(first|exact Qb|rotate_left);(first|with_reducible assumption|exact Z);(first|exact Zn rfl|with_reducible assumption|rotate_left))|(apply Wd;exact Z;exact Z;(first|exact Qb|rotate_left);exact Z))
   (apply Zu [0];(apply Zd Za;exact Z);(iterate 4 exact Z))
   ·rw[hT,Vx h2 h1];simp
   ·rw[hT,Vx h2 h1];rfl
  have g1:decide (((Z0 cur:Nat):Int)>1000)=false:=decide_eq_false (by omega)
  have e1:IntKind.i64.wrap ((((cur.map E.byte).length:Nat):Int)-2)=((cur.length-2:Nat):Int):=by
   rw[List.length_map,IntWalk.i64_in _ (by omega)];omega
  by_cases h3:cur.length<Z0 cur+2
  ·have g3:decide (((cur.length-2:Nat):Int) ≥ ((Z0 cur:Nat):Int))=false:=decide_eq_false (by omega)
   repeat'(first|rw[e0]|rw[e1]|(apply Zj Za;exact Z)|(apply Zg Za;exact Z)|(apply Zq Za;exact Z)|refine Qo ?_|refine VP ?_|(apply Ze;exact Z;(first|with_reducible assumption|(solve|simp only[bn])))|refine Zp Za Z Z Z Z ?_|(apply Y1 6 Z9;decide +kernel;kernel_rfl;kernel_rfl;exact Z;exact Z)|(apply Y1 15 Z9;decide +kernel;kernel_rfl;kernel_rfl;exact Z;exact Z)|(apply VO;(iterate 3 exact Z))|refine AD.nil _|exact Qa rfl|(apply Zv Za;(iterate 6 exact Z);(first|exact Qb|rotate_left);(first|with_reducible assumption|exact Z);(first|exact Zn rfl|with_reducible assumption|rotate_left))|(apply Wd;exact Z;exact Z;(first|exact Qb|rotate_left);exact Z))
   (apply Zu [0];(apply Zd Za;exact Z);(iterate 4 exact Z))
   ·rw[hT,Vy h2 h0 h1 h3];simp
   ·rw[hT,Vy h2 h0 h1 h3];rfl
  have g3:decide (((cur.length-2:Nat):Int) ≥ ((Z0 cur:Nat):Int))=true:=decide_eq_true (by omega)
  have e2:IntKind.i64.wrap (2+((Z0 cur:Nat):Int))=((2+Z0 cur:Nat):Int):=by
   rw[IntWalk.i64_in _ (by omega)];omega
  have hT1:=Wy h2 h0 h1 h3
  have hs1:((cur.map E.byte).take (2+Z0 cur)).drop 2=((cur.take (2+Z0 cur)).drop 2).map E.byte:=by rw[List.map_drop,List.map_take]
  have hs2:(((cur.map E.byte).take (cur.map E.byte).length).drop ((2+Z0 cur:Nat):Int).toNat)=(cur.drop (2+Z0 cur)).map E.byte:=by rw[List.take_length,Int.toNat_natCast,List.map_drop]
  rcases hc with⟨rfl,rfl,rfl⟩ | ⟨c,rfl,hne,hcl,rfl⟩
  ·repeat'(first|rw[e0]|rw[e1]|rw[e2]|(apply Zc (Ww ((cur.take (2+Z0 cur)).drop 2) (by simp;omega));kernel_rfl;(iterate 4 exact Z))|(apply Qi Za (p:=2) (q:=2+Z0 cur) (r:=2+Z0 cur);(iterate 11 exact Z);omega;exact Nat.le_refl _;(rw[List.length_map];omega);exact hU;exact hs1)|(apply Zo Za;(iterate 5 exact Z);exact .lit _ _ _ _ rfl (Int.natCast_nonneg _);exact .dft _;(rw[List.length_map];omega);exact Nat.le_refl _;exact hU;exact hs2)|(apply Zj Za;exact Z)|(apply Zg Za;exact Z)|(apply Zq Za;exact Z)|refine Qo ?_|refine Qg ?_|(apply Zf;exact Z;(first|with_reducible assumption|(solve|simp only[bn])))|(apply Ze;exact Z;(first|with_reducible assumption|(solve|simp only[bn])))|refine Zp Za Z Z Z Z ?_|refine VN Za Z Z Z Z Z Z Z Z Z Z Z Z ?_|(apply Y1 15 Z9;decide +kernel;kernel_rfl;kernel_rfl;exact Z;exact Z)|(apply VO;(iterate 3 exact Z))|refine AD.nil _|exact Qa rfl|(apply Vq Za;(iterate 6 exact Z);(first|exact Zn rfl|with_reducible assumption|rotate_left);(first|exact Qb|rotate_left);(first|exact Qb|rotate_left);(first|exact Qb|rotate_left);(iterate 3 exact Z))|(apply Zv Za;(iterate 6 exact Z);(first|exact Qb|rotate_left);(first|with_reducible assumption|exact Z);(first|exact Zn rfl|with_reducible assumption|rotate_left))|(apply Wd;exact Z;exact Z;(first|exact Qb|rotate_left);exact Z))
   ·refine Lands.mk' (m:=(cur.drop (2+Z0 cur)).length) (by simp;omega) ⟨[(cur.take (2+Z0 cur)).drop 2],cur.drop (2+Z0 cur),.own 1,rfl,by rw[hT,hT1];rfl,by simp at hle ⊢;omega,rfl,rfl,.inr ⟨1,rfl,by simp,rfl,rfl⟩⟩ ?_ rfl rfl rfl rfl rfl rfl
    exact .cons rfl (.cons rfl .nil)
   all_goals first|(show 1<=maxLen;decide)|(show 1*24<=_;decide)
  ·have hne':out.map E.bys ≠ []:=by simpa using hne
   repeat'(first|rw[e0]|rw[e1]|rw[e2]|(apply Zc (Ww ((cur.take (2+Z0 cur)).drop 2) (by simp;omega));kernel_rfl;(iterate 4 exact Z))|(apply Qi Za (p:=2) (q:=2+Z0 cur) (r:=2+Z0 cur);(iterate 11 exact Z);omega;exact Nat.le_refl _;(rw[List.length_map];omega);exact hU;exact hs1)|(apply Zo Za;(iterate 5 exact Z);exact .lit _ _ _ _ rfl (Int.natCast_nonneg _);exact .dft _;(rw[List.length_map];omega);exact Nat.le_refl _;exact hU;exact hs2)|(apply Zj Za;exact Z)|(apply Zg Za;exact Z)|(apply Zq Za;exact Z)|refine Qo ?_|refine Qg ?_|(apply Zf;exact Z;(first|with_reducible assumption|(solve|simp only[bn])))|(apply Ze;exact Z;(first|with_reducible assumption|(solve|simp only[bn])))|refine Zp Za Z Z Z Z ?_|refine VN Za Z Z Z Z Z Z Z Z Z Z Z Z ?_|(apply Y1 15 Z9;decide +kernel;kernel_rfl;kernel_rfl;exact Z;exact Z)|(apply VO;(iterate 3 exact Z))|refine AD.nil _|exact Qa rfl|(apply Z6 Za;(iterate 6 exact Z);(first|with_reducible assumption|exact Z|rotate_left);exact Z;exact Z;(first|exact Zn rfl|with_reducible assumption|rotate_left);(first|exact Zn rfl|with_reducible assumption|rotate_left);(first|exact Qb|rotate_left);(first|exact Qb|rotate_left);(first|exact Qb|rotate_left);exact Z;exact Z)|(apply Zv Za;(iterate 6 exact Z);(first|exact Qb|rotate_left);(first|with_reducible assumption|exact Z);(first|exact Zn rfl|with_reducible assumption|rotate_left))|(apply Wd;exact Z;exact Z;(first|exact Qb|rotate_left);exact Z))
   ·refine Lands.mk' (m:=(cur.drop (2+Z0 cur)).length) (by simp;omega) ⟨out++[(cur.take (2+Z0 cur)).drop 2],cur.drop (2+Z0 cur),.own 1,rfl,by rw[hT,hT1];simp,by simp at hle ⊢;omega,rfl,rfl,.inr ⟨_,rfl,by simp,rfl,rfl⟩⟩ ?_ rfl ?_ rfl rfl rfl rfl
    ·exact .cons rfl (.cons (by rw[List.map_append];rfl) .nil)
    ·rw[List.map_append,List.length_append];rfl
   ·show(out.map E.bys).length+1<=maxLen
    rw[List.length_map];unfold maxLen;omega
   ·show((out.map E.bys).length+1)*24<=_
    rw[List.length_map];omega
 ·repeat'(first|refine H _ ?_|(apply Zh [0] (JS l 0);kernel_rfl;(iterate 7 exact Z))|(apply Zc (XT [l,b] (by rw[hfl,List.length_append];omega) (by simp));kernel_rfl;(iterate 4 exact Z))|refine Xa Z Z ?_|refine UX Z Z ?_|refine X7 Z Z Z Z Z ?_|refine QZ Za Z Z Z Z Z Z ?_|refine VH Za Z Z Z Z Z Z Z ?_|refine Ug Z Z ?_|refine Q0 Za Z Z Z Z Z Z Z Z ?_|refine Jz ?_|refine UV ?_|refine QH ?_|(apply Ze;exact Z;(first|with_reducible assumption|(guard_target =ₛ true=true;rfl)|(guard_target =ₛ false=false;rfl)|(guard_target =ₛ (!true)=false;rfl)|(guard_target =ₛ (!false)=true;rfl)))|refine VN Za Z Z Z Z Z Z Z Z Z Z Z Z ?_|refine QA ?_|refine QV ?_)
  refine Lands.mk' (m:=(l++b).length) (by simp) ⟨[],l++b,.nil,rfl,by simp,by simp,rfl,rfl,.inl ⟨rfl,rfl,rfl⟩⟩ ?_ ?_ rfl rfl rfl rfl rfl
  ·exact .cons rfl (.cons rfl .nil)
  ·rw[hfl];rfl
structure RyV where
 id:Nat
 err:Int
 num:Int
 cnt:Int
 tok:Nat
 data:List UInt8
abbrev ryC (x:RyV):List D:=[.int .u64 (x.id:Int),.int .i64 x.err,.int .i64 x.num,.int .i64 x.cnt,.int .u64 (x.tok:Int),byE x.data]
def QK (a b:RyV):Bool:=((a.id:Int)==(b.id:Int))&&((a.err==b.err)&&((a.num==b.num)&&((a.cnt==b.cnt)&&(((a.tok:Int)==(b.tok:Int))&&(a.data==b.data)))))
theorem XW [Known](a b:RyV):AP Tryz.prog 90 [.agg (ryC a),.agg (ryC b)] (.bool (QK a b)) []:=by
 have hB:=YB a.data b.data
 unfold QK
 refine AP.ofA (Zm Tryz.func90 Z Tryz.ntmps90 Z Z ?_)
 repeat'(first|(apply Zc (hB);kernel_rfl;(iterate 4 exact Z))|(apply Zj Za;exact Z)|(apply Zg Za;exact Z)|(apply Zi;(iterate 3 exact Z);(first|with_reducible assumption|(solve|simp only[bn])))|(apply Zr;(iterate 3 exact Z);(first|with_reducible assumption|(solve|simp only[bn])))|(apply Wb;exact Z;exact Z;all_goals intro hb)|(apply Zk;exact Z;(first|with_reducible assumption|(solve|simp only[bn]));exact Z;exact Z)|(apply Zl;exact Z;(first|with_reducible assumption|(solve|simp only[bn]));exact Z;exact Z))
 all_goals(apply Zu [];(apply Zd Za;exact Z);(iterate 4 exact Z))
 all_goals first|rfl|(simp only[*,Bool.true_and,Bool.false_and];done)
theorem XX [Known](id:Nat)(e:Int):AP Tryz.prog 91 [.int .u64 (id:Int),.int .i64 e] (.agg (ryC ⟨id,e,0,0,0,[]⟩)) []:=by
 refine AP.ofA (Zm Tryz.func91 Z Tryz.ntmps91 Z Z ?_)
 repeat'(first|(apply Zg Za;exact Z))
 all_goals exact Qe
def Vz (n:Int):Bool:=decide (n<0)||decide (n>1099511627776)
theorem Ui [Known](n:Int):AP Tryz.prog 112 [.int .i64 n] (.bool (Vz n)) []:=by
 unfold Vz
 refine AP.ofA (Zm Tryz.func112 Z Tryz.ntmps112 Z Z ?_)
 repeat'(first|(apply Zj Za;exact Z)|(apply Zg Za;exact Z)|(apply Zi;(iterate 3 exact Z);(first|with_reducible assumption|(solve|simp only[bn])))|(apply Zz;(iterate 3 exact Z);(first|with_reducible assumption|(solve|simp only[bn])))|(apply Wb;exact Z;exact Z;all_goals intro hb)|(apply Zk;exact Z;(first|with_reducible assumption|(solve|simp only[bn]));exact Z;exact Z)|(apply Zl;exact Z;(first|with_reducible assumption|(solve|simp only[bn]));exact Z;exact Z))
 all_goals(apply Zu [];(apply Zd Za;exact Z);(iterate 4 exact Z))
 all_goals first|rfl|(simp only[*];done)|(simp only[*];rfl)
def IQ:Bool->Bool->Int
 | true,_=>0
 | false,true=>1
 | false,false => -1
theorem GC (l:List Int):Uni 1 (l.map fun n:Int=>E.int .i64 n):=Uni.map (f:=fun n:Int=>E.int .i64 n) (fun _=>rfl) l
theorem Ot [Known](a b:Int)(x y:Bool)(hx:Vz a=x)(hy:Vz b=y):AP Tryz.prog 121 [.sl .ext [.int .i64 a,.int .i64 b],.fn 112 []] (.int .i64 (IQ x y)) []:=by
 have ga:=Ui a
 have gb:=Ui b
 rw[hx]at ga
 rw[hy]at gb
 have hU:=GC [a,b]
 have q0:decide ((0:Int)<(([.int .i64 a,.int .i64 b]:List E).length:Int))=true:=rfl
 have q1:decide ((1:Int)<(([.int .i64 a,.int .i64 b]:List E).length:Int))=true:=rfl
 have q2:decide ((2:Int)<(([.int .i64 a,.int .i64 b]:List E).length:Int))=false:=rfl
 have e1:IntKind.i64.wrap (0+1)=1:=by decide
 have e2:IntKind.i64.wrap (1+1)=2:=by decide
 cases x<;>cases y
 all_goals
  refine AP.ofA (Zm Tryz.func121 Z Tryz.ntmps121 Z Z ?_)
  repeat'(first|rw[e1]|rw[e2]|(apply Qm (ga);exact Z;kernel_rfl;(iterate 3 exact Z))|(apply Qm (gb);exact Z;kernel_rfl;(iterate 3 exact Z))|refine Zv Za Z Z Z Z Z Z (by decide) Z hU ?_|refine We 20 ?_|refine WI ?_|(apply Zj Za;exact Z)|(apply Zg Za;exact Z)|(apply Zq Za;exact Z)|refine Zf Z Qt ?_|refine Ze Z Qt ?_|refine QX ?_|refine Zp Za Z Z Z Z ?_)
  all_goals exact Qe
theorem KJ [Known](a b:Int):AP Tryz.prog 111 [.sl .ext [.int .i64 a,.int .i64 b],.fn 112 []] (.bool (Vz a||Vz b)) []:=by
 cases hx:Vz a<;>cases hy:Vz b
 all_goals
  have hI:=Ot a b _ _ hx hy
  refine AP.ofA (Zm Tryz.func111 Z Tryz.ntmps111 Z Z ?_)
  repeat'(first|(apply Zc (hI);kernel_rfl;(iterate 4 exact Z))|(apply Zj Za;exact Z)|(apply Zg Za;exact Z))
  all_goals exact Qe
theorem JU [Known](a b:Int):AP Tryz.prog 89 [.sl .ext [.int .i64 a,.int .i64 b]] (.bool (!(Vz a||Vz b))) []:=by
 have hI:=KJ a b
 refine AP.ofA (Zm Tryz.func89 Z Tryz.ntmps89 Z Z ?_)
 repeat'(first|(apply Zc (hI);kernel_rfl;(iterate 4 exact Z))|(apply Zj Za;exact Z)|(apply Zg Za;exact Z))
 all_goals exact Qe
def Xs (x:RyV):Bool:=decide ((x.id:Int)>1099511627776)||(decide (x.err<0)||(decide (x.err>99)||((Vz x.num||Vz x.cnt)||(decide ((x.tok:Int)>2147483648)||decide (((x.data.map E.byte).length:Int)>600)))))
def Va (x:RyV):Bool:=match Xs x with
 | true=>false
 | false=>match x.err != 0 with
  | true=>QK x ⟨x.id,x.err,0,0,0,[]⟩
  | false=>true
theorem GD [Known](id:Nat)(err num cnt:Int)(tok:Nat)(data:List UInt8)(w s:Bool)(g0:decide ((id:Int)>1099511627776)=true)
  (hW:AP Tryz.prog 89 [.sl .ext [.int .i64 num,.int .i64 cnt]] (.bool (!w)) [])
  (hF:AP Tryz.prog 91 [.int .u64 (id:Int),.int .i64 err] (.agg [.int .u64 (id:Int),.int .i64 err,.int .i64 0,.int .i64 0,.int .u64 0,.sl .ext []]) [])
  (hS:AP Tryz.prog 90 [.agg [.int .u64 (id:Int),.int .i64 err,.int .i64 num,.int .i64 cnt,.int .u64 (tok:Int),byE data],.agg [.int .u64 (id:Int),.int .i64 err,.int .i64 0,.int .i64 0,.int .u64 0,.sl .ext []]] (.bool s) []) :
  AP Tryz.prog 59 [.agg [.int .u64 (id:Int),.int .i64 err,.int .i64 num,.int .i64 cnt,.int .u64 (tok:Int),byE data]] (.bool false) []:=by
 refine AP.ofA (Zm Tryz.func59 Z Tryz.ntmps59 Z Z ?_)
 repeat'(first|(apply Zj Za;exact Z)|(apply Zg Za;exact Z)|(apply Zq Za;exact Z)|refine Zz Z Z Z Qt ?_|refine Zk Z Qt Z Z ?_|refine Zf Z Qt ?_)
 all_goals exact Qe
theorem GE [Known](id:Nat)(err num cnt:Int)(tok:Nat)(data:List UInt8)(w s:Bool)(g0:decide ((id:Int)>1099511627776)=false)(g1:decide (err<0)=true)
  (hW:AP Tryz.prog 89 [.sl .ext [.int .i64 num,.int .i64 cnt]] (.bool (!w)) [])
  (hF:AP Tryz.prog 91 [.int .u64 (id:Int),.int .i64 err] (.agg [.int .u64 (id:Int),.int .i64 err,.int .i64 0,.int .i64 0,.int .u64 0,.sl .ext []]) [])
  (hS:AP Tryz.prog 90 [.agg [.int .u64 (id:Int),.int .i64 err,.int .i64 num,.int .i64 cnt,.int .u64 (tok:Int),byE data],.agg [.int .u64 (id:Int),.int .i64 err,.int .i64 0,.int .i64 0,.int .u64 0,.sl .ext []]] (.bool s) []) :
  AP Tryz.prog 59 [.agg [.int .u64 (id:Int),.int .i64 err,.int .i64 num,.int .i64 cnt,.int .u64 (tok:Int),byE data]] (.bool false) []:=by
 refine AP.ofA (Zm Tryz.func59 Z Tryz.ntmps59 Z Z ?_)
 repeat'(first|(apply Zj Za;exact Z)|(apply Zg Za;exact Z)|(apply Zq Za;exact Z)|refine Zi Z Z Z Qt ?_|refine Zz Z Z Z Qt ?_|refine Zk Z Qt Z Z ?_|refine Zl Z Qt Z Z ?_|refine Zf Z Qt ?_)
 all_goals exact Qe
theorem GF [Known](id:Nat)(err num cnt:Int)(tok:Nat)(data:List UInt8)(w s:Bool)(g0:decide ((id:Int)>1099511627776)=false)(g1:decide (err<0)=false)(g2:decide (err>99)=true)
  (hW:AP Tryz.prog 89 [.sl .ext [.int .i64 num,.int .i64 cnt]] (.bool (!w)) [])
  (hF:AP Tryz.prog 91 [.int .u64 (id:Int),.int .i64 err] (.agg [.int .u64 (id:Int),.int .i64 err,.int .i64 0,.int .i64 0,.int .u64 0,.sl .ext []]) [])
  (hS:AP Tryz.prog 90 [.agg [.int .u64 (id:Int),.int .i64 err,.int .i64 num,.int .i64 cnt,.int .u64 (tok:Int),byE data],.agg [.int .u64 (id:Int),.int .i64 err,.int .i64 0,.int .i64 0,.int .u64 0,.sl .ext []]] (.bool s) []) :
  AP Tryz.prog 59 [.agg [.int .u64 (id:Int),.int .i64 err,.int .i64 num,.int .i64 cnt,.int .u64 (tok:Int),byE data]] (.bool false) []:=by
 refine AP.ofA (Zm Tryz.func59 Z Tryz.ntmps59 Z Z ?_)
 repeat'(first|(apply Zj Za;exact Z)|(apply Zg Za;exact Z)|(apply Zq Za;exact Z)|refine Zi Z Z Z Qt ?_|refine Zz Z Z Z Qt ?_|refine Zk Z Qt Z Z ?_|refine Zl Z Qt Z Z ?_|refine Zf Z Qt ?_)
 all_goals exact Qe
theorem GG [Known](id:Nat)(err num cnt:Int)(tok:Nat)(data:List UInt8)(w s:Bool)(g0:decide ((id:Int)>1099511627776)=false)(g1:decide (err<0)=false)(g2:decide (err>99)=false)(g3:w=true)
  (hW:AP Tryz.prog 89 [.sl .ext [.int .i64 num,.int .i64 cnt]] (.bool (!w)) [])
  (hF:AP Tryz.prog 91 [.int .u64 (id:Int),.int .i64 err] (.agg [.int .u64 (id:Int),.int .i64 err,.int .i64 0,.int .i64 0,.int .u64 0,.sl .ext []]) [])
  (hS:AP Tryz.prog 90 [.agg [.int .u64 (id:Int),.int .i64 err,.int .i64 num,.int .i64 cnt,.int .u64 (tok:Int),byE data],.agg [.int .u64 (id:Int),.int .i64 err,.int .i64 0,.int .i64 0,.int .u64 0,.sl .ext []]] (.bool s) []) :
  AP Tryz.prog 59 [.agg [.int .u64 (id:Int),.int .i64 err,.int .i64 num,.int .i64 cnt,.int .u64 (tok:Int),byE data]] (.bool false) []:=by
 subst g3
 refine AP.ofA (Zm Tryz.func59 Z Tryz.ntmps59 Z Z ?_)
 repeat'(first|(apply Zc (hW);kernel_rfl;(iterate 4 exact Z))|(apply Zj Za;exact Z)|(apply Zg Za;exact Z)|(apply Zq Za;exact Z)|refine Zi Z Z Z Qt ?_|refine Zz Z Z Z Qt ?_|refine Zk Z Qt Z Z ?_|refine Zl Z Qt Z Z ?_|refine Zf Z Qt ?_|refine Yl Za Z Z Z Z Z Z Z Z Z Z Z Z ?_)
 all_goals exact Qe
theorem GH [Known](id:Nat)(err num cnt:Int)(tok:Nat)(data:List UInt8)(w s:Bool)(g0:decide ((id:Int)>1099511627776)=false)(g1:decide (err<0)=false)(g2:decide (err>99)=false)(g3:w=false)(g4:decide ((tok:Int)>2147483648)=true)
  (hW:AP Tryz.prog 89 [.sl .ext [.int .i64 num,.int .i64 cnt]] (.bool (!w)) [])
  (hF:AP Tryz.prog 91 [.int .u64 (id:Int),.int .i64 err] (.agg [.int .u64 (id:Int),.int .i64 err,.int .i64 0,.int .i64 0,.int .u64 0,.sl .ext []]) [])
  (hS:AP Tryz.prog 90 [.agg [.int .u64 (id:Int),.int .i64 err,.int .i64 num,.int .i64 cnt,.int .u64 (tok:Int),byE data],.agg [.int .u64 (id:Int),.int .i64 err,.int .i64 0,.int .i64 0,.int .u64 0,.sl .ext []]] (.bool s) []) :
  AP Tryz.prog 59 [.agg [.int .u64 (id:Int),.int .i64 err,.int .i64 num,.int .i64 cnt,.int .u64 (tok:Int),byE data]] (.bool false) []:=by
 subst g3
 refine AP.ofA (Zm Tryz.func59 Z Tryz.ntmps59 Z Z ?_)
 repeat'(first|(apply Zc (hW);kernel_rfl;(iterate 4 exact Z))|(apply Zj Za;exact Z)|(apply Zg Za;exact Z)|(apply Zq Za;exact Z)|refine Zi Z Z Z Qt ?_|refine Zz Z Z Z Qt ?_|refine Zk Z Qt Z Z ?_|refine Zl Z Qt Z Z ?_|refine Zf Z Qt ?_|refine Yl Za Z Z Z Z Z Z Z Z Z Z Z Z ?_)
 all_goals exact Qe
theorem GI [Known](id:Nat)(err num cnt:Int)(tok:Nat)(data:List UInt8)(w s:Bool)(g0:decide ((id:Int)>1099511627776)=false)(g1:decide (err<0)=false)(g2:decide (err>99)=false)(g3:w=false)(g4:decide ((tok:Int)>2147483648)=false)(g5:decide (((data.map E.byte).length:Int)>600)=true)
  (hW:AP Tryz.prog 89 [.sl .ext [.int .i64 num,.int .i64 cnt]] (.bool (!w)) [])
  (hF:AP Tryz.prog 91 [.int .u64 (id:Int),.int .i64 err] (.agg [.int .u64 (id:Int),.int .i64 err,.int .i64 0,.int .i64 0,.int .u64 0,.sl .ext []]) [])
  (hS:AP Tryz.prog 90 [.agg [.int .u64 (id:Int),.int .i64 err,.int .i64 num,.int .i64 cnt,.int .u64 (tok:Int),byE data],.agg [.int .u64 (id:Int),.int .i64 err,.int .i64 0,.int .i64 0,.int .u64 0,.sl .ext []]] (.bool s) []) :
  AP Tryz.prog 59 [.agg [.int .u64 (id:Int),.int .i64 err,.int .i64 num,.int .i64 cnt,.int .u64 (tok:Int),byE data]] (.bool false) []:=by
 subst g3
 refine AP.ofA (Zm Tryz.func59 Z Tryz.ntmps59 Z Z ?_)
 repeat'(first|(apply Zc (hW);kernel_rfl;(iterate 4 exact Z))|(apply Zj Za;exact Z)|(apply Zg Za;exact Z)|(apply Zq Za;exact Z)|refine Zi Z Z Z Qt ?_|refine Zl Z Qt Z Z ?_|refine Zf Z Qt ?_|refine Zp Za Z Z Z Z ?_|refine Yl Za Z Z Z Z Z Z Z Z Z Z Z Z ?_)
 all_goals exact Qe
theorem GJ [Known](id:Nat)(err num cnt:Int)(tok:Nat)(data:List UInt8)(w s:Bool)(g0:decide ((id:Int)>1099511627776)=false)(g1:decide (err<0)=false)(g2:decide (err>99)=false)(g3:w=false)(g4:decide ((tok:Int)>2147483648)=false)(g5:decide (((data.map E.byte).length:Int)>600)=false)(g6:(err != 0)=true)
  (hW:AP Tryz.prog 89 [.sl .ext [.int .i64 num,.int .i64 cnt]] (.bool (!w)) [])
  (hF:AP Tryz.prog 91 [.int .u64 (id:Int),.int .i64 err] (.agg [.int .u64 (id:Int),.int .i64 err,.int .i64 0,.int .i64 0,.int .u64 0,.sl .ext []]) [])
  (hS:AP Tryz.prog 90 [.agg [.int .u64 (id:Int),.int .i64 err,.int .i64 num,.int .i64 cnt,.int .u64 (tok:Int),byE data],.agg [.int .u64 (id:Int),.int .i64 err,.int .i64 0,.int .i64 0,.int .u64 0,.sl .ext []]] (.bool s) []) :
  AP Tryz.prog 59 [.agg [.int .u64 (id:Int),.int .i64 err,.int .i64 num,.int .i64 cnt,.int .u64 (tok:Int),byE data]] (.bool s) []:=by
 subst g3
 refine AP.ofA (Zm Tryz.func59 Z Tryz.ntmps59 Z Z ?_)
 repeat'(first|(apply Zc (hW);kernel_rfl;(iterate 4 exact Z))|(apply Zc (hF);kernel_rfl;(iterate 4 exact Z))|(apply Zc (hS);kernel_rfl;(iterate 4 exact Z))|(apply Zj Za;exact Z)|(apply Zg Za;exact Z)|(apply Zq Za;exact Z)|refine Zi Z Z Z Qt ?_|refine Zl Z Qt Z Z ?_|refine Zf Z Qt ?_|refine Ze Z Qt ?_|refine Zp Za Z Z Z Z ?_|refine Yl Za Z Z Z Z Z Z Z Z Z Z Z Z ?_|(apply Zx 6 Z9;decide +kernel;kernel_rfl;kernel_rfl;kernel_rfl;exact Z;exact Z)|(apply ZB;(iterate 4 exact Z))|exact AE.nil _ _ _ _|(apply ZF;exact Z)|(apply ZN;exact Z;exact Z;decide +kernel;exact Z)|(apply ZP;exact Z)|exact AO.nil _ _ _|(apply ZA;(decide +kernel))|exact AOs.nil|exact ZY rfl rfl)
 all_goals exact Qe
theorem GK [Known](id:Nat)(err num cnt:Int)(tok:Nat)(data:List UInt8)(w s:Bool)(g0:decide ((id:Int)>1099511627776)=false)(g1:decide (err<0)=false)(g2:decide (err>99)=false)(g3:w=false)(g4:decide ((tok:Int)>2147483648)=false)(g5:decide (((data.map E.byte).length:Int)>600)=false)(g6:(err != 0)=false)
  (hW:AP Tryz.prog 89 [.sl .ext [.int .i64 num,.int .i64 cnt]] (.bool (!w)) [])
  (hF:AP Tryz.prog 91 [.int .u64 (id:Int),.int .i64 err] (.agg [.int .u64 (id:Int),.int .i64 err,.int .i64 0,.int .i64 0,.int .u64 0,.sl .ext []]) [])
  (hS:AP Tryz.prog 90 [.agg [.int .u64 (id:Int),.int .i64 err,.int .i64 num,.int .i64 cnt,.int .u64 (tok:Int),byE data],.agg [.int .u64 (id:Int),.int .i64 err,.int .i64 0,.int .i64 0,.int .u64 0,.sl .ext []]] (.bool s) []) :
  AP Tryz.prog 59 [.agg [.int .u64 (id:Int),.int .i64 err,.int .i64 num,.int .i64 cnt,.int .u64 (tok:Int),byE data]] (.bool true) []:=by
 subst g3
 refine AP.ofA (Zm Tryz.func59 Z Tryz.ntmps59 Z Z ?_)
 repeat'(first|(apply Zc (hW);kernel_rfl;(iterate 4 exact Z))|(apply Zj Za;exact Z)|(apply Zg Za;exact Z)|(apply Zq Za;exact Z)|refine Zi Z Z Z Qt ?_|refine Zl Z Qt Z Z ?_|refine Ze Z Qt ?_|refine Zp Za Z Z Z Z ?_|refine Yl Za Z Z Z Z Z Z Z Z Z Z Z Z ?_)
 all_goals exact Qe
theorem JV [Known](x:RyV):AP Tryz.prog 59 [.agg (ryC x)] (.bool (Va x)) []:=by
 have hW:=JU x.num x.cnt
 have hF:=XX x.id x.err
 have hS:=XW x ⟨x.id,x.err,0,0,0,[]⟩
 unfold Va Xs
 obtain⟨id,err,num,cnt,tok,data⟩:=x
 dsimp only at *
 generalize QK _ _=s at *
 cases g0:decide ((id:Int)>1099511627776) with
 | true=>
  exact GD id err num cnt tok data _ s g0 hW hF hS
 | false=>
  cases g1:decide (err<0) with
  | true=>
   exact GE id err num cnt tok data _ s g0 g1 hW hF hS
  | false=>
   cases g2:decide (err>99) with
   | true=>
    exact GF id err num cnt tok data _ s g0 g1 g2 hW hF hS
   | false=>
    cases g3:(Vz num||Vz cnt) with
    | true=>
     exact GG id err num cnt tok data _ s g0 g1 g2 g3 hW hF hS
    | false=>
     cases g4:decide ((tok:Int)>2147483648) with
     | true=>
      exact GH id err num cnt tok data _ s g0 g1 g2 g3 g4 hW hF hS
     | false=>
      cases g5:decide (((data.map E.byte).length:Int)>600) with
      | true=>
       exact GI id err num cnt tok data _ s g0 g1 g2 g3 g4 g5 hW hF hS
      | false=>
       cases g6:(err != 0) with
       | true=>
        exact GJ id err num cnt tok data _ s g0 g1 g2 g3 g4 g5 g6 hW hF hS
       | false=>
        exact GK id err num cnt tok data _ s g0 g1 g2 g3 g4 g5 g6 hW hF hS
def vnF:Nat->Nat->List UInt8
 | 0,n=>[UInt8.ofNat n]
 | f+1,n=>if n>127 then UInt8.ofNat (n % 128+128)::vnF f (n/128) else [UInt8.ofNat n]
def vn (n:Nat):List UInt8:=vnF 9 n
theorem Vb:∀ f n,(vnF f n).length<=f+1/\0<(vnF f n).length
 | 0,n=>by simp[vnF]
 | f+1,n=>by
  rw[vnF]
  split
  ·have:=Vb f (n/128);simp;omega
  ·simp
def rnF:List UInt8->Nat->Nat->Nat × Nat × List UInt8
 | [],_,_=>(0,8,[])
 | c::r,i,a=>if i=10\/(i=9/\c.toNat>1)\/(c.toNat=0/\i>0) then(0,3,r)
  else if c.toNat<128 then(a+c.toNat % 128*2 ^ (7*i),0,r) else rnF r (i+1) (a+c.toNat % 128*2 ^ (7*i))
theorem Xt:∀(b:List UInt8) (i a:Nat),(rnF b i a).2.2.length<=b.length
 | [],_,_=>by simp[rnF]
 | c::r,i,a=>by
  rw[rnF]
  split
  ·simp
  ·split
   ·simp
   ·have:=Xt r (i+1) (a+c.toNat % 128*2 ^ (7*i));simp;omega
theorem KK:∀(b:List UInt8) (i a:Nat),a<2 ^ (7*i)->i<=10->(rnF b i a).1<18446744073709551616
 | [],_,_,_,_=>by simp[rnF]
 | c::r,i,a,ha,hi=>by
  rw[rnF]
  split
  ·simp
  ·rename_i h
   have hc:=c.toNat_lt
   have hpow:2 ^ (7*(i+1))=128*2 ^ (7*i):=by rw[Nat.mul_add,Nat.pow_add,Nat.mul_comm]
   have h1:a+c.toNat % 128*2 ^ (7*i)<2 ^ (7*(i+1)):=by
    rw[hpow]
    have:c.toNat % 128*2 ^ (7*i)<=127*2 ^ (7*i):=Nat.mul_le_mul_right _ (by omega)
    omega
   have h9:i<=9:=by omega
   split
   ·rcases Nat.lt_or_ge i 9 with h8|h8
    ·have:2 ^ (7*(i+1))<=2 ^ 63:=Nat.pow_le_pow_right (by decide) (by omega)
     show a+c.toNat % 128*2 ^ (7*i)<_
     omega
    ·obtain rfl:i=9:=by omega
     have hc1:c.toNat<=1:=by omega
     have h2:a<9223372036854775808:=ha
     show a+c.toNat % 128*9223372036854775808<_
     have:c.toNat % 128<=1:=by omega
     omega
   ·exact KK r (i+1) _ h1 (by omega)
theorem Ij (a x k:Nat)(ha:a<2 ^ k):a ||| x*2 ^ k=a+x*2 ^ k:=by
 rw[Nat.or_comm,Nat.mul_comm,<- Nat.two_pow_add_eq_or_of_lt ha x];omega
theorem Ik:∀ n:Nat,n<256->n &&& 127=n % 128:=by decide +kernel
theorem Il:∀ n:Nat,n<256->(n &&& 128==0)=decide (n<128):=by decide +kernel
theorem IR:∀ n:Nat,n<256->n ||| 128=n % 128+128:=by decide +kernel
theorem Im (c:UInt8):bits .and .u8 (c.toNat:Int) 127=((c.toNat % 128:Nat):Int):=by
 rw[<- Ik _ c.toNat_lt]
 exact u8_and_nat _ 127 c.toNat_lt (by decide)
theorem Io (c:UInt8):bits .and .u8 (c.toNat:Int) 128=((c.toNat &&& 128:Nat):Int):=u8_and_nat _ 128 c.toNat_lt (by decide)
theorem IS (c:UInt8):((bits .and .u8 (c.toNat:Int) 128)==0)=decide (c.toNat<128):=by
 rw[Io,<- Il _ c.toNat_lt,Bool.eq_iff_iff,beq_iff_eq,beq_iff_eq]
 omega
theorem OQ (n:Nat):IntKind.u8.wrap (n:Int)=((n % 256:Nat):Int):=by rw[IntKind.wrap_u8];omega
theorem Ou (n:Nat):bits .or .u8 (IntKind.u8.wrap (n:Int)) 128=((UInt8.ofNat (n % 128+128)).toNat:Int):=by
 have hc:(UInt8.ofNat (n % 128+128)).toNat=n % 128+128:=by rw[UInt8.toNat_ofNat'];omega
 rw[OQ,hc]
 have:=u8_or_nat (n % 256) 128 (by omega) (by decide)
 rw[IR _ (by omega),show n % 256 % 128=n % 128 by omega]at this
 exact this
theorem Ip (n:Nat):(n:Int).fdiv (2 ^ min (Int.toNat 7) IntKind.u64.bits)=((n/128:Nat):Int):=by
 have e:(2 ^ min (Int.toNat 7) IntKind.u64.bits:Int)=128:=by decide
 rw[e,Int.fdiv_eq_ediv_of_nonneg _ (by omega)]
 omega
theorem GL {a i:Nat}(c:UInt8)(ha:a<2 ^ (7*i))(hi:i<=9)(h9:i=9->c.toNat<=1):bits .or .u64 (a:Int) (IntKind.u64.wrap (IntKind.u64.wrap ((c.toNat % 128:Nat):Int)*2 ^ min (IntKind.i64.wrap (7*(i:Int))).toNat IntKind.u64.bits))=((a+c.toNat % 128*2 ^ (7*i):Nat):Int):=by
 have e0:IntKind.i64.wrap (7*(i:Int))=((7*i:Nat):Int):=by rw[IntWalk.i64_in _ (by omega)];omega
 have e1:min (7*i) IntKind.u64.bits=7*i:=Nat.min_eq_left (by show 7*i<=64;omega)
 have e2:IntKind.u64.wrap ((c.toNat % 128:Nat):Int)=((c.toNat % 128:Nat):Int):=IntWalk.u64_in _ (by omega)
 have e3:(((c.toNat % 128:Nat):Int)*2 ^ (7*i))=((c.toNat % 128*2 ^ (7*i):Nat):Int):=by simp
 have hlt:c.toNat % 128*2 ^ (7*i)<18446744073709551616/\a<18446744073709551616:=by
  rcases Nat.lt_or_ge i 9 with h8|h8
  ·have h1:2 ^ (7*i)<=2 ^ 56:=Nat.pow_le_pow_right (by decide) (by omega)
   have h2:c.toNat % 128*2 ^ (7*i)<=127*2 ^ 56:=Nat.mul_le_mul (by omega) h1
   omega
  ·obtain rfl:i=9:=by omega
   have:=h9 rfl
   have h2:a<9223372036854775808:=ha
   constructor
   ·show c.toNat % 128*9223372036854775808<_
    have:c.toNat % 128<=1:=by omega
    omega
   ·omega
 rw[e0,Int.toNat_natCast,e1,e2,e3,IntWalk.u64_in _ (by omega),u64_or_nat _ _ hlt.2 hlt.1,Ij _ _ _ ha]
end Go.Proofs.YtkdpfkjlheajhaaGreatDoor
end
