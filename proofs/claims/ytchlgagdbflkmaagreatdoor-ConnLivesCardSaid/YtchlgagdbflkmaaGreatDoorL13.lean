/- What a decoder of frames takes of bytes, in plain words. -/
import Derived.Test.YtchlgagdbflkmaaGreatDoorL01
import Derived.Test.YtchlgagdbflkmaaGreatDoorL12
import Derived.Test.YtchlgagdbflkmaaGreatDoorL11
import Derived.Laws.BitsAllLaws
set_option linter.unusedVariables false
set_option linter.unusedSimpArgs false
section
namespace Go.Proofs.YtchlgagdbflkmaaGreatDoor
def Yd (b:List UInt8):Nat:=256*(b.getD 0 0).toNat+(b.getD 1 0).toNat
def ZS (b:List UInt8):List (List UInt8) × List UInt8 × Nat:=
 if b.length<2 then([],b,0)
 else if Yd b=0 then([],[],3)
 else if Yd b>1000 then([],[],2)
 else if h:b.length<Yd b+2 then([],b,0)
 else
  let r:=ZS (b.drop (2+Yd b))
  ((b.take (2+Yd b)).drop 2::r.1,r.2)
termination_by b.length
decreasing_by simp;omega
theorem Vi {b:List UInt8}(h:b.length<2):ZS b=([],b,0):=by rw[ZS,if_pos h]
theorem UV {b:List UInt8}(h:¬ b.length<2)(h0:Yd b=0):ZS b=([],[],3):=by rw[ZS,if_neg h,if_pos h0]
theorem UW {b:List UInt8}(h:¬ b.length<2)(h0:Yd b>1000):ZS b=([],[],2):=by rw[ZS,if_neg h,if_neg (by omega),if_pos h0]
theorem UX {b:List UInt8}(h:¬ b.length<2)(h0:Yd b ≠ 0)(h1:¬ Yd b>1000)(h2:b.length<Yd b+2):ZS b=([],b,0):=by rw[ZS,if_neg h,if_neg h0,if_neg h1,dif_pos h2]
theorem VW {b:List UInt8}(h:¬ b.length<2)(h0:Yd b ≠ 0)(h1:¬ Yd b>1000)(h2:¬ b.length<Yd b+2) :
  ZS b=((b.take (2+Yd b)).drop 2::(ZS (b.drop (2+Yd b))).1,(ZS (b.drop (2+Yd b))).2):=by rw[ZS,if_neg h,if_neg h0,if_neg h1,dif_neg h2]
abbrev Dec:=List UInt8 × Nat
def Xg (d:Dec)(b:List UInt8):List (List UInt8) × Dec:=if d.2=0 then ZS (d.1++b) else([],d)
def UY (b:List UInt8):List UInt8:=UInt8.ofNat (b.length/256)::UInt8.ofNat (b.length % 256)::b
theorem Xh (b:List UInt8):(ZS b).2.1.length<=b.length:=by
 fun_induction ZS b with
 | case1 b h=>simp
 | case2 b h h0=>simp
 | case3 b h h0 h1=>simp
 | case4 b h h0 h1 h2=>simp
 | case5 b h h0 h1 h2 r ih=>simp only[List.length_drop]at ih;show(ZS (b.drop (2+Yd b))).2.1.length<=_;omega
theorem JH (b:List UInt8):(ZS b).1.length<=b.length:=by
 fun_induction ZS b with
 | case1 b h=>simp
 | case2 b h h0=>simp
 | case3 b h h0 h1=>simp
 | case4 b h h0 h1 h2=>simp
 | case5 b h h0 h1 h2 r ih=>simp only[List.length_drop]at ih;show(_::(ZS (b.drop (2+Yd b))).1).length<=_;rw[List.length_cons];omega
theorem Qv {x:List UInt8}(y:List UInt8)(h:¬ x.length<2):Yd (x++y)=Yd x:=by
 match x,h with
 | a::b::r,_=>rfl
 | [_],h=>simp at h
 | [],h=>simp at h
theorem Ko (x y:List UInt8):ZS (x++y)=((ZS x).1++(Xg (ZS x).2 y).1,(Xg (ZS x).2 y).2):=by
 fun_induction ZS x with
 | case1 x h=>simp[Xg]
 | case2 x h h0=>
  rw[UV (by simp;omega) (by rw[Qv y h];exact h0)]
  simp[Xg]
 | case3 x h h0 h1=>
  rw[UW (by simp;omega) (by rw[Qv y h];exact h1)]
  simp[Xg]
 | case4 x h h0 h1 h2=>simp[Xg]
 | case5 x h h0 h1 h2 r ih=>
  have hl:=Qv y h
  rw[VW (by simp;omega) (by rw[hl];exact h0) (by rw[hl];exact h1) (by rw[hl];simp;omega),hl]
  rw[List.take_append_of_le_length (by omega),List.drop_append_of_le_length (by omega),ih]
  rfl
end Go.Proofs.YtchlgagdbflkmaaGreatDoor
end
section
open Go.RowKit Go.Pl Go.Av
namespace Go.Proofs.YtchlgagdbflkmaaGreatDoor
set_option maxHeartbeats 4000000
theorem NQ (n:Nat):(n:Int).fdiv (2 ^ min (Int.toNat 8) IntKind.i64.bits)=((n/256:Nat):Int):=by
 rw[show min (Int.toNat 8) IntKind.i64.bits=8 from rfl,show((2:Int) ^ 8)=((256:Nat):Int) from rfl,Int.fdiv_eq_ediv_of_nonneg _ (Int.natCast_nonneg _)]
 omega
theorem XW [Known](b:List UInt8)(h1:1<=b.length)(h2:b.length<=1000):AP Tryz.prog 56 [byE b] (.tup [byE (UY b),.int .i64 0]) []:=by
 refine AP.weak (Zp Tryz.func56 Z Tryz.ntmps56 Z Z ?_)
 have d1:decide ((((b.map E.byte).length:Nat):Int)<1)=false:=by simp;omega
 have d2:decide ((((b.map E.byte).length:Nat):Int)>1000)=false:=by simp;omega
 have hne:b.map E.byte ≠ []:=by cases b<;>simp at h1 ⊢
 have hU:=YD b
 repeat'(first|(apply Zl Zb;exact Z)|(apply Zj Zb;exact Z)|(apply Zt Zb;exact Z)|refine UA ?_|(apply Zi;(iterate 3 exact Z);(first|with_reducible assumption|(solve|simp only[bn])))|(apply Zn;exact Z;(first|with_reducible assumption|(solve|simp only[bn]));exact Z;exact Z)|(apply Zg;exact Z;(first|with_reducible assumption|(solve|simp only[bn])))|refine Zz Zb Z Z Z Z ?_|refine V1 Zb Z Z Z Z Z Z Z Z Z Z Z Z ?_|(apply ZJ Zb;(iterate 6 exact Z);(first|with_reducible assumption|exact Z|rotate_left);exact Z;exact Z;(first|exact Zk rfl|with_reducible assumption|rotate_left);(first|exact Zk rfl|with_reducible assumption|rotate_left);(first|exact Qb|rotate_left);(first|exact Qb|rotate_left);(first|exact Qb|rotate_left);exact Z;exact Z)|(apply W7;exact Z;exact Z;(first|exact Qb|rotate_left);exact Z))
 ·(apply KG;(apply Zd Zb;exact Z);exact Z)
  have e1:E.int .u8 (IntKind.u8.wrap (((((b.map E.byte).length:Nat):Int)).fdiv (2 ^ min (Int.toNat 8) IntKind.i64.bits)))=E.byte (UInt8.ofNat (b.length/256)):=by
   rw[NQ,List.length_map,IntKind.wrap_u8']
   unfold E.byte
   rw[UInt8.toNat_ofNat']
   congr 1
  have e2:E.int .u8 (IntKind.u8.wrap ((((b.map E.byte).length:Nat):Int)))=E.byte (UInt8.ofNat (b.length % 256)):=by
   rw[List.length_map,IntKind.wrap_u8']
   unfold E.byte
   rw[UInt8.toNat_ofNat']
   congr 1
   omega
  have e3:=congr (congrArg (fun(x y:E)=>D.tup [D.sl .ext (x::y::b.map E.byte),D.int .i64 0]) e1) e2
  exact e3
 ·simp[maxLen];omega
 ·simp;omega
theorem be2 (x y:UInt8):bits .or .i64 (IntKind.i64.wrap (IntKind.i64.wrap (x.toNat:Int)*2 ^ min (Int.toNat 8) IntKind.i64.bits)) (IntKind.i64.wrap (y.toNat:Int))=((256*x.toNat+y.toNat:Nat):Int):=by
 have hx:=x.toNat_lt
 have hy:=y.toNat_lt
 rw[show min (Int.toNat 8) IntKind.i64.bits=8 from rfl,IntWalk.i64_in (x.toNat:Int) (by omega),IntWalk.i64_in (y.toNat:Int) (by omega),IntWalk.i64_in _ (by omega)]
 have e:(x.toNat:Int)*2 ^ 8=((256*x.toNat:Nat):Int):=by omega
 rw[e]
 have h1:(BitVec.ofInt 64 ((256*x.toNat:Nat):Int)).toNat=256*x.toNat:=by
  rw[BitVec.ofInt_natCast,BitVec.toNat_ofNat];exact Nat.mod_eq_of_lt (by omega)
 have h2:(BitVec.ofInt 64 (y.toNat:Int)).toNat=y.toNat:=by
  rw[BitVec.ofInt_natCast,BitVec.toNat_ofNat];exact Nat.mod_eq_of_lt (by omega)
 show IntKind.i64.wrap ((BitVec.ofInt 64 ((256*x.toNat:Nat):Int) ||| BitVec.ofInt 64 (y.toNat:Int)).toNat:Int)=_
 rw[BitVec.toNat_or,h1,h2,nat_join 8 (256*x.toNat) y.toNat (by omega) (by omega),IntWalk.i64_in _ (by omega)]
theorem JX [Known](l b:List UInt8)(hl:l.length+b.length<=1099511627776):AQ Tryz.prog 48 [.ptr 0 0,byE b] (XB true l 0) (.tup [XA (ZS (l++b)).1,.int .i64 (ZS (l++b)).2.2]) (XB true (ZS (l++b)).2.1 (ZS (l++b)).2.2):=by
 refine AQ.weak (Zp Tryz.func48 Z Tryz.ntmps48 Z Z ?_)
 have d1:((0:Int) != 0)=false:=rfl
 have hfl:[l,b].flatten=l++b:=by simp
 repeat'(first|(apply Zj Zb;exact Z))
 refine It 0 (fun k tm bx fr=>∃(out:List (List UInt8)) (cur:List UInt8) (tk:Tok),k=cur.length/\ZS (l++b)=(out++(ZS cur).1,(ZS cur).2)/\out.length+cur.length<=l.length+b.length/\tm=[(0,.ptr 0 0),(7,.sl tk (out.map E.bys))]/\bx=XB true cur 0/\((tk=.nil/\out=[]/\fr=[])\/(∃ c,tk=.own 1/\out ≠ []/\c=(out.map E.bys).length/\fr=[⟨1,1,26⟩,⟨c,1,26⟩]))) (l.length+b.length+1) rfl ?pass (fun H=>?_)
 case pass=>
  rintro k tm bx fr ⟨out,cur,tk,rfl,hT,hle,rfl,rfl,hc⟩
  have hU:=YD cur
  have hO:=KL out
  by_cases h2:cur.length<2
  ·have g2:decide ((((cur.map E.byte).length:Nat):Int)<2)=true:=decide_eq_true (by rw[List.length_map];omega)
   repeat'(first|(apply Zl Zb;exact Z)|(apply Zj Zb;exact Z)|(apply Zt Zb;exact Z)|refine YN ?_|(apply Zf;exact Z;(first|with_reducible assumption|(solve|simp only[bn])))|refine Zz Zb Z Z Z Z ?_)
   (apply Zw [0];(apply Zd Zb;exact Z);(iterate 4 exact Z))
   ·rw[hT,Vi h2];simp
   ·rw[hT,Vi h2];rfl
  have g2:decide ((((cur.map E.byte).length:Nat):Int)<2)=false:=decide_eq_false (by rw[List.length_map];omega)
  obtain⟨x,y,r,hcur⟩:∃ x y r,cur=x::y::r:=by
   match cur,h2 with
   | x::y::r,_=>exact⟨x,y,r,rfl⟩
   | [_],h=>simp at h
   | [],h=>simp at h
  have hx0:(cur.map E.byte)[(0:Int).toNat]?=some (E.byte x):=by rw[hcur];rfl
  have hy0:(cur.map E.byte)[(1:Int).toNat]?=some (E.byte y):=by rw[hcur];rfl
  have hn:Yd cur=256*x.toNat+y.toNat:=by rw[hcur];rfl
  have e0:=be2 x y
  rw[<- hn]at e0
  by_cases h0:Yd cur=0
  ·have g0:(((Yd cur:Nat):Int)==0)=true:=by rw[h0];rfl
   repeat'(first|rw[e0]|(apply Zh [0] (KO true cur 0 3);kernel_rfl;(iterate 7 exact Z))|(apply Zl Zb;exact Z)|(apply Zj Zb;exact Z)|(apply Zt Zb;exact Z)|refine UA ?_|refine YN ?_|(apply Zf;exact Z;(first|with_reducible assumption|(solve|simp only[bn])))|(apply Zg;exact Z;(first|with_reducible assumption|(solve|simp only[bn])))|refine Zz Zb Z Z Z Z ?_|(apply Z5 6 Ze;decide +kernel;kernel_rfl;kernel_rfl;exact Z;exact Z)|(apply Z5 15 Ze;decide +kernel;kernel_rfl;kernel_rfl;exact Z;exact Z)|(apply Yp;(iterate 3 exact Z))|refine AD.nil _|exact Yv rfl|(apply ZF Zb;(iterate 6 exact Z);(first|exact Qb|rotate_left);(first|with_reducible assumption|exact Z);(first|exact Zk rfl|with_reducible assumption|rotate_left))|(apply Y0;exact Z;exact Z;(first|exact Qb|rotate_left);exact Z))
   (apply Zw [0];(apply Zd Zb;exact Z);(iterate 4 exact Z))
   ·rw[hT,UV h2 h0];simp
   ·rw[hT,UV h2 h0];rfl
  have g0:(((Yd cur:Nat):Int)==0)=false:=by simp;omega
  by_cases h1:Yd cur>1000
  ·have g1:decide (((Yd cur:Nat):Int)>1000)=true:=decide_eq_true (by omega)
   repeat'(first|rw[e0]|(apply Zh [0] (KO true cur 0 2);kernel_rfl;(iterate 7 exact Z))|(apply Zl Zb;exact Z)|(apply Zj Zb;exact Z)|(apply Zt Zb;exact Z)|refine UA ?_|refine YN ?_|(apply Zf;exact Z;(first|with_reducible assumption|(solve|simp only[bn])))|(apply Zg;exact Z;(first|with_reducible assumption|(solve|simp only[bn])))|refine Zz Zb Z Z Z Z ?_|(apply Z5 6 Ze;decide +kernel;kernel_rfl;kernel_rfl;exact Z;exact Z)|(apply Z5 15 Ze;decide +kernel;kernel_rfl;kernel_rfl;exact Z;exact Z)|(apply Yp;(iterate 3 exact Z))|refine AD.nil _|exact Yv rfl|(apply ZF Zb;(iterate 6 exact Z);(first|exact Qb|rotate_left);(first|with_reducible assumption|exact Z);(first|exact Zk rfl|with_reducible assumption|rotate_left))|(apply Y0;exact Z;exact Z;(first|exact Qb|rotate_left);exact Z))
   (apply Zw [0];(apply Zd Zb;exact Z);(iterate 4 exact Z))
   ·rw[hT,UW h2 h1];simp
   ·rw[hT,UW h2 h1];rfl
  have g1:decide (((Yd cur:Nat):Int)>1000)=false:=decide_eq_false (by omega)
  have e1:IntKind.i64.wrap ((((cur.map E.byte).length:Nat):Int)-2)=((cur.length-2:Nat):Int):=by
   rw[List.length_map,IntWalk.i64_in _ (by omega)];omega
  by_cases h3:cur.length<Yd cur+2
  ·have g3:decide (((cur.length-2:Nat):Int) ≥ ((Yd cur:Nat):Int))=false:=decide_eq_false (by omega)
   repeat'(first|rw[e0]|rw[e1]|(apply Zl Zb;exact Z)|(apply Zj Zb;exact Z)|(apply Zt Zb;exact Z)|refine UA ?_|refine YN ?_|(apply Zg;exact Z;(first|with_reducible assumption|(solve|simp only[bn])))|refine Zz Zb Z Z Z Z ?_|(apply Z5 6 Ze;decide +kernel;kernel_rfl;kernel_rfl;exact Z;exact Z)|(apply Z5 15 Ze;decide +kernel;kernel_rfl;kernel_rfl;exact Z;exact Z)|(apply Yp;(iterate 3 exact Z))|refine AD.nil _|exact Yv rfl|(apply ZF Zb;(iterate 6 exact Z);(first|exact Qb|rotate_left);(first|with_reducible assumption|exact Z);(first|exact Zk rfl|with_reducible assumption|rotate_left))|(apply Y0;exact Z;exact Z;(first|exact Qb|rotate_left);exact Z))
   (apply Zw [0];(apply Zd Zb;exact Z);(iterate 4 exact Z))
   ·rw[hT,UX h2 h0 h1 h3];simp
   ·rw[hT,UX h2 h0 h1 h3];rfl
  have g3:decide (((cur.length-2:Nat):Int) ≥ ((Yd cur:Nat):Int))=true:=decide_eq_true (by omega)
  have e2:IntKind.i64.wrap (2+((Yd cur:Nat):Int))=((2+Yd cur:Nat):Int):=by
   rw[IntWalk.i64_in _ (by omega)];omega
  have hT1:=VW h2 h0 h1 h3
  have hs1:((cur.map E.byte).take (2+Yd cur)).drop 2=((cur.take (2+Yd cur)).drop 2).map E.byte:=by rw[List.map_drop,List.map_take]
  have hs2:(((cur.map E.byte).take (cur.map E.byte).length).drop ((2+Yd cur:Nat):Int).toNat)=(cur.drop (2+Yd cur)).map E.byte:=by rw[List.take_length,Int.toNat_natCast,List.map_drop]
  rcases hc with⟨rfl,rfl,rfl⟩ | ⟨c,rfl,hne,hcl,rfl⟩
  ·repeat'(first|rw[e0]|rw[e1]|rw[e2]|(apply Zc (Uz ((cur.take (2+Yd cur)).drop 2) (by simp;omega));kernel_rfl;(iterate 4 exact Z))|(apply XR Zb (p:=2) (q:=2+Yd cur) (r:=2+Yd cur);(iterate 11 exact Z);omega;exact Nat.le_refl _;(rw[List.length_map];omega);exact hU;exact hs1)|(apply W9 Zb;(iterate 5 exact Z);exact .lit _ _ _ _ rfl (Int.natCast_nonneg _);exact .dft _;(rw[List.length_map];omega);exact Nat.le_refl _;exact hU;exact hs2)|(apply Zl Zb;exact Z)|(apply Zj Zb;exact Z)|(apply Zt Zb;exact Z)|refine UA ?_|refine YH ?_|(apply Zf;exact Z;(first|with_reducible assumption|(solve|simp only[bn])))|(apply Zg;exact Z;(first|with_reducible assumption|(solve|simp only[bn])))|refine Zz Zb Z Z Z Z ?_|refine V1 Zb Z Z Z Z Z Z Z Z Z Z Z Z ?_|(apply Z5 15 Ze;decide +kernel;kernel_rfl;kernel_rfl;exact Z;exact Z)|(apply Yp;(iterate 3 exact Z))|refine AD.nil _|exact Yv rfl|(apply Z3 Zb;(iterate 6 exact Z);(first|exact Zk rfl|with_reducible assumption|rotate_left);(first|exact Qb|rotate_left);(first|exact Qb|rotate_left);(first|exact Qb|rotate_left);(iterate 3 exact Z))|(apply ZF Zb;(iterate 6 exact Z);(first|exact Qb|rotate_left);(first|with_reducible assumption|exact Z);(first|exact Zk rfl|with_reducible assumption|rotate_left))|(apply Y0;exact Z;exact Z;(first|exact Qb|rotate_left);exact Z))
   ·refine Lands.mk' (m:=(cur.drop (2+Yd cur)).length) (by simp;omega) ⟨[(cur.take (2+Yd cur)).drop 2],cur.drop (2+Yd cur),.own 1,rfl,by rw[hT,hT1];rfl,by simp at hle ⊢;omega,rfl,rfl,.inr ⟨1,rfl,by simp,rfl,rfl⟩⟩ ?_ rfl rfl rfl rfl rfl rfl
    exact .cons rfl (.cons rfl .nil)
   all_goals first|(show 1<=maxLen;decide)|(show 1*24<=_;decide)
  ·have hne':out.map E.bys ≠ []:=by simpa using hne
   repeat'(first|rw[e0]|rw[e1]|rw[e2]|(apply Zc (Uz ((cur.take (2+Yd cur)).drop 2) (by simp;omega));kernel_rfl;(iterate 4 exact Z))|(apply XR Zb (p:=2) (q:=2+Yd cur) (r:=2+Yd cur);(iterate 11 exact Z);omega;exact Nat.le_refl _;(rw[List.length_map];omega);exact hU;exact hs1)|(apply W9 Zb;(iterate 5 exact Z);exact .lit _ _ _ _ rfl (Int.natCast_nonneg _);exact .dft _;(rw[List.length_map];omega);exact Nat.le_refl _;exact hU;exact hs2)|(apply Zl Zb;exact Z)|(apply Zj Zb;exact Z)|(apply Zt Zb;exact Z)|refine UA ?_|refine YH ?_|(apply Zf;exact Z;(first|with_reducible assumption|(solve|simp only[bn])))|(apply Zg;exact Z;(first|with_reducible assumption|(solve|simp only[bn])))|refine Zz Zb Z Z Z Z ?_|refine V1 Zb Z Z Z Z Z Z Z Z Z Z Z Z ?_|(apply Z5 15 Ze;decide +kernel;kernel_rfl;kernel_rfl;exact Z;exact Z)|(apply Yp;(iterate 3 exact Z))|refine AD.nil _|exact Yv rfl|(apply ZJ Zb;(iterate 6 exact Z);(first|with_reducible assumption|exact Z|rotate_left);exact Z;exact Z;(first|exact Zk rfl|with_reducible assumption|rotate_left);(first|exact Zk rfl|with_reducible assumption|rotate_left);(first|exact Qb|rotate_left);(first|exact Qb|rotate_left);(first|exact Qb|rotate_left);exact Z;exact Z)|(apply ZF Zb;(iterate 6 exact Z);(first|exact Qb|rotate_left);(first|with_reducible assumption|exact Z);(first|exact Zk rfl|with_reducible assumption|rotate_left))|(apply Y0;exact Z;exact Z;(first|exact Qb|rotate_left);exact Z))
   ·refine Lands.mk' (m:=(cur.drop (2+Yd cur)).length) (by simp;omega) ⟨out++[(cur.take (2+Yd cur)).drop 2],cur.drop (2+Yd cur),.own 1,rfl,by rw[hT,hT1];simp,by simp at hle ⊢;omega,rfl,rfl,.inr ⟨_,rfl,by simp,rfl,rfl⟩⟩ ?_ rfl ?_ rfl rfl rfl rfl
    ·exact .cons rfl (.cons (by rw[List.map_append];rfl) .nil)
    ·rw[List.map_append,List.length_append];rfl
   ·show(out.map E.bys).length+1<=maxLen
    rw[List.length_map];unfold maxLen;omega
   ·show((out.map E.bys).length+1)*24<=_
    rw[List.length_map];omega
 ·repeat'(first|refine H _ ?_|(apply Zh [0] (Oz l 0);kernel_rfl;(iterate 7 exact Z))|(apply Zc (Iy [l,b] (by rw[hfl,List.length_append];omega) (by simp));kernel_rfl;(iterate 4 exact Z))|refine WA Z Z ?_|refine Yz Z Z ?_|refine Vm Z Z Z Z Z ?_|refine Y2 Zb Z Z Z Z Z Z ?_|refine Z7 Zb Z Z Z Z Z Z Z ?_|refine Yg Z Z ?_|refine Wc Zb Z Z Z Z Z Z Z Z ?_|refine W6 ?_|refine Yy ?_|refine Wb ?_|(apply Zg;exact Z;(first|with_reducible assumption|(guard_target =ₛ true=true;rfl)|(guard_target =ₛ false=false;rfl)|(guard_target =ₛ (!true)=false;rfl)|(guard_target =ₛ (!false)=true;rfl)))|refine V1 Zb Z Z Z Z Z Z Z Z Z Z Z Z ?_|refine Wz ?_|refine Wa ?_)
  refine Lands.mk' (m:=(l++b).length) (by simp) ⟨[],l++b,.nil,rfl,by simp,by simp,rfl,rfl,.inl ⟨rfl,rfl,rfl⟩⟩ ?_ ?_ rfl rfl rfl rfl rfl
  ·exact .cons rfl (.cons rfl .nil)
  ·rw[hfl];rfl
structure RyV where
 id:Nat
 err:Int
 num:Int
 cnt:Int
 tok:Nat
 data:List UInt8
abbrev ryC (x:RyV):List D:=[.int .u64 (x.id:Int),.int .i64 x.err,.int .i64 x.num,.int .i64 x.cnt,.int .u64 (x.tok:Int),byE x.data]
def Xi (a b:RyV):Bool:=((a.id:Int)==(b.id:Int))&&((a.err==b.err)&&((a.num==b.num)&&((a.cnt==b.cnt)&&(((a.tok:Int)==(b.tok:Int))&&(a.data==b.data)))))
theorem IA [Known](a b:RyV):AP Tryz.prog 96 [.agg (ryC a),.agg (ryC b)] (.bool (Xi a b)) []:=by
 have hB:=W8 a.data b.data
 unfold Xi
 refine AP.ofA (Zp Tryz.func96 Z Tryz.ntmps96 Z Z ?_)
 repeat'(first|(apply Zc (hB);kernel_rfl;(iterate 4 exact Z))|(apply Zl Zb;exact Z)|(apply Zj Zb;exact Z)|(apply Zi;(iterate 3 exact Z);(first|with_reducible assumption|(solve|simp only[bn])))|(apply Zs;(iterate 3 exact Z);(first|with_reducible assumption|(solve|simp only[bn])))|(apply ZZ;exact Z;exact Z;all_goals intro hb)|(apply Zo;exact Z;(first|with_reducible assumption|(solve|simp only[bn]));exact Z;exact Z)|(apply Zn;exact Z;(first|with_reducible assumption|(solve|simp only[bn]));exact Z;exact Z))
 all_goals(apply Zw [];(apply Zd Zb;exact Z);(iterate 4 exact Z))
 all_goals first|rfl|(simp only[*,Bool.true_and,Bool.false_and];done)
theorem IB [Known](id:Nat)(e:Int):AP Tryz.prog 97 [.int .u64 (id:Int),.int .i64 e] (.agg (ryC ⟨id,e,0,0,0,[]⟩)) []:=by
 refine AP.ofA (Zp Tryz.func97 Z Tryz.ntmps97 Z Z ?_)
 repeat'(first|(apply Zj Zb;exact Z))
 all_goals exact Qe
def QO (n:Int):Bool:=decide (n<0)||decide (n>1099511627776)
theorem JI [Known](n:Int):AP Tryz.prog 120 [.int .i64 n] (.bool (QO n)) []:=by
 unfold QO
 refine AP.ofA (Zp Tryz.func120 Z Tryz.ntmps120 Z Z ?_)
 repeat'(first|(apply Zl Zb;exact Z)|(apply Zj Zb;exact Z)|(apply Zi;(iterate 3 exact Z);(first|with_reducible assumption|(solve|simp only[bn])))|(apply Zq;(iterate 3 exact Z);(first|with_reducible assumption|(solve|simp only[bn])))|(apply ZZ;exact Z;exact Z;all_goals intro hb)|(apply Zo;exact Z;(first|with_reducible assumption|(solve|simp only[bn]));exact Z;exact Z)|(apply Zn;exact Z;(first|with_reducible assumption|(solve|simp only[bn]));exact Z;exact Z))
 all_goals(apply Zw [];(apply Zd Zb;exact Z);(iterate 4 exact Z))
 all_goals first|rfl|(simp only[*];done)|(simp only[*];rfl)
def TZ:Bool->Bool->Int
 | true,_=>0
 | false,true=>1
 | false,false => -1
theorem T0 (l:List Int):Uni 1 (l.map fun n:Int=>E.int .i64 n):=Uni.map (f:=fun n:Int=>E.int .i64 n) (fun _=>rfl) l
theorem Hn [Known](a b:Int)(x y:Bool)(hx:QO a=x)(hy:QO b=y):AP Tryz.prog 138 [.sl .ext [.int .i64 a,.int .i64 b],.fn 120 []] (.int .i64 (TZ x y)) []:=by
 have ga:=JI a
 have gb:=JI b
 rw[hx]at ga
 rw[hy]at gb
 have hU:=T0 [a,b]
 have q0:decide ((0:Int)<(([.int .i64 a,.int .i64 b]:List E).length:Int))=true:=rfl
 have q1:decide ((1:Int)<(([.int .i64 a,.int .i64 b]:List E).length:Int))=true:=rfl
 have q2:decide ((2:Int)<(([.int .i64 a,.int .i64 b]:List E).length:Int))=false:=rfl
 have e1:IntKind.i64.wrap (0+1)=1:=by decide
 have e2:IntKind.i64.wrap (1+1)=2:=by decide
 cases x<;>cases y
 all_goals
  refine AP.ofA (Zp Tryz.func138 Z Tryz.ntmps138 Z Z ?_)
  repeat'(first|rw[e1]|rw[e2]|(apply XU (ga);exact Z;kernel_rfl;(iterate 3 exact Z))|(apply XU (gb);exact Z;kernel_rfl;(iterate 3 exact Z))|refine ZF Zb Z Z Z Z Z Z (by decide) Z hU ?_|refine Yi 20 ?_|refine YE ?_|(apply Zl Zb;exact Z)|(apply Zj Zb;exact Z)|(apply Zt Zb;exact Z)|refine Zf Z Qt ?_|refine Zg Z Qt ?_|refine Yu ?_|refine Zz Zb Z Z Z Z ?_)
  all_goals exact Qe
theorem Gk [Known](a b:Int):AP Tryz.prog 119 [.sl .ext [.int .i64 a,.int .i64 b],.fn 120 []] (.bool (QO a||QO b)) []:=by
 cases hx:QO a<;>cases hy:QO b
 all_goals
  have hI:=Hn a b _ _ hx hy
  refine AP.ofA (Zp Tryz.func119 Z Tryz.ntmps119 Z Z ?_)
  repeat'(first|(apply Zc (hI);kernel_rfl;(iterate 4 exact Z))|(apply Zl Zb;exact Z)|(apply Zj Zb;exact Z))
  all_goals exact Qe
theorem OA [Known](a b:Int):AP Tryz.prog 95 [.sl .ext [.int .i64 a,.int .i64 b]] (.bool (!(QO a||QO b))) []:=by
 have hI:=Gk a b
 refine AP.ofA (Zp Tryz.func95 Z Tryz.ntmps95 Z Z ?_)
 repeat'(first|(apply Zc (hI);kernel_rfl;(iterate 4 exact Z))|(apply Zl Zb;exact Z)|(apply Zj Zb;exact Z))
 all_goals exact Qe
def KQ (x:RyV):Bool:=decide ((x.id:Int)>1099511627776)||(decide (x.err<0)||(decide (x.err>99)||((QO x.num||QO x.cnt)||(decide ((x.tok:Int)>2147483648)||decide (((x.data.map E.byte).length:Int)>600)))))
def Y5 (x:RyV):Bool:=match KQ x with
 | true=>false
 | false=>match x.err != 0 with
  | true=>Xi x ⟨x.id,x.err,0,0,0,[]⟩
  | false=>true
theorem NR [Known](id:Nat)(err num cnt:Int)(tok:Nat)(data:List UInt8)(w s:Bool)(g0:decide ((id:Int)>1099511627776)=true)
  (hW:AP Tryz.prog 95 [.sl .ext [.int .i64 num,.int .i64 cnt]] (.bool (!w)) [])
  (hF:AP Tryz.prog 97 [.int .u64 (id:Int),.int .i64 err] (.agg [.int .u64 (id:Int),.int .i64 err,.int .i64 0,.int .i64 0,.int .u64 0,.sl .ext []]) [])
  (hS:AP Tryz.prog 96 [.agg [.int .u64 (id:Int),.int .i64 err,.int .i64 num,.int .i64 cnt,.int .u64 (tok:Int),byE data],.agg [.int .u64 (id:Int),.int .i64 err,.int .i64 0,.int .i64 0,.int .u64 0,.sl .ext []]] (.bool s) []) :
  AP Tryz.prog 61 [.agg [.int .u64 (id:Int),.int .i64 err,.int .i64 num,.int .i64 cnt,.int .u64 (tok:Int),byE data]] (.bool false) []:=by
 refine AP.ofA (Zp Tryz.func61 Z Tryz.ntmps61 Z Z ?_)
 repeat'(first|(apply Zl Zb;exact Z)|(apply Zj Zb;exact Z)|(apply Zt Zb;exact Z)|refine Zq Z Z Z Qt ?_|refine Zo Z Qt Z Z ?_|refine Zf Z Qt ?_)
 all_goals exact Qe
theorem NS [Known](id:Nat)(err num cnt:Int)(tok:Nat)(data:List UInt8)(w s:Bool)(g0:decide ((id:Int)>1099511627776)=false)(g1:decide (err<0)=true)
  (hW:AP Tryz.prog 95 [.sl .ext [.int .i64 num,.int .i64 cnt]] (.bool (!w)) [])
  (hF:AP Tryz.prog 97 [.int .u64 (id:Int),.int .i64 err] (.agg [.int .u64 (id:Int),.int .i64 err,.int .i64 0,.int .i64 0,.int .u64 0,.sl .ext []]) [])
  (hS:AP Tryz.prog 96 [.agg [.int .u64 (id:Int),.int .i64 err,.int .i64 num,.int .i64 cnt,.int .u64 (tok:Int),byE data],.agg [.int .u64 (id:Int),.int .i64 err,.int .i64 0,.int .i64 0,.int .u64 0,.sl .ext []]] (.bool s) []) :
  AP Tryz.prog 61 [.agg [.int .u64 (id:Int),.int .i64 err,.int .i64 num,.int .i64 cnt,.int .u64 (tok:Int),byE data]] (.bool false) []:=by
 refine AP.ofA (Zp Tryz.func61 Z Tryz.ntmps61 Z Z ?_)
 repeat'(first|(apply Zl Zb;exact Z)|(apply Zj Zb;exact Z)|(apply Zt Zb;exact Z)|refine Zi Z Z Z Qt ?_|refine Zq Z Z Z Qt ?_|refine Zo Z Qt Z Z ?_|refine Zn Z Qt Z Z ?_|refine Zf Z Qt ?_)
 all_goals exact Qe
theorem NT [Known](id:Nat)(err num cnt:Int)(tok:Nat)(data:List UInt8)(w s:Bool)(g0:decide ((id:Int)>1099511627776)=false)(g1:decide (err<0)=false)(g2:decide (err>99)=true)
  (hW:AP Tryz.prog 95 [.sl .ext [.int .i64 num,.int .i64 cnt]] (.bool (!w)) [])
  (hF:AP Tryz.prog 97 [.int .u64 (id:Int),.int .i64 err] (.agg [.int .u64 (id:Int),.int .i64 err,.int .i64 0,.int .i64 0,.int .u64 0,.sl .ext []]) [])
  (hS:AP Tryz.prog 96 [.agg [.int .u64 (id:Int),.int .i64 err,.int .i64 num,.int .i64 cnt,.int .u64 (tok:Int),byE data],.agg [.int .u64 (id:Int),.int .i64 err,.int .i64 0,.int .i64 0,.int .u64 0,.sl .ext []]] (.bool s) []) :
  AP Tryz.prog 61 [.agg [.int .u64 (id:Int),.int .i64 err,.int .i64 num,.int .i64 cnt,.int .u64 (tok:Int),byE data]] (.bool false) []:=by
 refine AP.ofA (Zp Tryz.func61 Z Tryz.ntmps61 Z Z ?_)
 repeat'(first|(apply Zl Zb;exact Z)|(apply Zj Zb;exact Z)|(apply Zt Zb;exact Z)|refine Zi Z Z Z Qt ?_|refine Zq Z Z Z Qt ?_|refine Zo Z Qt Z Z ?_|refine Zn Z Qt Z Z ?_|refine Zf Z Qt ?_)
 all_goals exact Qe
theorem NU [Known](id:Nat)(err num cnt:Int)(tok:Nat)(data:List UInt8)(w s:Bool)(g0:decide ((id:Int)>1099511627776)=false)(g1:decide (err<0)=false)(g2:decide (err>99)=false)(g3:w=true)
  (hW:AP Tryz.prog 95 [.sl .ext [.int .i64 num,.int .i64 cnt]] (.bool (!w)) [])
  (hF:AP Tryz.prog 97 [.int .u64 (id:Int),.int .i64 err] (.agg [.int .u64 (id:Int),.int .i64 err,.int .i64 0,.int .i64 0,.int .u64 0,.sl .ext []]) [])
  (hS:AP Tryz.prog 96 [.agg [.int .u64 (id:Int),.int .i64 err,.int .i64 num,.int .i64 cnt,.int .u64 (tok:Int),byE data],.agg [.int .u64 (id:Int),.int .i64 err,.int .i64 0,.int .i64 0,.int .u64 0,.sl .ext []]] (.bool s) []) :
  AP Tryz.prog 61 [.agg [.int .u64 (id:Int),.int .i64 err,.int .i64 num,.int .i64 cnt,.int .u64 (tok:Int),byE data]] (.bool false) []:=by
 subst g3
 refine AP.ofA (Zp Tryz.func61 Z Tryz.ntmps61 Z Z ?_)
 repeat'(first|(apply Zc (hW);kernel_rfl;(iterate 4 exact Z))|(apply Zl Zb;exact Z)|(apply Zj Zb;exact Z)|(apply Zt Zb;exact Z)|refine Zi Z Z Z Qt ?_|refine Zq Z Z Z Qt ?_|refine Zo Z Qt Z Z ?_|refine Zn Z Qt Z Z ?_|refine Zf Z Qt ?_|refine Z8 Zb Z Z Z Z Z Z Z Z Z Z Z Z ?_)
 all_goals exact Qe
theorem NV [Known](id:Nat)(err num cnt:Int)(tok:Nat)(data:List UInt8)(w s:Bool)(g0:decide ((id:Int)>1099511627776)=false)(g1:decide (err<0)=false)(g2:decide (err>99)=false)(g3:w=false)(g4:decide ((tok:Int)>2147483648)=true)
  (hW:AP Tryz.prog 95 [.sl .ext [.int .i64 num,.int .i64 cnt]] (.bool (!w)) [])
  (hF:AP Tryz.prog 97 [.int .u64 (id:Int),.int .i64 err] (.agg [.int .u64 (id:Int),.int .i64 err,.int .i64 0,.int .i64 0,.int .u64 0,.sl .ext []]) [])
  (hS:AP Tryz.prog 96 [.agg [.int .u64 (id:Int),.int .i64 err,.int .i64 num,.int .i64 cnt,.int .u64 (tok:Int),byE data],.agg [.int .u64 (id:Int),.int .i64 err,.int .i64 0,.int .i64 0,.int .u64 0,.sl .ext []]] (.bool s) []) :
  AP Tryz.prog 61 [.agg [.int .u64 (id:Int),.int .i64 err,.int .i64 num,.int .i64 cnt,.int .u64 (tok:Int),byE data]] (.bool false) []:=by
 subst g3
 refine AP.ofA (Zp Tryz.func61 Z Tryz.ntmps61 Z Z ?_)
 repeat'(first|(apply Zc (hW);kernel_rfl;(iterate 4 exact Z))|(apply Zl Zb;exact Z)|(apply Zj Zb;exact Z)|(apply Zt Zb;exact Z)|refine Zi Z Z Z Qt ?_|refine Zq Z Z Z Qt ?_|refine Zo Z Qt Z Z ?_|refine Zn Z Qt Z Z ?_|refine Zf Z Qt ?_|refine Z8 Zb Z Z Z Z Z Z Z Z Z Z Z Z ?_)
 all_goals exact Qe
theorem NW [Known](id:Nat)(err num cnt:Int)(tok:Nat)(data:List UInt8)(w s:Bool)(g0:decide ((id:Int)>1099511627776)=false)(g1:decide (err<0)=false)(g2:decide (err>99)=false)(g3:w=false)(g4:decide ((tok:Int)>2147483648)=false)(g5:decide (((data.map E.byte).length:Int)>600)=true)
  (hW:AP Tryz.prog 95 [.sl .ext [.int .i64 num,.int .i64 cnt]] (.bool (!w)) [])
  (hF:AP Tryz.prog 97 [.int .u64 (id:Int),.int .i64 err] (.agg [.int .u64 (id:Int),.int .i64 err,.int .i64 0,.int .i64 0,.int .u64 0,.sl .ext []]) [])
  (hS:AP Tryz.prog 96 [.agg [.int .u64 (id:Int),.int .i64 err,.int .i64 num,.int .i64 cnt,.int .u64 (tok:Int),byE data],.agg [.int .u64 (id:Int),.int .i64 err,.int .i64 0,.int .i64 0,.int .u64 0,.sl .ext []]] (.bool s) []) :
  AP Tryz.prog 61 [.agg [.int .u64 (id:Int),.int .i64 err,.int .i64 num,.int .i64 cnt,.int .u64 (tok:Int),byE data]] (.bool false) []:=by
 subst g3
 refine AP.ofA (Zp Tryz.func61 Z Tryz.ntmps61 Z Z ?_)
 repeat'(first|(apply Zc (hW);kernel_rfl;(iterate 4 exact Z))|(apply Zl Zb;exact Z)|(apply Zj Zb;exact Z)|(apply Zt Zb;exact Z)|refine Zi Z Z Z Qt ?_|refine Zn Z Qt Z Z ?_|refine Zf Z Qt ?_|refine Zz Zb Z Z Z Z ?_|refine Z8 Zb Z Z Z Z Z Z Z Z Z Z Z Z ?_)
 all_goals exact Qe
theorem NX [Known](id:Nat)(err num cnt:Int)(tok:Nat)(data:List UInt8)(w s:Bool)(g0:decide ((id:Int)>1099511627776)=false)(g1:decide (err<0)=false)(g2:decide (err>99)=false)(g3:w=false)(g4:decide ((tok:Int)>2147483648)=false)(g5:decide (((data.map E.byte).length:Int)>600)=false)(g6:(err != 0)=true)
  (hW:AP Tryz.prog 95 [.sl .ext [.int .i64 num,.int .i64 cnt]] (.bool (!w)) [])
  (hF:AP Tryz.prog 97 [.int .u64 (id:Int),.int .i64 err] (.agg [.int .u64 (id:Int),.int .i64 err,.int .i64 0,.int .i64 0,.int .u64 0,.sl .ext []]) [])
  (hS:AP Tryz.prog 96 [.agg [.int .u64 (id:Int),.int .i64 err,.int .i64 num,.int .i64 cnt,.int .u64 (tok:Int),byE data],.agg [.int .u64 (id:Int),.int .i64 err,.int .i64 0,.int .i64 0,.int .u64 0,.sl .ext []]] (.bool s) []) :
  AP Tryz.prog 61 [.agg [.int .u64 (id:Int),.int .i64 err,.int .i64 num,.int .i64 cnt,.int .u64 (tok:Int),byE data]] (.bool s) []:=by
 subst g3
 refine AP.ofA (Zp Tryz.func61 Z Tryz.ntmps61 Z Z ?_)
 repeat'(first|(apply Zc (hW);kernel_rfl;(iterate 4 exact Z))|(apply Zc (hF);kernel_rfl;(iterate 4 exact Z))|(apply Zc (hS);kernel_rfl;(iterate 4 exact Z))|(apply Zl Zb;exact Z)|(apply Zj Zb;exact Z)|(apply Zt Zb;exact Z)|refine Zi Z Z Z Qt ?_|refine Zn Z Qt Z Z ?_|refine Zf Z Qt ?_|refine Zg Z Qt ?_|refine Zz Zb Z Z Z Z ?_|refine Z8 Zb Z Z Z Z Z Z Z Z Z Z Z Z ?_|(apply Za 6 Ze;decide +kernel;kernel_rfl;kernel_rfl;kernel_rfl;exact Z;exact Z)|(apply Zv;(iterate 4 exact Z))|exact AE.nil _ _ _ _|(apply ZB;exact Z)|(apply ZD;exact Z;exact Z;decide +kernel;exact Z)|(apply ZE;exact Z)|exact AO.nil _ _ _|(apply Zu;(decide +kernel))|exact AOs.nil|exact ZR rfl rfl)
 all_goals exact Qe
theorem NY [Known](id:Nat)(err num cnt:Int)(tok:Nat)(data:List UInt8)(w s:Bool)(g0:decide ((id:Int)>1099511627776)=false)(g1:decide (err<0)=false)(g2:decide (err>99)=false)(g3:w=false)(g4:decide ((tok:Int)>2147483648)=false)(g5:decide (((data.map E.byte).length:Int)>600)=false)(g6:(err != 0)=false)
  (hW:AP Tryz.prog 95 [.sl .ext [.int .i64 num,.int .i64 cnt]] (.bool (!w)) [])
  (hF:AP Tryz.prog 97 [.int .u64 (id:Int),.int .i64 err] (.agg [.int .u64 (id:Int),.int .i64 err,.int .i64 0,.int .i64 0,.int .u64 0,.sl .ext []]) [])
  (hS:AP Tryz.prog 96 [.agg [.int .u64 (id:Int),.int .i64 err,.int .i64 num,.int .i64 cnt,.int .u64 (tok:Int),byE data],.agg [.int .u64 (id:Int),.int .i64 err,.int .i64 0,.int .i64 0,.int .u64 0,.sl .ext []]] (.bool s) []) :
  AP Tryz.prog 61 [.agg [.int .u64 (id:Int),.int .i64 err,.int .i64 num,.int .i64 cnt,.int .u64 (tok:Int),byE data]] (.bool true) []:=by
 subst g3
 refine AP.ofA (Zp Tryz.func61 Z Tryz.ntmps61 Z Z ?_)
 repeat'(first|(apply Zc (hW);kernel_rfl;(iterate 4 exact Z))|(apply Zl Zb;exact Z)|(apply Zj Zb;exact Z)|(apply Zt Zb;exact Z)|refine Zi Z Z Z Qt ?_|refine Zn Z Qt Z Z ?_|refine Zg Z Qt ?_|refine Zz Zb Z Z Z Z ?_|refine Z8 Zb Z Z Z Z Z Z Z Z Z Z Z Z ?_)
 all_goals exact Qe
theorem OB [Known](x:RyV):AP Tryz.prog 61 [.agg (ryC x)] (.bool (Y5 x)) []:=by
 have hW:=OA x.num x.cnt
 have hF:=IB x.id x.err
 have hS:=IA x ⟨x.id,x.err,0,0,0,[]⟩
 unfold Y5 KQ
 obtain⟨id,err,num,cnt,tok,data⟩:=x
 dsimp only at *
 generalize Xi _ _=s at *
 cases g0:decide ((id:Int)>1099511627776) with
 | true=>
  exact NR id err num cnt tok data _ s g0 hW hF hS
 | false=>
  cases g1:decide (err<0) with
  | true=>
   exact NS id err num cnt tok data _ s g0 g1 hW hF hS
  | false=>
   cases g2:decide (err>99) with
   | true=>
    exact NT id err num cnt tok data _ s g0 g1 g2 hW hF hS
   | false=>
    cases g3:(QO num||QO cnt) with
    | true=>
     exact NU id err num cnt tok data _ s g0 g1 g2 g3 hW hF hS
    | false=>
     cases g4:decide ((tok:Int)>2147483648) with
     | true=>
      exact NV id err num cnt tok data _ s g0 g1 g2 g3 g4 hW hF hS
     | false=>
      cases g5:decide (((data.map E.byte).length:Int)>600) with
      | true=>
       exact NW id err num cnt tok data _ s g0 g1 g2 g3 g4 g5 hW hF hS
      | false=>
       cases g6:(err != 0) with
       | true=>
        exact NX id err num cnt tok data _ s g0 g1 g2 g3 g4 g5 g6 hW hF hS
       | false=>
        exact NY id err num cnt tok data _ s g0 g1 g2 g3 g4 g5 g6 hW hF hS
def vnF:Nat->Nat->List UInt8
 | 0,n=>[UInt8.ofNat n]
 | f+1,n=>if n>127 then UInt8.ofNat (n % 128+128)::vnF f (n/128) else [UInt8.ofNat n]
def vn (n:Nat):List UInt8:=vnF 9 n
theorem W1:∀ f n,(vnF f n).length<=f+1/\0<(vnF f n).length
 | 0,n=>by simp[vnF]
 | f+1,n=>by
  rw[vnF]
  split
  ·have:=W1 f (n/128);simp;omega
  ·simp
def rnF:List UInt8->Nat->Nat->Nat × Nat × List UInt8
 | [],_,_=>(0,8,[])
 | c::r,i,a=>if i=10\/(i=9/\c.toNat>1)\/(c.toNat=0/\i>0) then(0,3,r)
  else if c.toNat<128 then(a+c.toNat % 128*2 ^ (7*i),0,r) else rnF r (i+1) (a+c.toNat % 128*2 ^ (7*i))
theorem Gl:∀(f n i a:Nat) (r:List UInt8),i+f=9->n*2 ^ (7*i)<18446744073709551616->(i>0->n>0)->rnF (vnF f n++r) i a=(a+n*2 ^ (7*i),0,r)
 | 0,n,i,a,r,hi,hn,hp=>by
  obtain rfl:i=9:=by omega
  have h2:n<2:=by
   have:n*9223372036854775808<18446744073709551616:=hn
   omega
  have hp:=hp (by omega)
  obtain rfl:n=1:=by omega
  rw[vnF,List.cons_append,List.nil_append,rnF,if_neg (by decide),if_pos (by decide)]
  rfl
 | f+1,n,i,a,r,hi,hn,hp=>by
  rw[vnF]
  by_cases h:n>127
  ·rw[if_pos h,List.cons_append,rnF]
   have hc:(UInt8.ofNat (n % 128+128)).toNat=n % 128+128:=by rw[UInt8.toNat_ofNat'];omega
   rw[hc,if_neg (by omega),if_neg (by omega)]
   have hpow:2 ^ (7*(i+1))=128*2 ^ (7*i):=by rw[Nat.mul_add,Nat.pow_add,Nat.mul_comm]
   have hle:n/128*2 ^ (7*(i+1))<=n*2 ^ (7*i):=by
    rw[hpow,<- Nat.mul_assoc]
    exact Nat.mul_le_mul_right _ (by omega)
   rw[Gl f (n/128) (i+1) _ r (by omega) (by omega) (by omega)]
   congr 1
   rw[hpow,Nat.add_assoc,show(n % 128+128) % 128=n % 128 by omega,<- Nat.mul_assoc,<- Nat.add_mul,show n % 128+n/128*128=n by omega]
  ·rw[if_neg h,List.cons_append,List.nil_append,rnF]
   have hc:(UInt8.ofNat n).toNat=n:=by rw[UInt8.toNat_ofNat'];omega
   rw[hc,if_neg (by omega),if_pos (by omega),Nat.mod_eq_of_lt (by omega)]
theorem O3:∀(b:List UInt8) (i a:Nat),(rnF b i a).2.2.length<=b.length
 | [],_,_=>by simp[rnF]
 | c::r,i,a=>by
  rw[rnF]
  split
  ·simp
  ·split
   ·simp
   ·have:=O3 r (i+1) (a+c.toNat % 128*2 ^ (7*i));simp;omega
theorem Gm:∀(b:List UInt8) (i a:Nat),a<2 ^ (7*i)->i<=10->(rnF b i a).1<18446744073709551616
 | [],_,_,_,_=>by simp[rnF]
 | c::r,i,a,ha,hi=>by
  rw[rnF]
  split
  ·simp
  ·rename_i h
   have hc:=c.toNat_lt
   have hpow:2 ^ (7*(i+1))=128*2 ^ (7*i):=by rw[Nat.mul_add,Nat.pow_add,Nat.mul_comm]
   have h1:a+c.toNat % 128*2 ^ (7*i)<2 ^ (7*(i+1)):=by
    rw[hpow]
    have:c.toNat % 128*2 ^ (7*i)<=127*2 ^ (7*i):=Nat.mul_le_mul_right _ (by omega)
    omega
   have h9:i<=9:=by omega
   split
   ·rcases Nat.lt_or_ge i 9 with h8|h8
    ·have:2 ^ (7*(i+1))<=2 ^ 63:=Nat.pow_le_pow_right (by decide) (by omega)
     show a+c.toNat % 128*2 ^ (7*i)<_
     omega
    ·obtain rfl:i=9:=by omega
     have hc1:c.toNat<=1:=by omega
     have h2:a<9223372036854775808:=ha
     show a+c.toNat % 128*9223372036854775808<_
     have:c.toNat % 128<=1:=by omega
     omega
   ·exact Gm r (i+1) _ h1 (by omega)
theorem Tj (a x k:Nat)(ha:a<2 ^ k):a ||| x*2 ^ k=a+x*2 ^ k:=by
 rw[Nat.or_comm,Nat.mul_comm,<- Nat.two_pow_add_eq_or_of_lt ha x];omega
theorem Tk:∀ n:Nat,n<256->n &&& 127=n % 128:=by decide +kernel
theorem Tl:∀ n:Nat,n<256->(n &&& 128==0)=decide (n<128):=by decide +kernel
theorem T1:∀ n:Nat,n<256->n ||| 128=n % 128+128:=by decide +kernel
theorem Tm (c:UInt8):bits .and .u8 (c.toNat:Int) 127=((c.toNat % 128:Nat):Int):=by
 rw[<- Tk _ c.toNat_lt]
 exact u8_and_nat _ 127 c.toNat_lt (by decide)
theorem Tn (c:UInt8):bits .and .u8 (c.toNat:Int) 128=((c.toNat &&& 128:Nat):Int):=u8_and_nat _ 128 c.toNat_lt (by decide)
theorem T2 (c:UInt8):((bits .and .u8 (c.toNat:Int) 128)==0)=decide (c.toNat<128):=by
 rw[Tn,<- Tl _ c.toNat_lt,Bool.eq_iff_iff,beq_iff_eq,beq_iff_eq]
 omega
theorem H1 (n:Nat):IntKind.u8.wrap (n:Int)=((n % 256:Nat):Int):=by rw[IntKind.wrap_u8];omega
theorem Ho (n:Nat):bits .or .u8 (IntKind.u8.wrap (n:Int)) 128=((UInt8.ofNat (n % 128+128)).toNat:Int):=by
 have hc:(UInt8.ofNat (n % 128+128)).toNat=n % 128+128:=by rw[UInt8.toNat_ofNat'];omega
 rw[H1,hc]
 have:=u8_or_nat (n % 256) 128 (by omega) (by decide)
 rw[T1 _ (by omega),show n % 256 % 128=n % 128 by omega]at this
 exact this
theorem To (n:Nat):(n:Int).fdiv (2 ^ min (Int.toNat 7) IntKind.u64.bits)=((n/128:Nat):Int):=by
 have e:(2 ^ min (Int.toNat 7) IntKind.u64.bits:Int)=128:=by decide
 rw[e,Int.fdiv_eq_ediv_of_nonneg _ (by omega)]
 omega
theorem NZ {a i:Nat}(c:UInt8)(ha:a<2 ^ (7*i))(hi:i<=9)(h9:i=9->c.toNat<=1):bits .or .u64 (a:Int) (IntKind.u64.wrap (IntKind.u64.wrap ((c.toNat % 128:Nat):Int)*2 ^ min (IntKind.i64.wrap (7*(i:Int))).toNat IntKind.u64.bits))=((a+c.toNat % 128*2 ^ (7*i):Nat):Int):=by
 have e0:IntKind.i64.wrap (7*(i:Int))=((7*i:Nat):Int):=by rw[IntWalk.i64_in _ (by omega)];omega
 have e1:min (7*i) IntKind.u64.bits=7*i:=Nat.min_eq_left (by show 7*i<=64;omega)
 have e2:IntKind.u64.wrap ((c.toNat % 128:Nat):Int)=((c.toNat % 128:Nat):Int):=IntWalk.u64_in _ (by omega)
 have e3:(((c.toNat % 128:Nat):Int)*2 ^ (7*i))=((c.toNat % 128*2 ^ (7*i):Nat):Int):=by simp
 have hlt:c.toNat % 128*2 ^ (7*i)<18446744073709551616/\a<18446744073709551616:=by
  rcases Nat.lt_or_ge i 9 with h8|h8
  ·have h1:2 ^ (7*i)<=2 ^ 56:=Nat.pow_le_pow_right (by decide) (by omega)
   have h2:c.toNat % 128*2 ^ (7*i)<=127*2 ^ 56:=Nat.mul_le_mul (by omega) h1
   omega
  ·obtain rfl:i=9:=by omega
   have:=h9 rfl
   have h2:a<9223372036854775808:=ha
   constructor
   ·show c.toNat % 128*9223372036854775808<_
    have:c.toNat % 128<=1:=by omega
    omega
   ·omega
 rw[e0,Int.toNat_natCast,e1,e2,e3,IntWalk.u64_in _ (by omega),u64_or_nat _ _ hlt.2 hlt.1,Tj _ _ _ ha]
end Go.Proofs.YtchlgagdbflkmaaGreatDoor
end
