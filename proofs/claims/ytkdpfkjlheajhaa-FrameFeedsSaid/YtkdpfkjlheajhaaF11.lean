/- Package frame: bytes fed, frames written, lists of slices held against each other. -/
import Derived.Test.YtkdpfkjlheajhaaF09
import Derived.Test.YtkdpfkjlheajhaaF10
import Derived.Test.YtkdpfkjlheajhaaF08
import Derived.Recover
set_option linter.unusedVariables false
set_option linter.unusedSimpArgs false
section
open Go.RowKit Go.Pl Go.Av
namespace Go.Proofs.Ytkdpfkjlheajhaa
set_option maxHeartbeats 1000000
theorem J9 (n:Nat):(n:Int).fdiv (2 ^ min (Int.toNat 8) IntKind.i64.bits)=((n/256:Nat):Int):=by
 rw[show min (Int.toNat 8) IntKind.i64.bits=8 from rfl,show((2:Int) ^ 8)=((256:Nat):Int) from rfl,Int.fdiv_eq_ediv_of_nonneg _ (Int.natCast_nonneg _)]
 omega
theorem Vr [Known](b:List UInt8)(h1:1<=b.length)(h2:b.length<=1000):AP Try.prog 23 [byE b] (.tup [byE (VF b),.int .i64 0]) []:=by
 refine AP.weak (ZG Try.func23 Z Try.ntmps23 Z Z ?_)
 have d1:decide ((((b.map E.byte).length:Nat):Int)<1)=false:=by simp;omega
 have d2:decide ((((b.map E.byte).length:Nat):Int)>1000)=false:=by simp;omega
 have hne:b.map E.byte ≠ []:=by cases b<;>simp at h1 ⊢
 have hU:=ZD b
 repeat'(first|(apply Zj Za;exact Z)|(apply Zf Za;exact Z)|(apply Zv Za;exact Z)|refine ZV ?_|(apply Zo;(iterate 3 exact Z);(first|with_reducible assumption|(solve|simp only[bn])))|(apply Zt;exact Z;(first|with_reducible assumption|(solve|simp only[bn]));exact Z;exact Z)|(apply Ze;exact Z;(first|with_reducible assumption|(solve|simp only[bn])))|refine Zk Za Z Z Z Z ?_|refine YK Za Z Z Z Z Z Z Z Z Z Z Z Z ?_|(apply ZM Za;(iterate 6 exact Z);(first|with_reducible assumption|exact Z|rotate_left);exact Z;exact Z;(first|exact Zc rfl|with_reducible assumption|rotate_left);(first|exact Zc rfl|with_reducible assumption|rotate_left);(first|exact Qb|rotate_left);(first|exact Qb|rotate_left);(first|exact Qb|rotate_left);exact Z;exact Z)|(apply Jp;exact Z;exact Z;(first|exact Qb|rotate_left);exact Z))
 ·(apply WZ;(apply Zg Za;exact Z);exact Z)
  have e1:E.int .u8 (IntKind.u8.wrap (((((b.map E.byte).length:Nat):Int)).fdiv (2 ^ min (Int.toNat 8) IntKind.i64.bits)))=E.byte (UInt8.ofNat (b.length/256)):=by
   rw[J9,List.length_map,IntKind.wrap_u8']
   unfold E.byte
   rw[UInt8.toNat_ofNat']
   congr 1
  have e2:E.int .u8 (IntKind.u8.wrap ((((b.map E.byte).length:Nat):Int)))=E.byte (UInt8.ofNat (b.length % 256)):=by
   rw[List.length_map,IntKind.wrap_u8']
   unfold E.byte
   rw[UInt8.toNat_ofNat']
   congr 1
   omega
  have e3:=congr (congrArg (fun(x y:E)=>D.tup [D.sl .ext (x::y::b.map E.byte),D.int .i64 0]) e1) e2
  exact e3
 ·simp[maxLen];omega
 ·simp;omega
theorem Uu [Known](b:List UInt8)(h:b.length<1\/1000<b.length):AP Try.prog 23 [byE b] (.tup [byE [],.int .i64 1]) []:=by
 refine AP.weak (ZG Try.func23 Z Try.ntmps23 Z Z ?_)
 by_cases h1:b.length<1
 ·have d1:decide ((((b.map E.byte).length:Nat):Int)<1)=true:=decide_eq_true (by rw[List.length_map];omega)
  repeat'(first|(apply Zj Za;exact Z)|(apply Zf Za;exact Z)|(apply Zv Za;exact Z)|(apply YG;(iterate 3 exact Z);(first|with_reducible assumption|(solve|simp only[bn])))|(apply ZB;exact Z;(first|with_reducible assumption|(solve|simp only[bn]));exact Z;exact Z)|(apply Zd;exact Z;(first|with_reducible assumption|(solve|simp only[bn])))|refine Zk Za Z Z Z Z ?_)
  all_goals(apply WZ;(apply Zg Za;exact Z);exact Z)
  all_goals rfl
 ·have d1:decide ((((b.map E.byte).length:Nat):Int)<1)=false:=by simp;omega
  have d2:decide ((((b.map E.byte).length:Nat):Int)>1000)=true:=by simp;omega
  repeat'(first|(apply Zj Za;exact Z)|(apply Zf Za;exact Z)|(apply Zv Za;exact Z)|(apply Zo;(iterate 3 exact Z);(first|with_reducible assumption|(solve|simp only[bn])))|(apply Zt;exact Z;(first|with_reducible assumption|(solve|simp only[bn]));exact Z;exact Z)|(apply Zd;exact Z;(first|with_reducible assumption|(solve|simp only[bn])))|refine Zk Za Z Z Z Z ?_)
  all_goals(apply WZ;(apply Zg Za;exact Z);exact Z)
  all_goals rfl
theorem W3 [Known](d:Dec)(b:List UInt8)(he:d.2 ≠ 0):AQ Try.prog 19 [.ptr 0 0,byE b] (Yk true d.1 d.2) (.tup [ZN [],.int .i64 d.2]) (Yk true d.1 d.2):=by
 refine AQ.weak (ZG Try.func19 Z Try.ntmps19 Z Z ?_)
 have d1:(((d.2:Nat):Int) != 0)=true:=by simp;omega
 repeat'(first|(apply Zf Za;exact Z))
 refine Yo 0 (fun _ _ _ _=>False) 0 rfl (fun _ _ _ _ h=>h.elim) (fun H=>?_)
 repeat'(first|(apply Zb [0] (Zs d.1 d.2);kernel_rfl;(iterate 7 exact Z))|(apply Zj Za;exact Z)|(apply Zf Za;exact Z)|(apply Zv Za;exact Z)|refine ZH ?_|(apply Zd;exact Z;(first|with_reducible assumption|(solve|simp only[bn]))))
 ·(apply Yh [0];(apply Zg Za;exact Z);(iterate 4 exact Z))
  all_goals rfl
theorem be2 (x y:UInt8):bits .or .i64 (IntKind.i64.wrap (IntKind.i64.wrap (x.toNat:Int)*2 ^ min (Int.toNat 8) IntKind.i64.bits)) (IntKind.i64.wrap (y.toNat:Int))=((256*x.toNat+y.toNat:Nat):Int):=by
 have hx:=x.toNat_lt
 have hy:=y.toNat_lt
 rw[show min (Int.toNat 8) IntKind.i64.bits=8 from rfl,IntWalk.i64_in (x.toNat:Int) (by omega),IntWalk.i64_in (y.toNat:Int) (by omega),IntWalk.i64_in _ (by omega)]
 have e:(x.toNat:Int)*2 ^ 8=((256*x.toNat:Nat):Int):=by omega
 rw[e]
 have h1:(BitVec.ofInt 64 ((256*x.toNat:Nat):Int)).toNat=256*x.toNat:=by
  rw[BitVec.ofInt_natCast,BitVec.toNat_ofNat];exact Nat.mod_eq_of_lt (by omega)
 have h2:(BitVec.ofInt 64 (y.toNat:Int)).toNat=y.toNat:=by
  rw[BitVec.ofInt_natCast,BitVec.toNat_ofNat];exact Nat.mod_eq_of_lt (by omega)
 show IntKind.i64.wrap ((BitVec.ofInt 64 ((256*x.toNat:Nat):Int) ||| BitVec.ofInt 64 (y.toNat:Int)).toNat:Int)=_
 rw[BitVec.toNat_or,h1,h2,nat_join 8 (256*x.toNat) y.toNat (by omega) (by omega),IntWalk.i64_in _ (by omega)]
theorem WI [Known](l b:List UInt8)(hl:l.length+b.length<=1099511627776):AQ Try.prog 19 [.ptr 0 0,byE b] (Yk true l 0) (.tup [ZN (Zh (l++b)).1,.int .i64 (Zh (l++b)).2.2]) (Yk true (Zh (l++b)).2.1 (Zh (l++b)).2.2):=by
 refine AQ.weak (ZG Try.func19 Z Try.ntmps19 Z Z ?_)
 have d1:((0:Int) != 0)=false:=rfl
 have hfl:[l,b].flatten=l++b:=by simp
 repeat'(first|(apply Zf Za;exact Z))
 refine Yo 0 (fun k tm bx fr=>∃(out:List (List UInt8)) (cur:List UInt8) (tk:Tok),k=cur.length/\Zh (l++b)=(out++(Zh cur).1,(Zh cur).2)/\out.length+cur.length<=l.length+b.length/\tm=[(0,.ptr 0 0),(7,.sl tk (out.map E.bys))]/\bx=Yk true cur 0/\((tk=.nil/\out=[]/\fr=[])\/(∃ c,tk=.own 1/\out ≠ []/\c=(out.map E.bys).length/\fr=[⟨1,1,29⟩,⟨c,1,29⟩]))) (l.length+b.length+1) rfl ?pass (fun H=>?_)
 case pass=>
  rintro k tm bx fr ⟨out,cur,tk,rfl,hT,hle,rfl,rfl,hc⟩
  have hU:=ZD cur
  have hO:=Z5 out
  by_cases h2:cur.length<2
  ·have g2:decide ((((cur.map E.byte).length:Nat):Int)<2)=true:=decide_eq_true (by rw[List.length_map];omega)
   repeat'(first|(apply Zj Za;exact Z)|(apply Zf Za;exact Z)|(apply Zv Za;exact Z)|refine ZH ?_|(apply Zd;exact Z;(first|with_reducible assumption|(solve|simp only[bn])))|refine Zk Za Z Z Z Z ?_)
   (apply Yh [0];(apply Zg Za;exact Z);(iterate 4 exact Z))
   ·rw[hT,ZZ h2];simp
   ·rw[hT,ZZ h2];rfl
  have g2:decide ((((cur.map E.byte).length:Nat):Int)<2)=false:=decide_eq_false (by rw[List.length_map];omega)
  obtain⟨x,y,r,hcur⟩:∃ x y r,cur=x::y::r:=by
   match cur,h2 with
   | x::y::r,_=>exact⟨x,y,r,rfl⟩
   | [_],h=>simp at h
   | [],h=>simp at h
  have hx0:(cur.map E.byte)[(0:Int).toNat]?=some (E.byte x):=by rw[hcur];rfl
  have hy0:(cur.map E.byte)[(1:Int).toNat]?=some (E.byte y):=by rw[hcur];rfl
  have hn:Zl cur=256*x.toNat+y.toNat:=by rw[hcur];rfl
  have e0:=be2 x y
  rw[<- hn]at e0
  by_cases h0:Zl cur=0
  ·have g0:(((Zl cur:Nat):Int)==0)=true:=by rw[h0];rfl
   repeat'(first|rw[e0]|(apply Zb [0] (Wo true cur 0 3);kernel_rfl;(iterate 7 exact Z))|(apply Zj Za;exact Z)|(apply Zf Za;exact Z)|(apply Zv Za;exact Z)|refine ZV ?_|refine ZH ?_|(apply Zd;exact Z;(first|with_reducible assumption|(solve|simp only[bn])))|(apply Ze;exact Z;(first|with_reducible assumption|(solve|simp only[bn])))|refine Zk Za Z Z Z Z ?_|(apply Zq 6 Yj;decide +kernel;kernel_rfl;kernel_rfl;exact Z;exact Z)|(apply Zq 15 Yj;decide +kernel;kernel_rfl;kernel_rfl;exact Z;exact Z)|(apply ZC;(iterate 3 exact Z))|refine AD.nil _|exact Z6 rfl|(apply Zp Za;(iterate 6 exact Z);(first|exact Qb|rotate_left);(first|with_reducible assumption|exact Z);(first|exact Zc rfl|with_reducible assumption|rotate_left))|(apply Yw;exact Z;exact Z;(first|exact Qb|rotate_left);exact Z))
   (apply Yh [0];(apply Zg Za;exact Z);(iterate 4 exact Z))
   ·rw[hT,ZX h2 h0];simp
   ·rw[hT,ZX h2 h0];rfl
  have g0:(((Zl cur:Nat):Int)==0)=false:=by simp;omega
  by_cases h1:Zl cur>1000
  ·have g1:decide (((Zl cur:Nat):Int)>1000)=true:=decide_eq_true (by omega)
   repeat'(first|rw[e0]|(apply Zb [0] (Wo true cur 0 2);kernel_rfl;(iterate 7 exact Z))|(apply Zj Za;exact Z)|(apply Zf Za;exact Z)|(apply Zv Za;exact Z)|refine ZV ?_|refine ZH ?_|(apply Zd;exact Z;(first|with_reducible assumption|(solve|simp only[bn])))|(apply Ze;exact Z;(first|with_reducible assumption|(solve|simp only[bn])))|refine Zk Za Z Z Z Z ?_|(apply Zq 6 Yj;decide +kernel;kernel_rfl;kernel_rfl;exact Z;exact Z)|(apply Zq 15 Yj;decide +kernel;kernel_rfl;kernel_rfl;exact Z;exact Z)|(apply ZC;(iterate 3 exact Z))|refine AD.nil _|exact Z6 rfl|(apply Zp Za;(iterate 6 exact Z);(first|exact Qb|rotate_left);(first|with_reducible assumption|exact Z);(first|exact Zc rfl|with_reducible assumption|rotate_left))|(apply Yw;exact Z;exact Z;(first|exact Qb|rotate_left);exact Z))
   (apply Yh [0];(apply Zg Za;exact Z);(iterate 4 exact Z))
   ·rw[hT,Yb h2 h1];simp
   ·rw[hT,Yb h2 h1];rfl
  have g1:decide (((Zl cur:Nat):Int)>1000)=false:=decide_eq_false (by omega)
  have e1:IntKind.i64.wrap ((((cur.map E.byte).length:Nat):Int)-2)=((cur.length-2:Nat):Int):=by
   rw[List.length_map,IntWalk.i64_in _ (by omega)];omega
  by_cases h3:cur.length<Zl cur+2
  ·have g3:decide (((cur.length-2:Nat):Int) ≥ ((Zl cur:Nat):Int))=false:=decide_eq_false (by omega)
   repeat'(first|rw[e0]|rw[e1]|(apply Zj Za;exact Z)|(apply Zf Za;exact Z)|(apply Zv Za;exact Z)|refine ZV ?_|refine ZH ?_|(apply Ze;exact Z;(first|with_reducible assumption|(solve|simp only[bn])))|refine Zk Za Z Z Z Z ?_|(apply Zq 6 Yj;decide +kernel;kernel_rfl;kernel_rfl;exact Z;exact Z)|(apply Zq 15 Yj;decide +kernel;kernel_rfl;kernel_rfl;exact Z;exact Z)|(apply ZC;(iterate 3 exact Z))|refine AD.nil _|exact Z6 rfl|(apply Zp Za;(iterate 6 exact Z);(first|exact Qb|rotate_left);(first|with_reducible assumption|exact Z);(first|exact Zc rfl|with_reducible assumption|rotate_left))|(apply Yw;exact Z;exact Z;(first|exact Qb|rotate_left);exact Z))
   (apply Yh [0];(apply Zg Za;exact Z);(iterate 4 exact Z))
   ·rw[hT,Yc h2 h0 h1 h3];simp
   ·rw[hT,Yc h2 h0 h1 h3];rfl
  have g3:decide (((cur.length-2:Nat):Int) ≥ ((Zl cur:Nat):Int))=true:=decide_eq_true (by omega)
  have e2:IntKind.i64.wrap (2+((Zl cur:Nat):Int))=((2+Zl cur:Nat):Int):=by
   rw[IntWalk.i64_in _ (by omega)];omega
  have hT1:=YD h2 h0 h1 h3
  have hs1:((cur.map E.byte).take (2+Zl cur)).drop 2=((cur.take (2+Zl cur)).drop 2).map E.byte:=by rw[List.map_drop,List.map_take]
  have hs2:(((cur.map E.byte).take (cur.map E.byte).length).drop ((2+Zl cur:Nat):Int).toNat)=(cur.drop (2+Zl cur)).map E.byte:=by rw[List.take_length,Int.toNat_natCast,List.map_drop]
  rcases hc with⟨rfl,rfl,rfl⟩ | ⟨c,rfl,hne,hcl,rfl⟩
  ·repeat'(first|rw[e0]|rw[e1]|rw[e2]|(apply Zi (Y1 ((cur.take (2+Zl cur)).drop 2) (by simp;omega));kernel_rfl;(iterate 4 exact Z))|(apply YZ Za (p:=2) (q:=2+Zl cur) (r:=2+Zl cur);(iterate 11 exact Z);omega;exact Nat.le_refl _;(rw[List.length_map];omega);exact hU;exact hs1)|(apply ZS Za;(iterate 5 exact Z);exact .lit _ _ _ _ rfl (Int.natCast_nonneg _);exact .dft _;(rw[List.length_map];omega);exact Nat.le_refl _;exact hU;exact hs2)|(apply Zj Za;exact Z)|(apply Zf Za;exact Z)|(apply Zv Za;exact Z)|refine ZV ?_|refine YY ?_|(apply Zd;exact Z;(first|with_reducible assumption|(solve|simp only[bn])))|(apply Ze;exact Z;(first|with_reducible assumption|(solve|simp only[bn])))|refine Zk Za Z Z Z Z ?_|refine YK Za Z Z Z Z Z Z Z Z Z Z Z Z ?_|(apply Zq 15 Yj;decide +kernel;kernel_rfl;kernel_rfl;exact Z;exact Z)|(apply ZC;(iterate 3 exact Z))|refine AD.nil _|exact Z6 rfl|(apply ZR Za;(iterate 6 exact Z);(first|exact Zc rfl|with_reducible assumption|rotate_left);(first|exact Qb|rotate_left);(first|exact Qb|rotate_left);(first|exact Qb|rotate_left);(iterate 3 exact Z))|(apply Zp Za;(iterate 6 exact Z);(first|exact Qb|rotate_left);(first|with_reducible assumption|exact Z);(first|exact Zc rfl|with_reducible assumption|rotate_left))|(apply Yw;exact Z;exact Z;(first|exact Qb|rotate_left);exact Z))
   ·refine Lands.mk' (m:=(cur.drop (2+Zl cur)).length) (by simp;omega) ⟨[(cur.take (2+Zl cur)).drop 2],cur.drop (2+Zl cur),.own 1,rfl,by rw[hT,hT1];rfl,by simp at hle ⊢;omega,rfl,rfl,.inr ⟨1,rfl,by simp,rfl,rfl⟩⟩ ?_ rfl rfl rfl rfl rfl rfl
    exact .cons rfl (.cons rfl .nil)
   all_goals first|(show 1<=maxLen;decide)|(show 1*24<=_;decide)
  ·have hne':out.map E.bys ≠ []:=by simpa using hne
   repeat'(first|rw[e0]|rw[e1]|rw[e2]|(apply Zi (Y1 ((cur.take (2+Zl cur)).drop 2) (by simp;omega));kernel_rfl;(iterate 4 exact Z))|(apply YZ Za (p:=2) (q:=2+Zl cur) (r:=2+Zl cur);(iterate 11 exact Z);omega;exact Nat.le_refl _;(rw[List.length_map];omega);exact hU;exact hs1)|(apply ZS Za;(iterate 5 exact Z);exact .lit _ _ _ _ rfl (Int.natCast_nonneg _);exact .dft _;(rw[List.length_map];omega);exact Nat.le_refl _;exact hU;exact hs2)|(apply Zj Za;exact Z)|(apply Zf Za;exact Z)|(apply Zv Za;exact Z)|refine ZV ?_|refine YY ?_|(apply Zd;exact Z;(first|with_reducible assumption|(solve|simp only[bn])))|(apply Ze;exact Z;(first|with_reducible assumption|(solve|simp only[bn])))|refine Zk Za Z Z Z Z ?_|refine YK Za Z Z Z Z Z Z Z Z Z Z Z Z ?_|(apply Zq 15 Yj;decide +kernel;kernel_rfl;kernel_rfl;exact Z;exact Z)|(apply ZC;(iterate 3 exact Z))|refine AD.nil _|exact Z6 rfl|(apply ZM Za;(iterate 6 exact Z);(first|with_reducible assumption|exact Z|rotate_left);exact Z;exact Z;(first|exact Zc rfl|with_reducible assumption|rotate_left);(first|exact Zc rfl|with_reducible assumption|rotate_left);(first|exact Qb|rotate_left);(first|exact Qb|rotate_left);(first|exact Qb|rotate_left);exact Z;exact Z)|(apply Zp Za;(iterate 6 exact Z);(first|exact Qb|rotate_left);(first|with_reducible assumption|exact Z);(first|exact Zc rfl|with_reducible assumption|rotate_left))|(apply Yw;exact Z;exact Z;(first|exact Qb|rotate_left);exact Z))
   ·refine Lands.mk' (m:=(cur.drop (2+Zl cur)).length) (by simp;omega) ⟨out++[(cur.take (2+Zl cur)).drop 2],cur.drop (2+Zl cur),.own 1,rfl,by rw[hT,hT1];simp,by simp at hle ⊢;omega,rfl,rfl,.inr ⟨_,rfl,by simp,rfl,rfl⟩⟩ ?_ rfl ?_ rfl rfl rfl rfl
    ·exact .cons rfl (.cons (by rw[List.map_append];rfl) .nil)
    ·rw[List.map_append,List.length_append];rfl
   ·show(out.map E.bys).length+1<=maxLen
    rw[List.length_map];unfold maxLen;omega
   ·show((out.map E.bys).length+1)*24<=_
    rw[List.length_map];omega
 ·repeat'(first|refine H _ ?_|(apply Zb [0] (Zs l 0);kernel_rfl;(iterate 7 exact Z))|(apply Zi (U6 [l,b] (by rw[hfl,List.length_append];omega) (by simp));kernel_rfl;(iterate 4 exact Z))|refine Vy Z Z ?_|refine Wr Z Z ?_|refine Uc Z Z Z Z Z ?_|refine WS Za Z Z Z Z Z Z ?_|refine YF Za Z Z Z Z Z Z Z ?_|refine YP Z Z ?_|refine WT Za Z Z Z Z Z Z Z Z ?_|refine Vx ?_|refine Wq ?_|refine WE ?_|(apply Ze;exact Z;(first|with_reducible assumption|(guard_target =ₛ true=true;rfl)|(guard_target =ₛ false=false;rfl)|(guard_target =ₛ (!true)=false;rfl)|(guard_target =ₛ (!false)=true;rfl)))|refine YK Za Z Z Z Z Z Z Z Z Z Z Z Z ?_|refine WD ?_|refine WO ?_)
  refine Lands.mk' (m:=(l++b).length) (by simp) ⟨[],l++b,.nil,rfl,by simp,by simp,rfl,rfl,.inl ⟨rfl,rfl,rfl⟩⟩ ?_ ?_ rfl rfl rfl rfl rfl
  ·exact .cons rfl (.cons rfl .nil)
  ·rw[hfl];rfl
theorem WJ [Known](a b:List (List UInt8))(ha:a.length<=1099511627776):AP Try.prog 22 [ZN a,ZN b] (.bool (decide (a=b))) []:=by
 refine ZG Try.func22 rfl Try.ntmps22 rfl rfl ?_
 have hU1:=Z5 a
 have hU2:=Z5 b
 by_cases hl:a.length=b.length
 ·have g:((((a.map E.bys).length:Nat):Int) != (((b.map E.bys).length:Nat):Int))=false:=by simp[hl]
  repeat'(first|(apply Zj Za;exact Z)|(apply Zf Za;exact Z)|(apply Zv Za;exact Z)|(apply Ze;exact Z;(first|with_reducible assumption|(solve|simp only[bn])))|refine Zk Za Z Z Z Z ?_)
  refine ZT (fun k tm bx fr=>∃ i,k+i=a.length/\a.take i=b.take i/\tm=[(0,ZN a),(1,ZN b),(5,.int .i64 (i:Int))]/\bx=[]/\fr=[]) (a.length+1) (Lands.mk' (m:=a.length) (Nat.lt_succ_self _) ⟨0,rfl,rfl,rfl,rfl,rfl⟩ ?_ rfl rfl rfl rfl rfl rfl) ?_
  ·exact .cons rfl (.cons rfl (.cons rfl .nil))
  rintro k tm bx fr ⟨i,hk,ht,rfl,rfl,rfl⟩
  rcases Nat.lt_or_ge i a.length with hlt|hge
  ·have hd:decide ((i:Int)<(((a.map E.bys).length:Nat):Int))=true:=by simp;omega
   obtain⟨x,hx⟩:∃ x,a[i]?=some x:=⟨_,List.getElem?_eq_getElem hlt⟩
   obtain⟨y,hy⟩:∃ y,b[i]?=some y:=⟨_,List.getElem?_eq_getElem (by omega)⟩
   have hv1:(a.map E.bys)[((i:Nat):Int).toNat]?=some (E.bys x):=by simp[hx]
   have hv2:(b.map E.bys)[((i:Nat):Int).toNat]?=some (E.bys y):=by simp[hy]
   have e2:IntKind.i64.wrap ((i:Int)+1)=((i+1:Nat):Int):=by rw[IntWalk.i64_in _ (by omega)];omega
   by_cases hxy:x=y
   ·have hs:(x != y)=false:=by simp[hxy]
    repeat'(first|rw[e2]|(apply Zj Za;exact Z)|(apply Zf Za;exact Z)|(apply Zv Za;exact Z)|refine ZV ?_|(apply Zd;exact Z;(first|with_reducible assumption|(solve|simp only[bn])))|(apply Ze;exact Z;(first|with_reducible assumption|(solve|simp only[bn])))|refine YV ?_|refine Zk Za Z Z Z Z ?_|(apply Zq 10 Yj;decide +kernel;kernel_rfl;kernel_rfl;exact Z;exact Z)|(apply ZC;(iterate 3 exact Z))|refine AD.nil _|exact Z6 rfl|(apply Zp Za;(iterate 6 exact Z);(first|exact Qb|rotate_left);(first|with_reducible assumption|exact Z);(first|exact Zc rfl|with_reducible assumption|rotate_left))|refine VC Za Z Z Z Z Z Z Z Z Z ?_)
    refine Lands.mk' (m:=k-1) (by omega) ⟨i+1,by omega,by rw[List.take_add_one,List.take_add_one,hx,hy,ht,hxy],rfl,rfl,rfl⟩ ?_ rfl rfl rfl rfl rfl rfl
    exact .cons rfl (.cons rfl (.cons rfl .nil))
   ·have hs:(x != y)=true:=by simp[hxy]
    repeat'(first|(apply Zj Za;exact Z)|(apply Zf Za;exact Z)|(apply Zv Za;exact Z)|refine ZV ?_|(apply Zd;exact Z;(first|with_reducible assumption|(solve|simp only[bn])))|refine Zk Za Z Z Z Z ?_|(apply Zq 10 Yj;decide +kernel;kernel_rfl;kernel_rfl;exact Z;exact Z)|(apply ZC;(iterate 3 exact Z))|refine AD.nil _|exact Z6 rfl|(apply Zp Za;(iterate 6 exact Z);(first|exact Qb|rotate_left);(first|with_reducible assumption|exact Z);(first|exact Zc rfl|with_reducible assumption|rotate_left))|refine VC Za Z Z Z Z Z Z Z Z Z ?_)
    (apply Qn (ts:=[]);(apply Zg Za;exact Z);exact Zx _;exact Z;rotate_left;exact Z)
    rw[show decide (a=b)=false from decide_eq_false fun e=>hxy (by rw[e,hy]at hx;injection hx with hx;exact hx.symm)]
  ·have hd:decide ((i:Int)<(((a.map E.bys).length:Nat):Int))=false:=by simp;omega
   repeat'(first|(apply Zj Za;exact Z)|(apply Zf Za;exact Z)|(apply Zv Za;exact Z)|refine ZV ?_|(apply Ze;exact Z;(first|with_reducible assumption|(solve|simp only[bn])))|refine Zk Za Z Z Z Z ?_)
   (apply Qn (ts:=[]);(apply Zg Za;exact Z);exact Zx _;exact Z;rotate_left;exact Z)
   rw[List.take_of_length_le (by omega),List.take_of_length_le (by omega)]at ht
   rw[show decide (a=b)=true from decide_eq_true ht]
 ·have g:((((a.map E.bys).length:Nat):Int) != (((b.map E.bys).length:Nat):Int))=true:=by simp;omega
  repeat'(first|(apply Zj Za;exact Z)|(apply Zf Za;exact Z)|(apply Zv Za;exact Z)|(apply Zd;exact Z;(first|with_reducible assumption|(solve|simp only[bn])))|refine Zk Za Z Z Z Z ?_)
  (apply Qn (ts:=[]);(apply Zg Za;exact Z);exact Zx _;exact Z;rotate_left;exact Z)
  rw[show decide (a=b)=false from decide_eq_false fun e=>hl (by rw[e])]
end Go.Proofs.Ytkdpfkjlheajhaa
end
section
open Go.RowKit Go.Pl
namespace Go.Av
section
variable {P:Program} {Q:X->St->Prop} {n:Nat} {ee:Nat × Nat} {tm:List (Nat × D)} {bx bx':List (List D)} {fr fr':List Fr} {b0:Bs} {g:G} {w:World} {a:Act} {T:Tab}
variable {ops:Array Oper} {rest:List Oper} {t ty:Nat} {pos:String} {after:Array Edge}
theorem VG {b o m c:Nat}{v:Value}(h:V w g fr (.bsl b o m c) v):∃ blk cap,g.ρ[b]?=some blk/\m<=cap/\cap<=maxLen/\v=.slice (some ⟨blk,o,none⟩) m cap/\(c=0\/c=cap):=by
 cases h;exact⟨_,_,‹_›,‹_›,‹_›,rfl,‹_›⟩
theorem Yd [Known][Dfr]{x:Operand}{st:Nat}{b o m c:Nat}{ti:Ti}{e:Nat}(hT:chk P T=true)(hx:ev tm x=.bsl b o m c)(ht:tl T st=some ti)(hk:ti.kd=.slice e)(htd:Nat.blt t n=true)
  (kk:AL P ops rest ⟨n,(t,.int .i64 (m:Int))::tm,bx,fr,ee⟩ Q):AL P ops (⟨some t,.call { callee:=.builtin .len,args := #[x],argTypes := #[st] },ty,pos,after,none⟩::rest) ⟨n,tm,bx,fr,ee⟩ Q:=
 Zr _ htd (fun g a w hi=>by
  have h1:V w g fr (ev tm x) (a.eval x):=hi.ev x
  rw[hx]at h1
  obtain⟨blk,cap0,_,_,_,hv,_⟩:=VG h1
  refine⟨.int .i64 (m:Int),?_,.int _ _⟩
  simp[execOp,resolve,invoke,builtin,Builtin.len_,Sem.run_bind,hv,run_underlying ((Zn hT ht).slice hk),goInt]) kk
theorem Y2 [Known][Dfr](hT:chk P T=true){x y:Operand}{st e:Nat}{k:IntKind}{i:Int}{b m c o2:Nat}{ti te:Ti}(hx:ev tm x=.bsl b 0 m c)(hy:ev tm y=.int k i)(ht:tl T st=some ti)(hk:ti.kd=.slice e)(hte:tl T e=some te)(htd:Nat.blt t n=true)
  (h0:0<=i) (hi2:i<(m:Int)) (ho:i.toNat*te.size=o2)
  (kk:AL P ops rest ⟨n,(t,.ptr b o2)::tm,bx,fr,ee⟩ Q):AL P ops (⟨some t,.indexAddr st x y,ty,pos,after,none⟩::rest) ⟨n,tm,bx,fr,ee⟩ Q:=
 Zr _ htd (fun g a w hi=>by
  have h1:V w g fr (ev tm x) (a.eval x):=hi.ev x
  rw[hx]at h1
  have h2:V w g fr (ev tm y) (a.eval y):=hi.ev y
  rw[hy]at h2
  have h2:=h2.int_inv
  obtain⟨blk,cap0,hb,_,_,hv,_⟩:=VG h1
  have hu:=(Zn hT ht).slice hk
  have hsz:=ZA (P:=P) (t:=e) (Zn hT hte).tSize w
  have hadd:(⟨blk,0,none⟩:Addr).add (i.toNat*te.size)=⟨blk,o2,none⟩:=by rw[Addr.add_mid,Nat.zero_add,ho]
  refine⟨.pointer (some ⟨blk,o2,none⟩),?_,.ptr _ _ _ hb⟩
  have hrun:(Instr.indexAt st (.slice (some ⟨blk,0,none⟩) m cap0) (.int k i)).run P w=.ok (.pointer (some ⟨blk,o2,none⟩)) w:=by
   simp[Instr.indexAt,asIntOf,Sem.run_bind,run_underlying hu,(⟨h0,hi2⟩:0<=i/\i<(m:Int)),hsz,hadd]
  simp[execOp,hv,h2,Sem.run_bind,hrun]) kk
theorem Mem.rowc [Known](hm:Mem g bx fr w){b blk z:Nat}{l:List E}(hb:g.ρ[b]?=some blk)(hx:bx[b]?=some [.row z l]):∃ vs ty,w.heap[blk]?=some (.cells vs ty (0,0))/\(z=0\/vs.size=z)/\l.length<=vs.size /\
  ∀(j:Nat) (e:E) (v:Value),l[j]?=some e->vs[j]?=some v->VE w g.C e v:=by
 obtain⟨vs,ty,h1,h2,h3⟩:=hm.bat b blk _ hb hx
 refine⟨vs,ty,h1,h2.2.2 z l rfl,by have:=h2.2.1;simpa[D.ex]using this,fun j e v he hv=>(h3 j _ v ?_ hv).offC⟩
 show(l.map D.ofC)[j]?=_
 rw[List.getElem?_map,he];rfl
theorem Y3 [Known][Dfr](hT:chk P T=true){x:Operand}{lt b o z:Nat}{l:List E}{e:E}{d:D}{ti:Ti}(hx:ev tm x=.ptr b o)(ht:tl T lt=some ti)(ha:ti.kd.agg=false)(hb:bx[b]?=some [.row z l])(he:l[o]?=some e)(hd:nf (.ofE e)=some d)(htd:Nat.blt t n=true)
  (kk:AL P ops rest ⟨n,(t,d)::tm,bx,fr,ee⟩ Q):AL P ops (⟨some t,.load lt x,ty,pos,after,none⟩::rest) ⟨n,tm,bx,fr,ee⟩ Q:=
 Zr _ htd (fun g a w hi=>by
  have h1:V w g fr (ev tm x) (a.eval x):=hi.ev x
  rw[hx]at h1
  obtain⟨blk,h2,h3⟩:=Wg h1
  obtain⟨vs,ut,r1,r2,r3,r4⟩:=hi.mem.rowc h2 hb
  have ho:=(List.getElem?_eq_some_iff.1 he).1
  have hv:vs[o]?=some (vs[o]'(by omega)):=Array.getElem?_eq_getElem _
  have hc:w.cell? ⟨blk,o,none⟩=some (vs[o]'(by omega)):=(cell_of_row w blk o vs ut (0,0) r1).trans hv
  have hag:tAgg P lt=some false:=by rw[(Zn hT ht).tAgg,ha]
  refine⟨_,?_,by rw[<- ZP hd];exact V.ofE (r4 o e _ he hv)⟩
  simp[execOp,h3,Instr.loadAt,Instr.sureAddr,Sem.run_bind,Wt hag hc]) kk
theorem QP [Known][Dfr]{o:Op}(h:∀ b0 g a w,Inv b0 ⟨n,tm,bx,fr,ee⟩ g a w->∃ v w' tm' bx' fr' g' d,(execOp a.eval ⟨some t,o,ty,pos,after,none⟩).run P w=.ok (.value v) w'/\Inv b0 ⟨n,tm',bx',fr',ee⟩ g' a w'/\V w' g' fr' d v/\AL P ops rest ⟨n,(t,d)::tm',bx',fr',ee⟩ Q)(htd:Nat.blt t n=true) :
  AL P ops (⟨some t,o,ty,pos,after,none⟩::rest) ⟨n,tm,bx,fr,ee⟩ Q:=⟨fun b0 g a w hi=>
 wpList_plain rfl fun K hK=>by
  obtain⟨v,w',tm',bx',fr',g',d,hr,hi2,hv,k⟩:=h b0 g a w hi
  unfold Oper.wp
  rw[hr]
  exact hK _ _ (k.run b0 g' _ w' (hi2.put htd hv))⟩
theorem Uv (z:Nat)(l:List E):D.ex [.row z l]=l.map .ofC:=rfl
theorem Vs {z n:Nat}{l:List E}(h1:1<=n)(h2:l.length<=n)(h3:z=0\/n=z):D.fits [.row z l] n:=⟨h1,by rw[Uv,List.length_map];exact h2,fun z' l' e=>by injection e with e _;injection e with e e2;rw[<- e];exact h3⟩
theorem UN {l:List E}{j:Nat}{d:D}(h:(l.map D.ofC)[j]?=some d):∃ x,l[j]?=some x/\d=D.ofC x:=by
 rw[List.getElem?_map]at h
 cases hj:l[j]? with
 | none=>rw[hj]at h;cases h
 | some x=>rw[hj]at h;exact⟨x,rfl,by injection h with h;exact h.symm⟩
theorem Src.row [Known]{bx:List (List D)}{sz b c z:Nat}{d:D}{l:List E}(h:d=.bsl b 0 l.length c)(hb:bx[b]?=some [.row z (flat l)]):Src bx sz d l:=fun {g} {fr} {w} {v} hm hv hU hne=>by
 subst h
 obtain⟨blk,cap0,hρ,hmc,hmax,rfl,_⟩:=VG hv
 obtain⟨cur,e2,s1,s2,s3,s4⟩:=hm.rowc hρ hb
 have hfl:=hU.flat
 have hl:(cur.toList.take (l.length*sz)).length=l.length*sz:=by simp;omega
 have hg:∀(j:Nat) (u:Value),(cur.toList.take (l.length*sz))[j]?=some u->j<l.length*sz/\cur[j]?=some u:=fun j u hu=>by simpa[List.getElem?_take]using hu
 refine⟨⟨blk,0,none⟩,cap0,cur.toList.take (l.length*sz),rfl,hl,fun j u hu=>?_,fun u hu=>?_,fun j x u hx hu=>s4 j x u hx (hg j u hu).2⟩
 ·rw[Addr.add_mid,Nat.zero_add,cell_of_row w blk j cur e2 (0,0) s1]
  exact(hg j u hu).2
 ·obtain⟨j,hj⟩:=List.getElem?_of_mem hu
  have h2:=hg j u hj
  have:j<(flat l).length:=by omega
  exact(s4 j _ u (List.getElem?_eq_getElem this) h2.2).one
theorem Yu [Known][Dfr](hT:chk P T=true){x y:Operand}{st e m k2:Nat}{l':List E}{ti te:Ti}{bx2:List (List D)}(ht:tl T st=some ti)(hk:ti.kd=.slice e)(hte:tl T e=some te)(hx:emp (ev tm x)=true)(hy:Src bx te.size (ev tm y) l')
  (hpos:Nat.blt 0 te.size=true) (hU':Uni te.size l') (hne:l' ≠ []) (hk2:l'.length=k2) (hlen:l'.length<=maxLen) (hby:l'.length*te.bytes<=140737488355328)
  (hm:bx.length=m) (hbx:nfb (bx++[[.row 0 (flat l')]])=some bx2) (htd:Nat.blt t n=true)
  (k:AL P ops rest ⟨n,(t,.bsl m 0 k2 0)::tm,bx2,fr,ee⟩ Q):AL P ops (⟨some t,.call { callee:=.builtin .append,args := #[x,y],argTypes := #[st,st] },ty,pos,after,none⟩::rest) ⟨n,tm,bx,fr,ee⟩ Q:=
 QP (fun b0 g a w hi=>by
  have h1:V w g fr (ev tm x) (a.eval x):=hi.ev x
  have h2:V w g fr (ev tm y) (a.eval y):=hi.ev y
  obtain⟨A0,hxv⟩:=UF h1 hx
  obtain⟨ad,c,news,hyv,n1,n2,n3,n4⟩:=hy hi.mem h2 hU' hne
  have hpos':0<l'.length:=List.length_pos_iff.2 hne
  have hpos:0<te.size:=by simpa[Nat.blt_eq]using hpos
  have hu:=(Zn hT ht).slice hk
  obtain⟨ie,ue,z,i1,i2,i3,i4,i5,i6,i7⟩:=(Zn hT hte).out
  have hr:=Yz (P:=P) A0 w st ty e ie z hu i1 i3 ad l'.length c news (by rw[<- i5];exact n1) n2 hpos' (by simp only[maxLen]at hlen;omega) (by rw[<- i6];omega)
  have hge:=grownCap_ge w l'.length 0 e
  have hcm:=grownCap_le_maxLen w l'.length 0 e hlen
  obtain⟨C2,hC2⟩:∃ C2,C2=grownCap w l'.length 0 e:=⟨_,rfl⟩
  rw[<- hC2]at hr hge hcm
  have hcurr:news.toArray++Builtin.zeroCells z.cells (C2-l'.length)=(news++(Builtin.zeroCells z.cells (C2-l'.length)).toList).toArray:=by simp
  rw[hcurr]at hr
  have hz:=(YE (w:=w) (g:=g) (fr:=fr) i7).1
  have hzc:z.cells.size=ie.size:=by
   rw[<- Array.length_toList,hz,<- i5]
   exact(WF hT hte).symm
  have hfl:=hU'.flat
  have hd:Mem g bx fr w.drew:=hi.mem.drew
  have hzl:(Builtin.zeroCells z.cells (C2-l'.length)).toList.length=(C2-l'.length)*te.size:=by rw[Array.length_toList,size_zeroCells,hzc,<- i5]
  have hmul:C2*te.size=l'.length*te.size+(C2-l'.length)*te.size:=by rw[<- Nat.add_mul];congr 1;omega
  obtain⟨k1,k2⟩:=hd.box0 (news++(Builtin.zeroCells z.cells (C2-l'.length)).toList) [.row 0 (flat l')] e (by
    rw[List.length_append,hzl,n1,<- hmul]
    exact Vs (by have:1<=l'.length*te.size:=Nat.mul_pos hpos' hpos;omega) (by rw[hfl];omega) (.inl rfl)) (fun j d u hd hu=>by
   rw[Uv]at hd
   obtain⟨x2,hx2,rfl⟩:=UN hd
   have hj:=(List.getElem?_eq_some_iff.1 hx2).1
   rw[List.getElem?_append_left (by omega)]at hu
   exact V.ofC (n4 j x2 u hx2 hu).drew)
  have e1:=Yp hbx
  subst hm hk2
  rw[e1]at k2
  have hevo:=Evo.drew.trans k1
  refine⟨.slice (some ⟨w.heap.size,0,none⟩) l'.length C2,_,tm,bx2,fr,_,.bsl bx.length 0 l'.length 0,by simp only[execOp,resolve,invoke,builtin,Sem.run_bind,Sem.run_pure,Result.andThen_ok,List.map_toArray,List.map_cons,List.map_nil,hxv,hyv,hr],⟨hi.size,hi.defers,k2,fun t=>(hi.tm t).evo hevo,hi.evo.trans hevo,hi.bd⟩,.bsl _ 0 _ 0 w.heap.size C2 ?_ hge hcm (.inl rfl),k⟩
  have:=hi.mem.bl
  dsimp only at this
  show(g.ρ++[w.drew.heap.size])[bx.length]?=_
  rw[List.getElem?_append_right (by omega),this,Nat.sub_self]
  rfl) htd
def Yl (l:List E)(o:Nat)(es:List E):List E:=l.take o++(es++l.drop (o+es.length))
theorem Y4 [Known][Dfr](hT:chk P T=true){x y:Operand}{lt b o z:Nat}{l es l2:List E}{d:D}{ti:Ti}(hx:ev tm x=.ptr b o)(hy:nf (ev tm y)=some d)(hes:D.toEs d.cellsOf=some es)(ht:tl T lt=some ti)(hs:Nat.beq es.length ti.size=true)(hb:bx[b]?=some [.row z l])
  (hle:o+es.length<=l.length) (hl2:Yl l o es=l2) (hb':nfb (bx.set b [.row z l2])=some bx')
  (k:AL P ops rest ⟨n,tm,bx',fr,ee⟩ Q):AL P ops (⟨none,.store lt x y,ty,pos,after,none⟩::rest) ⟨n,tm,bx,fr,ee⟩ Q:=
 UB (fun g a w hi=>by
  have h1:V w g fr (ev tm x) (a.eval x):=hi.ev x
  rw[hx]at h1
  obtain⟨blk,h2,h3⟩:=Wg h1
  have hv:V w g fr (ev tm y) (a.eval y):=hi.ev y
  rw[ZP hy]at hv
  have hlen:=(Wh hes).1
  have ho:D.ones d.cellsOf=true:=by
   have:∀ {ds:List D} {es:List E},D.toEs ds=some es->D.ones ds=true:=by
    intro ds
    induction ds with
    | nil=>intros;rfl
    | cons d0 ds ih=>
     intro es h
     cases hd0:d0.toE1 with
     | none=>simp[D.toEs,hd0]at h
     | some e0=>
      cases hds:D.toEs ds with
      | none=>simp[D.toEs,hd0,hds]at h
      | some es0=>
       have:d0.one=true:=by cases d0<;>first|rfl|(simp[D.toE1]at hd0)
       simp only[D.ones,this]
       exact ih hds
   exact this hes
  obtain⟨vs,q2,q3,q4⟩:=hv.cells ho
  have hm:=hi.mem
  obtain⟨us,ut,r1,r2,r0,r3⟩:=hm.rowc h2 hb
  have hs':=Nat.eq_of_beq_eq_true hs
  have hvs1:∀ v ∈ vs,v.oneCell'=true:=fun v hv=>by
   obtain⟨j,hj⟩:=List.getElem?_of_mem hv
   have hlt:j<d.cellsOf.length:=by rw[<- q3];exact(List.getElem?_eq_some_iff.1 hj).1
   exact(q4 j _ v (List.getElem?_eq_getElem hlt) hj).one (YQ ho (List.getElem?_eq_getElem hlt))
  have hrun:=run_storeCells_at (P:=P) blk o ut vs 0 us w r1 (by omega) hvs1
  have hag:=(Zn hT ht)
  obtain⟨w',hw'⟩:∃ w',w'=w.setRow blk (us.toList.take (o+0)++vs++us.toList.drop (o+0+vs.length)).toArray:=⟨_,rfl⟩
  have hheap:w'.heap[blk]?=some (.cells (us.toList.take (o+0)++vs++us.toList.drop (o+0+vs.length)).toArray ut (0,0)):=by
   rw[hw'];exact setRow_heap w blk us _ ut _ r1
  have hfar:∀ k,k ≠ blk->w'.heap[k]?=w.heap[k]? := fun k hk=>by
   rw[hw'];simp only[World.setRow,Array.getElem?_modify];rw[if_neg (fun e=>hk e.symm)]
  have hsize:w'.heap.size=w.heap.size:=by rw[hw'];simp[World.setRow]
  have hcell:∀ k p,g.C k p->w'.cell? ⟨k,p,none⟩=w.cell? ⟨k,p,none⟩:=fun k p hC=>World.cell?_of_block (w:=w) (hfar k fun e=>by
   subst e;exact hm.bC k p (List.mem_of_getElem? h2) hC)
  have hevo:Evo ⟨g,fr,w⟩ ⟨g,fr,w'⟩:=⟨by rw[hw'];rfl,by rw[hw'];rfl,by rw[hw'];rfl,by rw[hsize];exact Nat.le_refl _,fun k hk hn=>hfar k fun e=>hn (.inl (e ▸ List.mem_of_getElem? h2)),fun _ _ h=>h,hcell,fun _ _ h=>.inl h,fun _ _ h=>h,fun _ h=>.inl h,fun _ c h=>.inl ⟨c,h⟩,Ye.refl _ _⟩
  refine⟨w',g,?_,hevo,?_⟩
  ·rw[<- hw']at hrun
   have hsz:(sizeOf lt).run P w=.ok vs.length w:=ZA (by rw[hag.tSize,q3,hlen,hs']) w
   simp[execOp,h3,Instr.storeAt,Instr.sureAddr,storeVar,Sem.run_bind,q2,hsz,hrun]
  ·rw[<- Yp hb']
   have hl2l:l2.length=l.length:=by rw[<- hl2];simp[Yl];omega
   constructor
   ·simp[hm.bl]
   ·intro i k cs' e1 e2
    by_cases hib:i=b
    ·subst hib
     rw[h2]at e1
     injection e1 with e1
     subst e1
     have hlt:i<bx.length:=(List.getElem?_eq_some_iff.1 hb).1
     rw[List.getElem?_set_self hlt]at e2
     injection e2 with e2
     subst e2
     obtain⟨us2,ut2,p1,p2,_⟩:=hm.bat i blk _ h2 hb
     rw[r1]at p1
     injection p1 with p1
     injection p1 with p1 p4
     subst p1 p4
     have hz1:1<=us.size:=p2.1
     have hsz2:(us.toList.take (o+0)++vs++us.toList.drop (o+0+vs.length)).toArray.size=us.size:=by simp;omega
     refine⟨_,ut,hheap,by rw[hsz2];exact Vs (by omega) (by omega) r2,fun j c u hc hu=>?_⟩
     rw[Uv]at hc
     obtain⟨x2,hx2,rfl⟩:=UN hc
     ·have hu:(us.toList.take o++vs++us.toList.drop (o+vs.length))[j]?=some u:=by simpa using hu
      rw[<- hl2,Yl]at hx2
      rw[List.append_assoc]at hu
      have hvl:vs.length=es.length:=by rw[q3,hlen]
      rcases Nat.lt_or_ge j o with hjo|hjo
      ·rw[List.getElem?_append_left (by simp;omega),List.getElem?_take,if_pos hjo]at hx2 hu
       exact V.ofC ((r3 j x2 u hx2 (by simpa using hu)).mono hevo.C hevo.cell)
      ·rw[List.getElem?_append_right (by simp;omega)]at hx2 hu
       simp only[List.length_take,Nat.min_eq_left (show o<=l.length by omega)]at hx2
       simp only[List.length_take,Nat.min_eq_left (show o<=us.toList.length by simp;omega)]at hu
       rcases Nat.lt_or_ge (j-o) vs.length with hj2|hj2
       ·rw[List.getElem?_append_left (by omega)]at hx2
        rw[List.getElem?_append_left hj2]at hu
        obtain⟨d0,hd0,hd1⟩:=(Wh hes).2 _ x2 hx2
        exact V.ofC (((q4 (j-o) d0 u hd0 hu).toE1 hd1).mono hevo.C hevo.cell)
       ·rw[List.getElem?_append_right (by omega),List.getElem?_drop]at hx2
        rw[List.getElem?_append_right hj2,List.getElem?_drop]at hu
        rw[hvl]at hu
        exact V.ofC ((r3 _ x2 u hx2 (by simpa using hu)).mono hevo.C hevo.cell)
    ·rw[List.getElem?_set_ne (Ne.symm hib)]at e2
     obtain⟨us',ut',t1,t2,t3⟩:=hm.bat i k cs' e1 e2
     have hne:k ≠ blk:=fun e=>by
      subst e
      exact hib (hm.bN i b k e1 h2)
     exact⟨us',ut',(hfar k hne).trans t1,t2,fun j c u hc hu=>(t3 j c u hc hu).evo hevo⟩
   ·exact hm.bC
   ·exact hm.bN
   ·exact hm.tl
   ·intro i k c f e1 e2
    have hTk:=hm.tat i k c f e1 e2
    obtain⟨cur,s1,s2⟩:=hTk.row
    have hne:k ≠ blk:=fun e=>by
     subst e
     exact hm.tρ k c (List.mem_of_getElem? e1) (List.mem_of_getElem? h2)
    exact⟨⟨cur,(hfar k hne).trans s1,s2⟩,hTk.le,hTk.max,hTk.pos,hTk.far⟩
   ·exact hm.tN
   ·exact hm.tρ
   ·intro k p hC
    rw[hsize];exact hm.Clt k p hC
   ·exact hm.gl.evo hevo) k
end
end Go.Av
end
section
open Go.RowKit Go.Pl
namespace Go.Av
mutual
def JZ (l:List E):D->D
 | .bsl _ _ _ _=>.sl .ext l
 | .sl _ l'=>.sl .ext l'
 | .agg ds=>.agg (QQ l ds)
 | .bool b=>.bool b
 | .int k n=>.int k n
 | .str s=>.str s
 | .nilp=>.nilp
 | .eptr cs o=>.eptr cs o
 | .gptr k o=>.gptr k o
 | .nilf=>.nilf
 | .nili=>.nili
 | _=>.junk
def QQ (l:List E):List D->List D
 | []=>[]
 | d::ds=>JZ l d::QQ l ds
end
mutual
def LOk (b n:Nat):D->Prop
 | .bsl b' o n' _=>b'=b/\o=0/\n'=n
 | .agg ds=>J0 b n ds
 | _=>True
def J0 (b n:Nat):List D->Prop
 | []=>True
 | d::ds=>LOk b n d/\J0 b n ds
end
def G.lent (g:G):G:=⟨fun k o=>g.C k o\/k ∈ g.ρ,[],[]⟩
section
variable {P:Program} {Q:X->St->Prop} {n:Nat} {ee:Nat × Nat} {tm:List (Nat × D)} {bx bx':List (List D)} {fr fr':List Fr} {b0:Bs} {g g':G} {w w':World} {a:Act} {T:Tab}
variable {ops:Array Oper} {rest:List Oper} {t ty:Nat} {pos:String} {after:Array Edge}
mutual
def plD:D->D
 | .bool b=>.bool b
 | .int k n=>.int k n
 | .str s=>.str s
 | .nilp=>.nilp
 | .sl _ l=>match l with
  | []=>.sl .ext []
  | _::_=>.junk
 | .agg ds=>.agg (JD ds)
 | .tup ds=>.tup (JD ds)
 | .nilf=>.nilf
 | .nili=>.nili
 | _=>.junk
def JD:List D->List D
 | []=>[]
 | d::ds=>plD d::JD ds
end
end
section
variable {P:Program} {Q:X->St->Prop} {n:Nat} {ee:Nat × Nat} {tm:List (Nat × D)} {bx:List (List D)} {fr:List Fr} {ops:Array Oper} {rest:List Oper} {ty:Nat} {pos:String} {after:Array Edge} {f:FuncId} {ars:Array Operand} {ats:Array TypeId}
end
end Go.Av
end
section
open Go.RowKit Go.Pl
namespace Go.Av
section
variable {P:Program} {Q:X->St->Prop} {n:Nat} {ee:Nat × Nat} {tm tm':List (Nat × D)} {bx bx':List (List D)} {fr fr':List Fr} {b0:Bs} {g:G} {w:World} {a:Act} {T:Tab}
variable {ops:Array Oper} {rest:List Oper} {t ty:Nat} {pos:String} {after:Array Edge}
end
end Go.Av
end
section
open Go.RowKit Go.Pl
namespace Go.Av
inductive Zy where
 | pu (d:D)
 | al (cs:List D)
def z0 (p:Nat × Zy):Nat × D:=(p.1,match p.2 with | .pu d=>d | .al _=>.junk)
def JE:Nat->List (Nat × Zy)->List (Nat × D)->List (Nat × D)
 | _,[],tm=>tm
 | m,(_,.pu _)::zs,tm=>JE m zs tm
 | m,(t,.al _)::zs,tm=>JE (m+1) zs ((t,.ptr m 0)::tm)
def zcs:List (Nat × Zy)->List (List D)
 | []=>[]
 | (_,.pu _)::zs=>zcs zs
 | (_,.al cs)::zs=>cs::zcs zs
section
variable {P:Program} {T:Tab} {Q:X->St->Prop} {n:Nat} {ee:Nat × Nat} {tm tm':List (Nat × D)} {bx:List (List D)} {fr:List Fr} {b0:Bs} {g g':G} {w w':World} {a:Act}
inductive AZ [Known][Dfr](P:Program) (T:Tab) (l:List Oper) (n:Nat) (bx:List (List D)) (fr:List Fr):List Oper->List (Nat × D)->List (Nat × Zy)->List (Nat × D)->Prop
 | nil (tm:List (Nat × D)):AZ P T l n bx fr [] tm [] tm
 | pu (o:Oper) (rest:List Oper) (t:Nat) (d:D) (tm:List (Nat × D)) (zs:List (Nat × Zy)) (tm':List (Nat × D)) (hd:o.dst=some t) (ht:Nat.blt t n=true) (h:AL P l.toArray [o] ⟨n,ZI l o tm,bx,fr,(bx.length,fr.length)⟩ (qY o bx fr (.pu d))) (k:AZ P T l n bx fr rest ((t,d)::tm) zs tm'):AZ P T l n bx fr (o::rest) tm ((t,.pu d)::zs) tm'
 | al (t:Nat) (e:TypeId) (ty:Nat) (pos:String) (after:Array Edge) (rest:List Oper) (ti:Ti) (tm:List (Nat × D)) (zs:List (Nat × Zy)) (tm':List (Nat × D)) (ht:Nat.blt t n=true) (hti:tl T e=some ti) (k:AZ P T l n bx fr rest ((t,.junk)::tm) zs tm'):AZ P T l n bx fr (⟨some t,.alloc e,ty,pos,after,none⟩::rest) tm ((t,.al (ti.zero.map ZK.d))::zs) tm'
theorem Evo.al [Known](hm:Mem g bx fr w)(o:Obj):Evo ⟨g,fr,w⟩ ⟨g,fr,w.alloc o⟩:=
 ⟨rfl,rfl,rfl,by simp,fun k hk _=>Below.heap_alloc w _ k hk,fun _ _ h=>h,fun k p h=>Z8 w _ (hm.Clt k p h) p,fun _ _ h=>.inl h,fun _ _ h=>h,fun _ h=>.inl h,fun k c h=>.inl ⟨c,h⟩,Ye.refl _ _⟩
theorem Mem.al [Known](hm:Mem g bx fr w)(o:Obj):Mem g bx fr (w.alloc o) where
 bl:=hm.bl
 bat i k cs' h1 h2:=by
  obtain⟨us,ty,k1,k2,k3⟩:=hm.bat i k cs' h1 h2
  exact⟨us,ty,(Below.heap_alloc w _ k (Array.getElem?_eq_some_iff.1 k1).1).trans k1,k2,fun j d v hd hv=>(k3 j d v hd hv).evo (Evo.al hm o)⟩
 bC:=hm.bC
 bN:=hm.bN
 tl:=hm.tl
 tat i k c f h1 h2:=by
  have hT:=hm.tat i k c f h1 h2
  obtain⟨cur,r1,r2⟩:=hT.row
  exact⟨⟨cur,(Below.heap_alloc w _ k (Array.getElem?_eq_some_iff.1 r1).1).trans r1,r2⟩,hT.le,hT.max,hT.pos,hT.far⟩
 tN:=hm.tN
 tρ:=hm.tρ
 Clt k p hC:=by
  have:=hm.Clt k p hC
  simp;omega
 gl:=hm.gl.evo (Evo.al hm o)
structure AZk [Known][Dfr](P:Program) (l acts:List Oper) (n:Nat) (zs:List (Nat × Zy)) (tm:List (Nat × D)) (bx:List (List D)) (fr:List Fr) (ee:Nat × Nat) (Q:X->St->Prop):Prop where
 run:AL P l.toArray acts ⟨n,JE bx.length zs tm,bx++zcs zs,fr,ee⟩ Q
end
end Go.Av
end
section
open Go.RowKit Go.Pl
namespace Go.Av
mutual
def stD (b:Nat)(l:List E):D->D
 | .bsl b' o n c=>match Nat.blt b' b with
  | true=>.bsl b' o n c
  | false=>match Nat.beq b' b with
   | true=>.sl .ext l
   | false=>.junk
 | .ptr b' o=>match Nat.blt b' b with
  | true=>.ptr b' o
  | false=>.junk
 | .sl t l'=>.sl t l'
 | .agg ds=>.agg (Je b l ds)
 | .tup ds=>.tup (Je b l ds)
 | .fn f ds=>.fn f (Je b l ds)
 | .iface t d=>.iface t (stD b l d)
 | .bool b=>.bool b
 | .int k n=>.int k n
 | .str s=>.str s
 | .nilp=>.nilp
 | .eptr cs o=>.eptr cs o
 | .gptr k o=>.gptr k o
 | .nilf=>.nilf
 | .nili=>.nili
 | .junk=>.junk
 | .row z l=>.row z l
def Je (b:Nat)(l:List E):List D->List D
 | []=>[]
 | d::ds=>stD b l d::Je b l ds
end
mutual
def SOk (b n:Nat):D->Prop
 | .bsl b' o n' _=>Nat.blt b' b=true\/Nat.blt b b'=true\/(b'=b/\o=0/\n'=n)
 | .agg ds=>Jf b n ds
 | .tup ds=>Jf b n ds
 | .fn _ ds=>Jf b n ds
 | .iface _ d=>SOk b n d
 | _=>True
def Jf (b n:Nat):List D->Prop
 | []=>True
 | d::ds=>SOk b n d/\Jf b n ds
end
section
variable {P:Program} {Q:X->St->Prop} {n:Nat} {ee:Nat × Nat} {tm:List (Nat × D)} {bx bx':List (List D)} {fr fr':List Fr} {b0:Bs} {g g':G} {w w':World} {a:Act} {T:Tab}
variable {ops:Array Oper} {rest:List Oper} {t ty:Nat} {pos:String} {after:Array Edge}
theorem YT [Known][Dfr](hT:chk P T=true){st e:Nat}{ti te:Ti}{parts:Array (Nat × Operand)}(ht:tl T st=some ti)(hk:ti.kd=.slice e)(hte:tl T e=some te)(hp:parts = #[])(hpos:Nat.blt 0 te.size=true)(htd:Nat.blt t n=true)
  (k:AL P ops rest ⟨n,(t,.sl .zero [])::tm,bx,fr,ee⟩ Q):AL P ops (⟨some t,.buildSlice st 0 parts,ty,pos,after,none⟩::rest) ⟨n,tm,bx,fr,ee⟩ Q:=
 QP (fun b0 g a w hi=>by
  obtain⟨cs,c1,c2,c3,c4,c5⟩:=Um (t:=t) (ty:=ty) (pos:=pos) (after:=after) hT ht hk hte (parts:=parts) (xs:=[]) (ds:=[]) (es:=[]) (len:=0) (by rw[hp];rfl) rfl rfl rfl rfl hpos (by rw[Nat.zero_mul];rfl) hi
  have hev:Evo ⟨g,fr,w⟩ ⟨g,fr,w.alloc (.cells cs.toArray e)⟩:=Evo.al hi.mem _
  have hi2:Inv b0 ⟨n,tm,bx,fr,ee⟩ g a (w.alloc (.cells cs.toArray e)):=⟨hi.size,hi.defers,Mem.al hi.mem _,fun t=>(hi.tm t).evo hev,hi.evo.trans hev,hi.bd⟩
  exact⟨.slice (some ⟨w.heap.size,0,none⟩) 0 0,_,tm,bx,fr,g,.sl .zero [],c5,hi2,.sl _ _ _ (.slE _ _ (Nat.zero_le _)) ⟨_,rfl⟩,k⟩) htd
end
end Go.Av
end
