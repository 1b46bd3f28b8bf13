/- Package frame: bytes fed that are a row of one's own. -/
import Derived.Test.YtkdpfkjlheajhaaF11
import Derived.Test.YtkdpfkjlheajhaaF12
import Derived.Test.YtkdpfkjlheajhaaF09
import Derived.Laws.BitsAllLaws
import Derived.Test.YtkdpfkjlheajhaaF06
set_option linter.unusedVariables false
set_option linter.unusedSimpArgs false
section
open Go.RowKit Go.Pl Go.Av
namespace Go.Proofs.Ytkdpfkjlheajhaa
set_option maxHeartbeats 4000000
theorem V9 [Known](l b:List UInt8)(z c0:Nat)(hne:b ≠ [])(hl:l.length+b.length<=1099511627776):AQ Try.prog 19 [.ptr 0 0,.bsl 1 0 (b.map E.byte).length c0] [[.bool true,byE l,.int .i64 0],[.row z (flat (b.map E.byte))]] (.tup [ZN (Zh (l++b)).1,.int .i64 (Zh (l++b)).2.2]) [[.bool true,byE (Zh (l++b)).2.1,.int .i64 (Zh (l++b)).2.2],[.row z (flat (b.map E.byte))]]:=by
 refine AQ.weak (ZG Try.func19 Z Try.ntmps19 Z Z ?_)
 have d1:((0:Int) != 0)=false:=rfl
 have hfl:[l,b].flatten=l++b:=by simp
 repeat'(first|(apply Zf Za;exact Z))
 refine Yo 0 (fun k tm bx fr=>∃(out:List (List UInt8)) (cur:List UInt8) (tk:Tok),k=cur.length/\Zh (l++b)=(out++(Zh cur).1,(Zh cur).2)/\out.length+cur.length<=l.length+b.length/\tm=[(0,.ptr 0 0),(7,.sl tk (out.map E.bys))]/\bx=[[.bool true,byE cur,.int .i64 0],[.row z (flat (b.map E.byte))]]/\((tk=.nil/\out=[]/\fr=[])\/(∃ c,tk=.own 1/\out ≠ []/\c=(out.map E.bys).length/\fr=[⟨1,1,29⟩,⟨c,1,29⟩]))) (l.length+b.length+1) rfl ?pass (fun H=>?_)
 case pass=>
  rintro k tm bx fr ⟨out,cur,tk,rfl,hT,hle,rfl,rfl,hc⟩
  have hU:=ZD cur
  have hO:=Z5 out
  by_cases h2:cur.length<2
  ·have g2:decide ((((cur.map E.byte).length:Nat):Int)<2)=true:=decide_eq_true (by rw[List.length_map];omega)
   repeat'(first|(apply Zj Za;exact Z)|(apply Zf Za;exact Z)|(apply Zv Za;exact Z)|refine ZH ?_|(apply Zd;exact Z;(first|with_reducible assumption|(solve|simp only[bn])))|refine Zk Za Z Z Z Z ?_)
   (apply Yh [0,1];(apply Zg Za;exact Z);(iterate 4 exact Z))
   ·rw[hT,ZZ h2];simp
   ·rw[hT,ZZ h2];rfl
  have g2:decide ((((cur.map E.byte).length:Nat):Int)<2)=false:=decide_eq_false (by rw[List.length_map];omega)
  obtain⟨x,y,r,hcur⟩:∃ x y r,cur=x::y::r:=by
   match cur,h2 with
   | x::y::r,_=>exact⟨x,y,r,rfl⟩
   | [_],h=>simp at h
   | [],h=>simp at h
  have hx0:(cur.map E.byte)[(0:Int).toNat]?=some (E.byte x):=by rw[hcur];rfl
  have hy0:(cur.map E.byte)[(1:Int).toNat]?=some (E.byte y):=by rw[hcur];rfl
  have hn:Zl cur=256*x.toNat+y.toNat:=by rw[hcur];rfl
  have e0:=be2 x y
  rw[<- hn]at e0
  by_cases h0:Zl cur=0
  ·have g0:(((Zl cur:Nat):Int)==0)=true:=by rw[h0];rfl
   repeat'(first|rw[e0]|(apply Zb [0] (Wo true cur 0 3);kernel_rfl;(iterate 7 exact Z))|(apply Zj Za;exact Z)|(apply Zf Za;exact Z)|(apply Zv Za;exact Z)|refine ZV ?_|refine ZH ?_|(apply Zd;exact Z;(first|with_reducible assumption|(solve|simp only[bn])))|(apply Ze;exact Z;(first|with_reducible assumption|(solve|simp only[bn])))|refine Zk Za Z Z Z Z ?_|(apply Zq 6 Yj;decide +kernel;kernel_rfl;kernel_rfl;exact Z;exact Z)|(apply Zq 15 Yj;decide +kernel;kernel_rfl;kernel_rfl;exact Z;exact Z)|(apply ZC;(iterate 3 exact Z))|refine AD.nil _|exact Z6 rfl|(apply Zp Za;(iterate 6 exact Z);(first|exact Qb|rotate_left);(first|with_reducible assumption|exact Z);(first|exact Zc rfl|with_reducible assumption|rotate_left))|(apply Yw;exact Z;exact Z;(first|exact Qb|rotate_left);exact Z))
   (apply Yh [0,1];(apply Zg Za;exact Z);(iterate 4 exact Z))
   ·rw[hT,ZX h2 h0];simp
   ·rw[hT,ZX h2 h0];rfl
  have g0:(((Zl cur:Nat):Int)==0)=false:=by simp;omega
  by_cases h1:Zl cur>1000
  ·have g1:decide (((Zl cur:Nat):Int)>1000)=true:=decide_eq_true (by omega)
   repeat'(first|rw[e0]|(apply Zb [0] (Wo true cur 0 2);kernel_rfl;(iterate 7 exact Z))|(apply Zj Za;exact Z)|(apply Zf Za;exact Z)|(apply Zv Za;exact Z)|refine ZV ?_|refine ZH ?_|(apply Zd;exact Z;(first|with_reducible assumption|(solve|simp only[bn])))|(apply Ze;exact Z;(first|with_reducible assumption|(solve|simp only[bn])))|refine Zk Za Z Z Z Z ?_|(apply Zq 6 Yj;decide +kernel;kernel_rfl;kernel_rfl;exact Z;exact Z)|(apply Zq 15 Yj;decide +kernel;kernel_rfl;kernel_rfl;exact Z;exact Z)|(apply ZC;(iterate 3 exact Z))|refine AD.nil _|exact Z6 rfl|(apply Zp Za;(iterate 6 exact Z);(first|exact Qb|rotate_left);(first|with_reducible assumption|exact Z);(first|exact Zc rfl|with_reducible assumption|rotate_left))|(apply Yw;exact Z;exact Z;(first|exact Qb|rotate_left);exact Z))
   (apply Yh [0,1];(apply Zg Za;exact Z);(iterate 4 exact Z))
   ·rw[hT,Yb h2 h1];simp
   ·rw[hT,Yb h2 h1];rfl
  have g1:decide (((Zl cur:Nat):Int)>1000)=false:=decide_eq_false (by omega)
  have e1:IntKind.i64.wrap ((((cur.map E.byte).length:Nat):Int)-2)=((cur.length-2:Nat):Int):=by
   rw[List.length_map,IntWalk.i64_in _ (by omega)];omega
  by_cases h3:cur.length<Zl cur+2
  ·have g3:decide (((cur.length-2:Nat):Int) ≥ ((Zl cur:Nat):Int))=false:=decide_eq_false (by omega)
   repeat'(first|rw[e0]|rw[e1]|(apply Zj Za;exact Z)|(apply Zf Za;exact Z)|(apply Zv Za;exact Z)|refine ZV ?_|refine ZH ?_|(apply Ze;exact Z;(first|with_reducible assumption|(solve|simp only[bn])))|refine Zk Za Z Z Z Z ?_|(apply Zq 6 Yj;decide +kernel;kernel_rfl;kernel_rfl;exact Z;exact Z)|(apply Zq 15 Yj;decide +kernel;kernel_rfl;kernel_rfl;exact Z;exact Z)|(apply ZC;(iterate 3 exact Z))|refine AD.nil _|exact Z6 rfl|(apply Zp Za;(iterate 6 exact Z);(first|exact Qb|rotate_left);(first|with_reducible assumption|exact Z);(first|exact Zc rfl|with_reducible assumption|rotate_left))|(apply Yw;exact Z;exact Z;(first|exact Qb|rotate_left);exact Z))
   (apply Yh [0,1];(apply Zg Za;exact Z);(iterate 4 exact Z))
   ·rw[hT,Yc h2 h0 h1 h3];simp
   ·rw[hT,Yc h2 h0 h1 h3];rfl
  have g3:decide (((cur.length-2:Nat):Int) ≥ ((Zl cur:Nat):Int))=true:=decide_eq_true (by omega)
  have e2:IntKind.i64.wrap (2+((Zl cur:Nat):Int))=((2+Zl cur:Nat):Int):=by
   rw[IntWalk.i64_in _ (by omega)];omega
  have hT1:=YD h2 h0 h1 h3
  have hs1:((cur.map E.byte).take (2+Zl cur)).drop 2=((cur.take (2+Zl cur)).drop 2).map E.byte:=by rw[List.map_drop,List.map_take]
  have hs2:(((cur.map E.byte).take (cur.map E.byte).length).drop ((2+Zl cur:Nat):Int).toNat)=(cur.drop (2+Zl cur)).map E.byte:=by rw[List.take_length,Int.toNat_natCast,List.map_drop]
  rcases hc with⟨rfl,rfl,rfl⟩ | ⟨c,rfl,hne,hcl,rfl⟩
  ·repeat'(first|rw[e0]|rw[e1]|rw[e2]|(apply Zi (Y1 ((cur.take (2+Zl cur)).drop 2) (by simp;omega));kernel_rfl;(iterate 4 exact Z))|(apply YZ Za (p:=2) (q:=2+Zl cur) (r:=2+Zl cur);(iterate 11 exact Z);omega;exact Nat.le_refl _;(rw[List.length_map];omega);exact hU;exact hs1)|(apply ZS Za;(iterate 5 exact Z);exact .lit _ _ _ _ rfl (Int.natCast_nonneg _);exact .dft _;(rw[List.length_map];omega);exact Nat.le_refl _;exact hU;exact hs2)|(apply Zj Za;exact Z)|(apply Zf Za;exact Z)|(apply Zv Za;exact Z)|refine ZV ?_|refine YY ?_|(apply Zd;exact Z;(first|with_reducible assumption|(solve|simp only[bn])))|(apply Ze;exact Z;(first|with_reducible assumption|(solve|simp only[bn])))|refine Zk Za Z Z Z Z ?_|refine YK Za Z Z Z Z Z Z Z Z Z Z Z Z ?_|(apply Zq 15 Yj;decide +kernel;kernel_rfl;kernel_rfl;exact Z;exact Z)|(apply ZC;(iterate 3 exact Z))|refine AD.nil _|exact Z6 rfl|(apply ZR Za;(iterate 6 exact Z);(first|exact Zc rfl|with_reducible assumption|rotate_left);(first|exact Qb|rotate_left);(first|exact Qb|rotate_left);(first|exact Qb|rotate_left);(iterate 3 exact Z))|(apply Zp Za;(iterate 6 exact Z);(first|exact Qb|rotate_left);(first|with_reducible assumption|exact Z);(first|exact Zc rfl|with_reducible assumption|rotate_left))|(apply Yw;exact Z;exact Z;(first|exact Qb|rotate_left);exact Z))
   ·refine Lands.mk' (m:=(cur.drop (2+Zl cur)).length) (by simp;omega) ⟨[(cur.take (2+Zl cur)).drop 2],cur.drop (2+Zl cur),.own 1,rfl,by rw[hT,hT1];rfl,by simp at hle ⊢;omega,rfl,rfl,.inr ⟨1,rfl,by simp,rfl,rfl⟩⟩ ?_ rfl rfl rfl rfl rfl rfl
    exact .cons rfl (.cons rfl .nil)
   all_goals first|(show 1<=maxLen;decide)|(show 1*24<=_;decide)
  ·have hne':out.map E.bys ≠ []:=by simpa using hne
   repeat'(first|rw[e0]|rw[e1]|rw[e2]|(apply Zi (Y1 ((cur.take (2+Zl cur)).drop 2) (by simp;omega));kernel_rfl;(iterate 4 exact Z))|(apply YZ Za (p:=2) (q:=2+Zl cur) (r:=2+Zl cur);(iterate 11 exact Z);omega;exact Nat.le_refl _;(rw[List.length_map];omega);exact hU;exact hs1)|(apply ZS Za;(iterate 5 exact Z);exact .lit _ _ _ _ rfl (Int.natCast_nonneg _);exact .dft _;(rw[List.length_map];omega);exact Nat.le_refl _;exact hU;exact hs2)|(apply Zj Za;exact Z)|(apply Zf Za;exact Z)|(apply Zv Za;exact Z)|refine ZV ?_|refine YY ?_|(apply Zd;exact Z;(first|with_reducible assumption|(solve|simp only[bn])))|(apply Ze;exact Z;(first|with_reducible assumption|(solve|simp only[bn])))|refine Zk Za Z Z Z Z ?_|refine YK Za Z Z Z Z Z Z Z Z Z Z Z Z ?_|(apply Zq 15 Yj;decide +kernel;kernel_rfl;kernel_rfl;exact Z;exact Z)|(apply ZC;(iterate 3 exact Z))|refine AD.nil _|exact Z6 rfl|(apply ZM Za;(iterate 6 exact Z);(first|with_reducible assumption|exact Z|rotate_left);exact Z;exact Z;(first|exact Zc rfl|with_reducible assumption|rotate_left);(first|exact Zc rfl|with_reducible assumption|rotate_left);(first|exact Qb|rotate_left);(first|exact Qb|rotate_left);(first|exact Qb|rotate_left);exact Z;exact Z)|(apply Zp Za;(iterate 6 exact Z);(first|exact Qb|rotate_left);(first|with_reducible assumption|exact Z);(first|exact Zc rfl|with_reducible assumption|rotate_left))|(apply Yw;exact Z;exact Z;(first|exact Qb|rotate_left);exact Z))
   ·refine Lands.mk' (m:=(cur.drop (2+Zl cur)).length) (by simp;omega) ⟨out++[(cur.take (2+Zl cur)).drop 2],cur.drop (2+Zl cur),.own 1,rfl,by rw[hT,hT1];simp,by simp at hle ⊢;omega,rfl,rfl,.inr ⟨_,rfl,by simp,rfl,rfl⟩⟩ ?_ rfl ?_ rfl rfl rfl rfl
    ·exact .cons rfl (.cons (by rw[List.map_append];rfl) .nil)
    ·rw[List.map_append,List.length_append];rfl
   ·show(out.map E.bys).length+1<=maxLen
    rw[List.length_map];unfold maxLen;omega
   ·show((out.map E.bys).length+1)*24<=_
    rw[List.length_map];omega
 ·repeat'(first|refine H _ ?_|(apply Zb [0] (Zs l 0);kernel_rfl;(iterate 7 exact Z))|refine JF Za Z Z Z Z Z Z Z Z Z Z Z Z ?_|(apply Zb [1,2] (Uw l b z c0 hne hl);kernel_rfl;(iterate 7 exact Z))|refine Vy Z Z ?_|refine Wr Z Z ?_|refine Uc Z Z Z Z Z ?_|refine WS Za Z Z Z Z Z Z ?_|refine YF Za Z Z Z Z Z Z Z ?_|refine YP Z Z ?_|refine WT Za Z Z Z Z Z Z Z Z ?_|refine Vx ?_|refine Wq ?_|refine WE ?_|(apply Ze;exact Z;(first|with_reducible assumption|(guard_target =ₛ true=true;rfl)|(guard_target =ₛ false=false;rfl)|(guard_target =ₛ (!true)=false;rfl)|(guard_target =ₛ (!false)=true;rfl)))|refine WD ?_|refine WO ?_)
  refine Lands.mk' (m:=(l++b).length) (by simp) ⟨[],l++b,.nil,rfl,by simp,by simp,rfl,rfl,.inl ⟨rfl,rfl,rfl⟩⟩ ?_ ?_ rfl rfl rfl rfl rfl
  ·exact .cons rfl (.cons rfl .nil)
  ·rfl
theorem Ym [Known](m:Bool)(left:List UInt8)(e:Int):AQ Try.prog 21 [.ptr 0 0] (Yk m left e) (.int .i64 (left.length:Int)) (Yk m left e):=by
 refine AQ.weak (ZG Try.func21 Z Try.ntmps21 Z Z ?_)
 repeat'(first|(apply Zj Za;exact Z)|(apply Zf Za;exact Z)|(apply Ze;exact Z;(first|with_reducible assumption|(solve|simp only[bn])))|refine Zk Za Z Z Z Z ?_)
 (apply Yh [0];(apply Zg Za;exact Z);(iterate 4 exact Z))
 ·simp
 ·rfl
theorem QR [Known]:AP Try.prog 21 [.nilp] (.int .i64 0) []:=by
 refine ZG Try.func21 rfl Try.ntmps21 rfl rfl ?_
 repeat'(first|(apply Zf Za;exact Z)|(apply Zv Za;exact Z)|(apply Zd;exact Z;(first|with_reducible assumption|(solve|simp only[bn]))))
 (apply Qn (ts:=[]);(apply Zg Za;exact Z);exact Zx _;exact Z;rotate_left;exact Z)
 rfl
theorem be3 (x y:UInt8):IntKind.i64.wrap (IntKind.i64.wrap (256*IntKind.i64.wrap (x.toNat:Int))+IntKind.i64.wrap (y.toNat:Int))=((256*x.toNat+y.toNat:Nat):Int):=by
 have hx:=x.toNat_lt
 have hy:=y.toNat_lt
 rw[IntWalk.i64_in (x.toNat:Int) (by omega),IntWalk.i64_in (y.toNat:Int) (by omega),IntWalk.i64_in (256*(x.toNat:Int)) (by omega),IntWalk.i64_in _ (by omega)];omega
theorem YU [Known](b:List UInt8)(hl:b.length<=1099511627776):AP Try.prog 20 [byE b] (.tup [ZN (Zh b).1,.int .i64 (((Zh b).2.1.length:Nat):Int),.int .i64 (((Zh b).2.2:Nat):Int)]) []:=by
 refine AP.weak (ZG Try.func20 Z Try.ntmps20 Z Z ?_)
 have hU:=ZD b
 have hbl:(b.map E.byte).length=b.length:=List.length_map ..
 repeat'(first|(apply Zf Za;exact Z))
 refine ZT (fun k tm bx fr=>∃(out:List (List UInt8)) (i:Nat) (tk:Tok),k+i=b.length/\Zh b=(out++(Zh (b.drop i)).1,(Zh (b.drop i)).2)/\out.length<=i/\tm=[(0,byE b),(5,.sl tk (out.map E.bys)),(6,.int .i64 (i:Int))]/\bx=[]/\((tk=.nil/\out=[]/\fr=[])\/(∃ c,tk=.own 1/\out ≠ []/\c=(out.map E.bys).length/\fr=[⟨1,1,29⟩,⟨c,1,29⟩]))) (b.length+1) (Lands.mk' (m:=b.length) (Nat.lt_succ_self _) ⟨[],0,.nil,rfl,by simp,by simp,rfl,rfl,.inl ⟨rfl,rfl,rfl⟩⟩ ?_ rfl rfl rfl rfl rfl rfl) ?_
 ·exact .cons rfl (.cons rfl (.cons rfl .nil))
 rintro k tm bx fr ⟨out,i,tk,hk,hT,hle,rfl,rfl,hc⟩
 have hO:=Z5 out
 obtain⟨cur,hcur0⟩:∃ cur,cur=b.drop i:=⟨_,rfl⟩
 have hcl:cur.length=b.length-i:=by rw[hcur0,List.length_drop]
 rw[<- hcur0]at hT
 have e1:IntKind.i64.wrap (((b.map E.byte).length:Int)-(i:Int))=((cur.length:Nat):Int):=by
  rw[hbl,IntWalk.i64_in _ (by omega)];omega
 by_cases h2:cur.length<2
 ·have g2:decide (((cur.length:Nat):Int) ≥ 2)=false:=decide_eq_false (by omega)
  repeat'(first|rw[e1]|(apply Zj Za;exact Z)|(apply Zf Za;exact Z)|(apply Zv Za;exact Z)|refine ZV ?_|(apply Ze;exact Z;(first|with_reducible assumption|(solve|simp only[bn])))|refine Zk Za Z Z Z Z ?_)
  all_goals(apply WZ;(apply Zg Za;exact Z);exact Z)
  all_goals(rw[hT,ZZ h2];simp)
 have g2:decide (((cur.length:Nat):Int) ≥ 2)=true:=decide_eq_true (by omega)
 obtain⟨x,y,r,hcur⟩:∃ x y r,cur=x::y::r:=by
  match cur,h2 with
  | x::y::r,_=>exact⟨x,y,r,rfl⟩
  | [_],h=>simp at h
  | [],h=>simp at h
 have hbi:b.drop i=x::y::r:=by rw[<- hcur0,hcur]
 have hx0:(b.map E.byte)[((i:Nat):Int).toNat]?=some (E.byte x):=by
  rw[Int.toNat_natCast,List.getElem?_map,show b[i]?=(b.drop i)[0]? by rw[List.getElem?_drop];rfl,hbi];rfl
 have hy0:(b.map E.byte)[((i+1:Nat):Int).toNat]?=some (E.byte y):=by
  rw[Int.toNat_natCast,List.getElem?_map,show b[i+1]?=(b.drop i)[1]? by rw[List.getElem?_drop],hbi];rfl
 have ei:IntKind.i64.wrap ((i:Int)+1)=((i+1:Nat):Int):=by rw[IntWalk.i64_in _ (by omega)];omega
 have hn:Zl cur=256*x.toNat+y.toNat:=by rw[hcur];rfl
 have e0:=be3 x y
 rw[<- hn]at e0
 by_cases h0:Zl cur=0
 ·have g0:(((Zl cur:Nat):Int)==0)=true:=by rw[h0];rfl
  repeat'(first|rw[e1]|rw[ei]|rw[e0]|(apply Zj Za;exact Z)|(apply Zf Za;exact Z)|(apply Zv Za;exact Z)|refine ZV ?_|(apply Zd;exact Z;(first|with_reducible assumption|(solve|simp only[bn])))|refine Zk Za Z Z Z Z ?_|(apply Zq 12 Yj;decide +kernel;kernel_rfl;kernel_rfl;exact Z;exact Z)|(apply ZC;(iterate 3 exact Z))|refine AD.nil _|exact Z6 rfl|(apply Zp Za;(iterate 6 exact Z);(first|exact Qb|rotate_left);(first|with_reducible assumption|exact Z);(first|exact Zc rfl|with_reducible assumption|rotate_left)))
  all_goals(apply WZ;(apply Zg Za;exact Z);exact Z)
  all_goals(rw[hT,ZX h2 h0];simp)
 have g0:(((Zl cur:Nat):Int)==0)=false:=by simp;omega
 by_cases h1:Zl cur>1000
 ·have g1:decide (((Zl cur:Nat):Int)>1000)=true:=decide_eq_true (by omega)
  repeat'(first|rw[e1]|rw[ei]|rw[e0]|(apply Zj Za;exact Z)|(apply Zf Za;exact Z)|(apply Zv Za;exact Z)|refine ZV ?_|(apply Zd;exact Z;(first|with_reducible assumption|(solve|simp only[bn])))|(apply Ze;exact Z;(first|with_reducible assumption|(solve|simp only[bn])))|refine Zk Za Z Z Z Z ?_|(apply Zq 12 Yj;decide +kernel;kernel_rfl;kernel_rfl;exact Z;exact Z)|(apply ZC;(iterate 3 exact Z))|refine AD.nil _|exact Z6 rfl|(apply Zp Za;(iterate 6 exact Z);(first|exact Qb|rotate_left);(first|with_reducible assumption|exact Z);(first|exact Zc rfl|with_reducible assumption|rotate_left)))
  all_goals(apply WZ;(apply Zg Za;exact Z);exact Z)
  all_goals(rw[hT,Yb h2 h1];simp)
 have g1:decide (((Zl cur:Nat):Int)>1000)=false:=decide_eq_false (by omega)
 have e2:IntKind.i64.wrap (((cur.length:Nat):Int)-2)=((cur.length-2:Nat):Int):=by
  rw[IntWalk.i64_in _ (by omega)];omega
 by_cases h3:cur.length<Zl cur+2
 ·have g3:decide (((cur.length-2:Nat):Int)<((Zl cur:Nat):Int))=true:=decide_eq_true (by omega)
  repeat'(first|rw[e1]|rw[e2]|rw[ei]|rw[e0]|(apply Zj Za;exact Z)|(apply Zf Za;exact Z)|(apply Zv Za;exact Z)|refine ZV ?_|(apply Zd;exact Z;(first|with_reducible assumption|(solve|simp only[bn])))|(apply Ze;exact Z;(first|with_reducible assumption|(solve|simp only[bn])))|refine Zk Za Z Z Z Z ?_|(apply Zq 12 Yj;decide +kernel;kernel_rfl;kernel_rfl;exact Z;exact Z)|(apply ZC;(iterate 3 exact Z))|refine AD.nil _|exact Z6 rfl|(apply Zp Za;(iterate 6 exact Z);(first|exact Qb|rotate_left);(first|with_reducible assumption|exact Z);(first|exact Zc rfl|with_reducible assumption|rotate_left)))
  all_goals(apply WZ;(apply Zg Za;exact Z);exact Z)
  all_goals(rw[hT,Yc h2 h0 h1 h3];simp)
 have g3:decide (((cur.length-2:Nat):Int)<((Zl cur:Nat):Int))=false:=decide_eq_false (by omega)
 have ea:IntKind.i64.wrap ((i:Int)+2)=((i+2:Nat):Int):=by rw[IntWalk.i64_in _ (by omega)];omega
 have eb:IntKind.i64.wrap (((i+2:Nat):Int)+((Zl cur:Nat):Int))=((i+2+Zl cur:Nat):Int):=by rw[IntWalk.i64_in _ (by omega)];omega
 have hT1:=YD h2 h0 h1 h3
 have hs1:((b.map E.byte).take (((i+2+Zl cur:Nat):Int).toNat)).drop (((i+2:Nat):Int).toNat)=((cur.take (2+Zl cur)).drop 2).map E.byte:=by
  rw[Int.toNat_natCast,Int.toNat_natCast,List.map_drop,List.map_take,hcur0,List.map_drop,List.take_drop,List.drop_drop]
  congr 1
  congr 1
  omega
 have hd1:cur.drop (2+Zl cur)=b.drop (i+2+Zl cur):=by rw[hcur0,List.drop_drop,Nat.add_assoc]
 rcases hc with⟨rfl,rfl,rfl⟩ | ⟨c,rfl,hne,hcl2,rfl⟩
 ·repeat'(first|rw[e1]|rw[e2]|rw[ei]|rw[e0]|rw[ea]|rw[eb]|(apply ZS Za;(iterate 5 exact Z);exact .lit _ _ _ _ rfl (Int.natCast_nonneg _);exact .lit _ _ _ _ rfl (Int.natCast_nonneg _);omega;(rw[List.length_map];omega);exact hU;exact hs1)|(apply Zj Za;exact Z)|(apply Zf Za;exact Z)|(apply Zv Za;exact Z)|refine ZV ?_|(apply Zd;exact Z;(first|with_reducible assumption|(solve|simp only[bn])))|(apply Ze;exact Z;(first|with_reducible assumption|(solve|simp only[bn])))|refine YV ?_|refine Zk Za Z Z Z Z ?_|refine YK Za Z Z Z Z Z Z Z Z Z Z Z Z ?_|(apply Zq 12 Yj;decide +kernel;kernel_rfl;kernel_rfl;exact Z;exact Z)|(apply ZC;(iterate 3 exact Z))|refine AD.nil _|exact Z6 rfl|(apply ZR Za;(iterate 6 exact Z);(first|exact Zc rfl|with_reducible assumption|rotate_left);(first|exact Qb|rotate_left);(first|exact Qb|rotate_left);(first|exact Qb|rotate_left);(iterate 3 exact Z))|(apply Zp Za;(iterate 6 exact Z);(first|exact Qb|rotate_left);(first|with_reducible assumption|exact Z);(first|exact Zc rfl|with_reducible assumption|rotate_left)))
  ·refine Lands.mk' (m:=b.length-(i+2+Zl cur)) (by omega) ⟨[(cur.take (2+Zl cur)).drop 2],i+2+Zl cur,.own 1,by omega,by rw[hT,hT1,hd1];rfl,by simp;omega,rfl,rfl,.inr ⟨1,rfl,by simp,rfl,rfl⟩⟩ ?_ rfl rfl rfl rfl rfl rfl
   exact .cons rfl (.cons rfl (.cons rfl .nil))
  all_goals first|(show 1<=maxLen;decide)|(show 1*24<=_;decide)
 ·have hne':out.map E.bys ≠ []:=by simpa using hne
  repeat'(first|rw[e1]|rw[e2]|rw[ei]|rw[e0]|rw[ea]|rw[eb]|(apply ZS Za;(iterate 5 exact Z);exact .lit _ _ _ _ rfl (Int.natCast_nonneg _);exact .lit _ _ _ _ rfl (Int.natCast_nonneg _);omega;(rw[List.length_map];omega);exact hU;exact hs1)|(apply Zj Za;exact Z)|(apply Zf Za;exact Z)|(apply Zv Za;exact Z)|refine ZV ?_|(apply Zd;exact Z;(first|with_reducible assumption|(solve|simp only[bn])))|(apply Ze;exact Z;(first|with_reducible assumption|(solve|simp only[bn])))|refine YV ?_|refine Zk Za Z Z Z Z ?_|refine YK Za Z Z Z Z Z Z Z Z Z Z Z Z ?_|(apply Zq 12 Yj;decide +kernel;kernel_rfl;kernel_rfl;exact Z;exact Z)|(apply ZC;(iterate 3 exact Z))|refine AD.nil _|exact Z6 rfl|(apply ZM Za;(iterate 6 exact Z);(first|with_reducible assumption|exact Z|rotate_left);exact Z;exact Z;(first|exact Zc rfl|with_reducible assumption|rotate_left);(first|exact Zc rfl|with_reducible assumption|rotate_left);(first|exact Qb|rotate_left);(first|exact Qb|rotate_left);(first|exact Qb|rotate_left);exact Z;exact Z)|(apply Zp Za;(iterate 6 exact Z);(first|exact Qb|rotate_left);(first|with_reducible assumption|exact Z);(first|exact Zc rfl|with_reducible assumption|rotate_left)))
  ·refine Lands.mk' (m:=b.length-(i+2+Zl cur)) (by omega) ⟨out++[(cur.take (2+Zl cur)).drop 2],i+2+Zl cur,.own 1,by omega,by rw[hT,hT1,hd1];simp,by simp;omega,rfl,rfl,.inr ⟨_,rfl,by simp,rfl,rfl⟩⟩ ?_ rfl ?_ rfl rfl rfl rfl
   ·exact .cons rfl (.cons (by rw[List.map_append];rfl) (.cons rfl .nil))
   ·rw[List.map_append,List.length_append];rfl
  ·show(out.map E.bys).length+1<=maxLen
   rw[List.length_map];unfold maxLen;omega
  ·show((out.map E.bys).length+1)*24<=_
   rw[List.length_map];omega
theorem Ua [Known](b:List UInt8)(h1:1<=b.length)(hl:b.length<=1000):AP Try.prog 24 [byE b] (byE (VF b)) []:=by
 refine AP.weak (ZG Try.func24 Z Try.ntmps24 Z Z ?_)
 have hbl:(b.map E.byte).length=b.length:=List.length_map ..
 have hU:=ZD b
 have hne:b.map E.byte ≠ []:=by cases b<;>simp at h1 ⊢
 repeat'(first|(apply Zj Za;exact Z)|(apply Zf Za;exact Z)|refine ZV ?_|refine Zk Za Z Z Z Z ?_|refine YK Za Z Z Z Z Z Z Z Z Z Z Z Z ?_|(apply ZM Za;(iterate 6 exact Z);(first|with_reducible assumption|exact Z|rotate_left);exact Z;exact Z;(first|exact Zc rfl|with_reducible assumption|rotate_left);(first|exact Zc rfl|with_reducible assumption|rotate_left);(first|exact Qb|rotate_left);(first|exact Qb|rotate_left);(first|exact Qb|rotate_left);exact Z;exact Z)|(apply Jn;exact Z;exact Z;(first|exact Qb|rotate_left);exact Z)|(apply Jo;exact Z;exact Z;(first|exact Qb|rotate_left);exact Z))
 ·(apply WZ;(apply Zg Za;exact Z);exact Z)
  have w1:IntKind.i64.wrap (((b.length:Nat):Int).tdiv 256)=((b.length/256:Nat):Int):=by
   rw[Int.tdiv_eq_ediv_of_nonneg (Int.natCast_nonneg _),IntWalk.i64_in _ (by omega)];omega
  have w2:((b.length:Nat):Int).tmod 256=((b.length % 256:Nat):Int):=by
   rw[Int.tmod_eq_emod_of_nonneg (Int.natCast_nonneg _)];omega
  have e1:E.int .u8 (IntKind.u8.wrap (IntKind.i64.wrap ((((b.map E.byte).length:Nat):Int).tdiv 256)))=E.byte (UInt8.ofNat (b.length/256)):=by
   rw[List.length_map,w1,IntKind.wrap_u8']
   unfold E.byte
   rw[UInt8.toNat_ofNat']
   congr 1
  have e2:E.int .u8 (IntKind.u8.wrap ((((b.map E.byte).length:Nat):Int).tmod 256))=E.byte (UInt8.ofNat (b.length % 256)):=by
   rw[List.length_map,w2,IntKind.wrap_u8']
   unfold E.byte
   rw[UInt8.toNat_ofNat']
   congr 1
  have e3:=congr (congrArg (fun(x y:E)=>D.sl .ext (x::y::b.map E.byte)) e1) e2
  exact e3
 ·simp[maxLen];omega
 ·simp;omega
theorem Ux [Known](b:List UInt8):AP Try.prog 19 [.nilp,byE b] (.tup [ZN [],.int .i64 6]) []:=by
 refine AP.weak (ZG Try.func19 Z Try.ntmps19 Z Z ?_)
 have d1:((6:Int) != 0)=true:=rfl
 repeat'(first|(apply Zf Za;exact Z))
 refine Yo 0 (fun _ _ _ _=>False) 0 rfl (fun _ _ _ _ h=>h.elim) (fun H=>?_)
 repeat'(first|(apply Zi (Ut);kernel_rfl;(iterate 4 exact Z))|(apply Zj Za;exact Z)|(apply Zf Za;exact Z)|(apply Zv Za;exact Z)|refine ZH ?_|(apply Zd;exact Z;(first|with_reducible assumption|(solve|simp only[bn]))))
 ·(apply WZ;(apply Zg Za;exact Z);exact Z)
  all_goals rfl
theorem Uy [Known]:AQ Try.prog 18 [.ptr 0 0] [[.bool false,.sl .nil [],.int .i64 0]] (.int .i64 6) (Yk false [] 0):=by
 refine AQ.weak (ZG Try.func18 Z Try.ntmps18 Z Z ?_)
 repeat'(first|(apply Zj Za;exact Z)|(apply Zf Za;exact Z)|(apply Zv Za;exact Z)|(apply Zo;(iterate 3 exact Z);(first|with_reducible assumption|(solve|simp only[bn])))|(apply Zt;exact Z;(first|with_reducible assumption|(solve|simp only[bn]));exact Z;exact Z)|(apply Zd;exact Z;(first|with_reducible assumption|(solve|simp only[bn]))))
 (apply Yh [0];(apply Zg Za;exact Z);(iterate 4 exact Z))
 all_goals rfl
theorem QS [Known](b:List UInt8):AQ Try.prog 19 [.ptr 0 0,byE b] [[.bool false,.sl .nil [],.int .i64 0]] (.tup [ZN [],.int .i64 6]) (Yk false [] 0):=by
 refine AQ.weak (ZG Try.func19 Z Try.ntmps19 Z Z ?_)
 have d1:((6:Int) != 0)=true:=rfl
 repeat'(first|(apply Zf Za;exact Z))
 refine Yo 0 (fun _ _ _ _=>False) 0 rfl (fun _ _ _ _ h=>h.elim) (fun H=>?_)
 repeat'(first|(apply Zb [0] (Uy);kernel_rfl;(iterate 7 exact Z))|(apply Zj Za;exact Z)|(apply Zf Za;exact Z)|(apply Zv Za;exact Z)|refine ZH ?_|(apply Zd;exact Z;(first|with_reducible assumption|(solve|simp only[bn]))))
 ·(apply Yh [0];(apply Zg Za;exact Z);(iterate 4 exact Z))
  all_goals rfl
theorem Vu [Known](l b:List UInt8)(e:Nat)(z c0:Nat)(he:e ≠ 0):AQ Try.prog 19 [.ptr 0 0,.bsl 1 0 (b.map E.byte).length c0] [[.bool true,byE l,.int .i64 (e:Int)],[.row z (flat (b.map E.byte))]] (.tup [ZN [],.int .i64 (e:Int)]) [[.bool true,byE l,.int .i64 (e:Int)],[.row z (flat (b.map E.byte))]]:=by
 refine AQ.weak (ZG Try.func19 Z Try.ntmps19 Z Z ?_)
 have d1:(((e:Nat):Int) != 0)=true:=by simp;omega
 repeat'(first|(apply Zf Za;exact Z))
 refine Yo 0 (fun _ _ _ _=>False) 0 rfl (fun _ _ _ _ h=>h.elim) (fun H=>?_)
 repeat'(first|(apply Zb [0] (Zs l e);kernel_rfl;(iterate 7 exact Z))|(apply Zj Za;exact Z)|(apply Zf Za;exact Z)|(apply Zv Za;exact Z)|refine ZH ?_|(apply Zd;exact Z;(first|with_reducible assumption|(solve|simp only[bn]))))
 ·(apply Yh [0,1];(apply Zg Za;exact Z);(iterate 4 exact Z))
  all_goals rfl
theorem fa1:Zh ([]++[0,2,97])=([],[0,2,97],0):=Yc (by decide) (by decide) (by decide) (by decide)
theorem fa2:Zh ([0,2,97]++[98,0,0])=([[97,98]],[],3):=by
 rw[YD (by decide) (by decide) (by decide) (by decide)]
 rw[show(([0,2,97]++[98,0,0]:List UInt8).drop (2+Zl ([0,2,97]++[98,0,0])))=[0,0] from rfl,ZX (by decide) (by decide)]
 rfl
theorem J1 [Known]:AQ Try.prog 19 [.ptr 0 0,byE [0,2,97]] (Yk true [] 0) (.tup [ZN [],.int .i64 0]) (Yk true [0,2,97] 0):=by
 have:=WI [] [0,2,97] (by decide)
 rw[fa1]at this
 exact this
theorem J2 [Known]:AQ Try.prog 19 [.ptr 0 0,byE [98,0,0]] (Yk true [0,2,97] 0) (.tup [ZN [[97,98]],.int .i64 3]) (Yk true [] 3):=by
 have:=WI [0,2,97] [98,0,0] (by decide)
 rw[fa2]at this
 exact this
theorem J3 [Known]:AQ Try.prog 19 [.ptr 0 0,byE [0,1,7]] (Yk true [] 3) (.tup [ZN [],.int .i64 3]) (Yk true [] 3):=W3 ([],3) [0,1,7] (by decide)
theorem Y5 [Known]:AP Try.prog 17 [] (.bool true) []:=by
 refine AP.ofA (ZG Try.func17 Z Try.ntmps17 Z Z ?_)
 repeat'(first|(apply Zb [] (QO);kernel_rfl;(iterate 7 exact Z))|(apply Zb [0] (J1);kernel_rfl;(iterate 7 exact Z))|(apply Zb [0] (J2);kernel_rfl;(iterate 7 exact Z))|(apply Zb [0] (J3);kernel_rfl;(iterate 7 exact Z))|(apply Zb [0] (Ym true [0,2,97] 0);kernel_rfl;(iterate 7 exact Z))|(apply Zi (Vr [97,98] (by decide) (by decide));kernel_rfl;(iterate 4 exact Z))|(apply Zj Za;exact Z)|(apply Zf Za;exact Z)|(apply Zo;(iterate 3 exact Z);(first|with_reducible assumption|decide +kernel|(solve|simp only[bn])))|(apply ZB;exact Z;(first|with_reducible assumption|decide +kernel|(solve|simp only[bn]));exact Z;exact Z)|refine Zk Za Z Z Z Z ?_|refine JU Za Z Z Z Z Z Z Z Z Z Z Z Z ?_|refine YK Za Z Z Z Z Z Z Z Z Z Z Z Z ?_|(apply Zp Za;(iterate 6 exact Z);(first|exact Qt|rotate_left);(first|with_reducible assumption|decide +kernel|exact Z);(first|exact Zc rfl|with_reducible assumption|decide +kernel|rotate_left))|refine VC Za Z Z Z Z Z Z Z Z Z ?_)
 (apply Yh [];(apply Zg Za;exact Z);(iterate 4 exact Z))
 all_goals rfl
theorem VH (x:UInt8):bits .xor .u8 (x.toNat:Int) 255=((x ^^^ 255).toNat:Int):=by
 have h:=u8_xor_nat x.toNat 255 x.toNat_lt (by decide)
 rw[show((255:Int))=((255:Nat):Int) from rfl,h,UInt8.toNat_xor]
 rfl
theorem Y8 (bs:List UInt8):flat (bs.map E.byte)=bs.map E.byte:=by
 induction bs with
 | nil=>rfl
 | cons x bs ih=>rw[List.map_cons,ZL,ih];rfl
theorem Yv (bs:List UInt8){i:Nat}(h:i<bs.length)(y:UInt8):Yl (flat (bs.map E.byte)) i [E.byte y]=flat ((bs.set i y).map E.byte):=by
 rw[Y8,Y8,List.map_set]
 unfold Yl
 rw[List.set_eq_take_append_cons_drop,if_pos (by rw[List.length_map];exact h)]
 rfl
end Go.Proofs.Ytkdpfkjlheajhaa
end
section
open Go.RowKit Go.Pl
namespace Go.Av
def UO:Code->Bool
 | .loop _=>true
 | .seq a b=>UO a||UO b
 | .block _ c=>UO c
 | _=>false
def Yq:Code->Code
 | .loop c=>c
 | .seq a b=>match UO a with
  | true=>Yq a
  | false=>Yq b
 | .block _ c=>Yq c
 | c=>c
end Go.Av
end
section
open Go.RowKit Go.Pl Go.Av
namespace Go.Proofs.Ytkdpfkjlheajhaa
set_option maxHeartbeats 4000000
theorem WK {p x l2:List UInt8}{W o2:List (List UInt8)}{left:List UInt8}{e2:Nat}(hp:Zh p=(W,left,0))(hF:Zh (left++x)=(o2,l2,e2)):Zh (p++x)=(W++o2,l2,e2):=by
 rw[Wp,hp]
 unfold WB
 dsimp only
 rw[if_pos rfl,hF]
theorem WL {p x:List UInt8}{W:List (List UInt8)}{left:List UInt8}{br:Nat}(hp:Zh p=(W,left,br))(hb:br ≠ 0):Zh (p++x)=(W,left,br):=by
 rw[Wp,hp]
 unfold WB
 dsimp only
 rw[if_neg hb,List.append_nil]
theorem WM {p:List UInt8}{W:List (List UInt8)}{left:List UInt8}{br:Nat}(hp:Zh p=(W,left,br))(hb:br ≠ 0):left=[]:=by
 have h:=U7 p
 rw[hp]at h
 exact(h.resolve_left hb).1
def J4 (p:List UInt8)(a:D)(fr:List Fr):Prop:=(p=[]/\a=.sl .nil []/\fr=[])\/(p ≠ []/\∃ c,c=(p.map E.byte).length/\a=.sl (.own 0) (p.map E.byte)/\fr=[⟨c,1,5⟩])
def FfJ (l:List (List UInt8))(w:List UInt8)(k:Nat)(tm:List (Nat × D))(bx:List (List D))(fr:List Fr):Prop:=
 ∃(i:Nat) (p left:List UInt8) (W:List (List UInt8)) (br:Nat) (a:D),k+i=60/\Zh p=(W,left,br)/\J4 p a fr/\tm=[(0,ZN l),(1,byE w),(5,.ptr 0 0),(6,a),(7,.int .i64 ((W.length:Nat):Int)),(8,.int .i64 (i:Int))]/\bx=[[.bool true,.sl .ext (left.map E.byte),.int .i64 (br:Int)]]
end Go.Proofs.Ytkdpfkjlheajhaa
end
