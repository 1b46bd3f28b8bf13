/- FrameFeeds: the walk, a round (fsgen.py). -/
import Derived.Test.YtkdpfkjlheajhaaF13
set_option linter.unusedVariables false
set_option linter.unusedSimpArgs false
section
open Go.RowKit Go.Pl Go.Av
namespace Go.Proofs.Ytkdpfkjlheajhaa
set_option maxHeartbeats 4000000
set_option maxRecDepth 10000 in
theorem JK [Known](l:List (List UInt8))(w x p left:List UInt8)(W:List (List UInt8))(br i k c:Nat)(hk:k+i=60)(hlt:i<l.length/\i<60)(hx:l[i]?=some x)(g1:decide (((x.map E.byte).length:Int)>1500)=false)(g2:decide (((p.map E.byte).length:Int)>9000)=false)(hp:Zh p=(W,left,br))(hbr:br=0)(hx0:¬ x=[])(hne:p=[])(hc:True)(Q:X->St->Prop) :
  AW Try.prog (Yq (Try.f4.body.getD .skip)) ⟨198,[(0,ZN l),(1,byE w),(5,.ptr 0 0),(6,.sl .nil []),(7,.int .i64 ((W.length:Nat):Int)),(8,.int .i64 (i:Int))],[[.bool true,.sl .ext (left.map E.byte),.int .i64 (br:Int)]],[],(([]:List (List D)).length,([]:List Fr).length)⟩ (X.then (Lands (FfJ l w) 198 (([]:List (List D)).length,([]:List Fr).length) k) Q):=by
 conv=>enter [3];whnf
 subst hne
 have hll:(l.map E.bys).length=l.length:=List.length_map ..
 have hUl:=Z5 l
 have hd1:decide ((i:Int)<((l.map E.bys).length:Int))=true:=decide_eq_true (by rw[hll];omega)
 have hd2:decide ((i:Int)<60)=true:=decide_eq_true (by omega)
 have ei:IntKind.i64.wrap ((i:Int)+1)=((i+1:Nat):Int):=by rw[IntWalk.i64_in _ (by omega)];omega
 have hxe:(l.map E.bys)[((i:Nat):Int).toNat]?=some (E.bys x):=by rw[Int.toNat_natCast,List.getElem?_map,hx];rfl
 have hUx:=ZD x
 have hxl:(x.map E.byte).length=x.length:=List.length_map ..
 have hUp:=ZD []
 have hpl:(([]:List UInt8).map E.byte).length=([]:List UInt8).length:=List.length_map ..
 have hx15:x.length<=1500:=by have:=of_decide_eq_false g1;omega
 have hp90:([]:List UInt8).length<=9000:=by have:=of_decide_eq_false g2;omega
 have hll2:left.length<=([]:List UInt8).length:=by have:=ZJ [];rw[hp]at this;exact this
 have hWl:W.length<=([]:List UInt8).length:=by have:=Zu [];rw[hp]at this;exact this
 have hAll:=YU ([]++x) (by rw[List.length_append];omega)
 have hql:([]++x).length<=10500:=by rw[List.length_append];omega
 subst hbr
 obtain⟨o,l2,e2,hF⟩:∃ o l2 e2,Zh (left++x)=(o,l2,e2):=⟨_,_,_,rfl⟩
 have hq:=WK hp hF
 rw[hq]at hAll
 dsimp only at hAll
 have t0:(((0:Nat):Int) != 0)=false:=rfl
 have t1:((e2:Int) != (e2:Int))=false:=by simp
 have t2:((l2.length:Int) != (l2.length:Int))=false:=by simp
 have hql2:(W++o).length<=10500:=by have:=Zu ([]++x);rw[hq]at this;dsimp only at this;omega
 have hqm:((W++o).map E.bys).length=(W++o).length:=List.length_map ..
 have t3:decide ((W.length:Int)>(((W++o).map E.bys).length:Int))=false:=decide_eq_false (by rw[hqm,List.length_append];omega)
 have hq1:((W.length:Nat):Int).toNat<=((W++o).map E.bys).length:=by rw[hqm,Int.toNat_natCast,List.length_append];omega
 have hUq:=Z5 (W++o)
 have hsl:(((W++o).map E.bys).take ((W++o).map E.bys).length).drop ((W.length:Nat):Int).toNat=o.map E.bys:=by rw[List.take_length,Int.toNat_natCast,List.map_append,show W.length=(W.map E.bys).length from(List.length_map ..).symm,List.drop_left]
 have hS:=WJ o o (by rw[List.length_append]at hql2;omega)
 rw[show decide (o=o)=true from decide_eq_true rfl]at hS
 have hB0:=Zs left (0:Nat)
 have hB:=Zs l2 (e2:Nat)
 have hL:=Ym true l2 (e2:Nat)
 have hxn:x.map E.byte ≠ []:=fun e=>hx0 (List.map_eq_nil_iff.1 e)
 have hx1:(x.map E.byte).length<=maxLen:=by rw[hxl];unfold maxLen;omega
 have hx2:(x.map E.byte).length*1<=140737488355328:=by rw[hxl];omega
 have hA:=hAll
 rw[List.nil_append]at hA
 have hFd:=V9 left x 0 0 hx0 (by omega)
 rw[hF]at hFd
 dsimp only at hFd
 repeat'(first|(apply Zb [0] (hB0);kernel_rfl;(iterate 7 exact Z))|(apply Zb [0,1] (hFd);kernel_rfl;(iterate 7 exact Z))|refine YT Za Z Z Z Z Z Z ?_|(apply Yu (m:=1) (t:=55) Za;(iterate 4 exact Z);exact(Src.sl rfl);exact Z;exact hUx;exact hxn;exact Z;exact hx1;exact hx2;(iterate 3 exact Z))|(apply Zj Za;exact Z)|(apply Zf Za;exact Z)|(apply Zv Za;exact Z)|(apply Zo;(iterate 3 exact Z);(first|with_reducible assumption|decide +kernel|(solve|simp only[bn])))|(apply ZB;exact Z;(first|with_reducible assumption|decide +kernel|(solve|simp only[bn]));exact Z;exact Z)|(apply Zt;exact Z;(first|with_reducible assumption|decide +kernel|(solve|simp only[bn]));exact Z;exact Z)|(apply Zd;exact Z;(first|with_reducible assumption|decide +kernel|(solve|simp only[bn])))|(apply Ze;exact Z;(first|with_reducible assumption|decide +kernel|(solve|simp only[bn])))|refine Zk Za Z Z Z Z ?_|(apply Zp Za;(iterate 6 exact Z);(first|exact Qt|rotate_left);(first|with_reducible assumption|decide +kernel|exact Z);(first|exact Zc rfl|with_reducible assumption|decide +kernel|rotate_left)))
 refine ZT (fun f tm bx fr=>∃(j:Nat) (R:List UInt8),f+j=x.length/\R.length=x.length/\tm=[(0,ZN l),(1,byE w),(5,.ptr 0 0),(6,.sl .nil []),(7,.int .i64 ((W.length:Nat):Int)),(8,.int .i64 (i:Int)),(9,.int .i64 ((0:Nat):Int)),(10,.bsl 1 0 (x.map E.byte).length 0),(11,.sl .ext (o.map E.bys)),(12,.int .i64 ((e2:Nat):Int)),(13,.int .i64 (j:Int))]/\bx=[[.bool true,.sl .ext (l2.map E.byte),.int .i64 ((e2:Nat):Int)],[.row 0 (flat (R.map E.byte))]]/\fr=[]) (x.length+1) (Lands.mk' (m:=x.length) (Nat.lt_succ_self _) ⟨0,x,rfl,rfl,rfl,rfl,rfl⟩ ?_ rfl rfl rfl rfl rfl rfl) ?_
 ·exact .cons rfl (.cons rfl (.cons rfl (.cons rfl (.cons rfl (.cons rfl (.cons rfl (.cons rfl (.cons rfl (.cons rfl (.cons rfl .nil))))))))))
 rintro f tm bx fr ⟨j,R,hf,hR,rfl,rfl,rfl⟩
 rcases Nat.lt_or_ge j x.length with hjl|hjg
 ·have hd3:decide ((j:Int)<((x.map E.byte).length:Int))=true:=decide_eq_true (by rw[hxl];omega)
  have hd4:(j:Int)<((x.map E.byte).length:Int):=of_decide_eq_true hd3
  obtain⟨y,hy⟩:∃ y,R[j]?=some y:=⟨_,List.getElem?_eq_getElem (by omega)⟩
  have he:(flat (R.map E.byte))[((j:Nat):Int).toNat*1]?=some (.int .u8 (y.toNat:Int)):=by rw[Y8,Int.toNat_natCast,Nat.mul_one,List.getElem?_map,hy];rfl
  have hle:((j:Nat):Int).toNat*1+1<=(flat (R.map E.byte)).length:=by rw[Y8,Int.toNat_natCast,List.length_map];omega
  have hst:Yl (flat (R.map E.byte)) (((j:Nat):Int).toNat*1) [.int .u8 ((y ^^^ 255).toNat:Int)]=flat ((R.set j (y ^^^ 255)).map E.byte):=by
   rw[Int.toNat_natCast,Nat.mul_one]
   exact Yv R (by omega) _
  have hx3:=VH y
  have ek:IntKind.i64.wrap ((j:Int)+1)=((j+1:Nat):Int):=by rw[IntWalk.i64_in _ (by omega)];omega
  repeat'(first|refine Yd Za Z Z Z Z ?_|refine Y2 Za Z Z Z Z Z Z (Int.natCast_nonneg _) hd4 Z ?_|refine Y3 Za Z Z Z Z he Z Z ?_|rw[hx3]|refine Y4 Za Z Z Z Z Z Z hle hst Z ?_|rw[ek]|(apply Zj Za;exact Z)|(apply Zf Za;exact Z)|(apply Zv Za;exact Z)|(apply Zd;exact Z;(first|with_reducible assumption|decide +kernel|(solve|simp only[bn]))))
  refine Lands.mk' (m:=f-1) (by omega) ⟨j+1,R.set j (y ^^^ 255),by omega,by rw[List.length_set];exact hR,rfl,rfl,rfl⟩ ?_ rfl rfl rfl rfl rfl rfl
  exact .cons rfl (.cons rfl (.cons rfl (.cons rfl (.cons rfl (.cons rfl (.cons rfl (.cons rfl (.cons rfl (.cons rfl (.cons rfl .nil))))))))))
 ·have hd3:decide ((j:Int)<((x.map E.byte).length:Int))=false:=decide_eq_false (by rw[hxl];omega)
  repeat'(first|refine Yd Za Z Z Z Z ?_|(apply Zb [0] (hB);kernel_rfl;(iterate 7 exact Z))|(apply Zb [0] (hL);kernel_rfl;(iterate 7 exact Z))|(apply Zi (hA);kernel_rfl;(iterate 4 exact Z))|rw[ei]|(apply Zi (hS);kernel_rfl;(iterate 4 exact Z))|refine ZS Za Z Z Z Z Z (.lit _ _ _ _ rfl (Int.natCast_nonneg _)) (.dft _) hq1 (Nat.le_refl _) hUq hsl ?_|(apply Zj Za;exact Z)|(apply Zf Za;exact Z)|(apply Zv Za;exact Z)|(apply Zo;(iterate 3 exact Z);(first|with_reducible assumption|decide +kernel|(solve|simp only[bn])))|(apply Zt;exact Z;(first|with_reducible assumption|decide +kernel|(solve|simp only[bn]));exact Z;exact Z)|(apply Ze;exact Z;(first|with_reducible assumption|decide +kernel|(solve|simp only[bn])))|refine Zk Za Z Z Z Z ?_|(apply ZR Za;(iterate 6 exact Z);(first|exact Zc rfl|with_reducible assumption|decide +kernel|rotate_left);(first|exact Qt|rotate_left);(first|exact Qt|rotate_left);(first|exact Qt|rotate_left);(iterate 3 exact Z))|(apply Zp Za;(iterate 6 exact Z);(first|exact Qt|rotate_left);(first|with_reducible assumption|decide +kernel|exact Z);(first|exact Zc rfl|with_reducible assumption|decide +kernel|rotate_left)))
  refine Lands.mk' (m:=k-1) (by omega) ⟨i+1,x,l2,W++o,e2,.sl (.own 0) ((x).map E.byte),by omega,by simpa using hq,.inr ⟨hx0,_,rfl,rfl,rfl⟩,rfl,rfl⟩ ?_ rfl rfl rfl rfl rfl rfl
  exact .cons rfl (.cons rfl (.cons rfl (.cons rfl (.cons (congrArg (fun n:Nat=>D.int .i64 (n:Int)) hqm) (.cons rfl .nil)))))
set_option maxRecDepth 10000 in
theorem JL [Known](l:List (List UInt8))(w x p left:List UInt8)(W:List (List UInt8))(br i k c:Nat)(hk:k+i=60)(hlt:i<l.length/\i<60)(hx:l[i]?=some x)(g1:decide (((x.map E.byte).length:Int)>1500)=false)(g2:decide (((p.map E.byte).length:Int)>9000)=false)(hp:Zh p=(W,left,br))(hbr:br=0)(hx0:¬ x=[])(hne:p ≠ [])(hc:c=(p.map E.byte).length)(Q:X->St->Prop) :
  AW Try.prog (Yq (Try.f4.body.getD .skip)) ⟨198,[(0,ZN l),(1,byE w),(5,.ptr 0 0),(6,.sl (.own 0) (p.map E.byte)),(7,.int .i64 ((W.length:Nat):Int)),(8,.int .i64 (i:Int))],[[.bool true,.sl .ext (left.map E.byte),.int .i64 (br:Int)]],[⟨c,1,5⟩],(([]:List (List D)).length,([]:List Fr).length)⟩ (X.then (Lands (FfJ l w) 198 (([]:List (List D)).length,([]:List Fr).length) k) Q):=by
 conv=>enter [3];whnf
 have hll:(l.map E.bys).length=l.length:=List.length_map ..
 have hUl:=Z5 l
 have hd1:decide ((i:Int)<((l.map E.bys).length:Int))=true:=decide_eq_true (by rw[hll];omega)
 have hd2:decide ((i:Int)<60)=true:=decide_eq_true (by omega)
 have ei:IntKind.i64.wrap ((i:Int)+1)=((i+1:Nat):Int):=by rw[IntWalk.i64_in _ (by omega)];omega
 have hxe:(l.map E.bys)[((i:Nat):Int).toNat]?=some (E.bys x):=by rw[Int.toNat_natCast,List.getElem?_map,hx];rfl
 have hUx:=ZD x
 have hxl:(x.map E.byte).length=x.length:=List.length_map ..
 have hUp:=ZD p
 have hpl:(p.map E.byte).length=p.length:=List.length_map ..
 have hx15:x.length<=1500:=by have:=of_decide_eq_false g1;omega
 have hp90:p.length<=9000:=by have:=of_decide_eq_false g2;omega
 have hll2:left.length<=p.length:=by have:=ZJ p;rw[hp]at this;exact this
 have hWl:W.length<=p.length:=by have:=Zu p;rw[hp]at this;exact this
 have hAll:=YU (p++x) (by rw[List.length_append];omega)
 have hql:(p++x).length<=10500:=by rw[List.length_append];omega
 subst hbr
 obtain⟨o,l2,e2,hF⟩:∃ o l2 e2,Zh (left++x)=(o,l2,e2):=⟨_,_,_,rfl⟩
 have hq:=WK hp hF
 rw[hq]at hAll
 dsimp only at hAll
 have t0:(((0:Nat):Int) != 0)=false:=rfl
 have t1:((e2:Int) != (e2:Int))=false:=by simp
 have t2:((l2.length:Int) != (l2.length:Int))=false:=by simp
 have hql2:(W++o).length<=10500:=by have:=Zu (p++x);rw[hq]at this;dsimp only at this;omega
 have hqm:((W++o).map E.bys).length=(W++o).length:=List.length_map ..
 have t3:decide ((W.length:Int)>(((W++o).map E.bys).length:Int))=false:=decide_eq_false (by rw[hqm,List.length_append];omega)
 have hq1:((W.length:Nat):Int).toNat<=((W++o).map E.bys).length:=by rw[hqm,Int.toNat_natCast,List.length_append];omega
 have hUq:=Z5 (W++o)
 have hsl:(((W++o).map E.bys).take ((W++o).map E.bys).length).drop ((W.length:Nat):Int).toNat=o.map E.bys:=by rw[List.take_length,Int.toNat_natCast,List.map_append,show W.length=(W.map E.bys).length from(List.length_map ..).symm,List.drop_left]
 have hS:=WJ o o (by rw[List.length_append]at hql2;omega)
 rw[show decide (o=o)=true from decide_eq_true rfl]at hS
 have hB0:=Zs left (0:Nat)
 have hB:=Zs l2 (e2:Nat)
 have hL:=Ym true l2 (e2:Nat)
 have hxn:x.map E.byte ≠ []:=fun e=>hx0 (List.map_eq_nil_iff.1 e)
 have hx1:(x.map E.byte).length<=maxLen:=by rw[hxl];unfold maxLen;omega
 have hx2:(x.map E.byte).length*1<=140737488355328:=by rw[hxl];omega
 have hA:=hAll
 rw[show byE (p++x)=.sl .ext (p.map E.byte++x.map E.byte) by rw[<- List.map_append]]at hA
 have ha1:(p.map E.byte).length+(x.map E.byte).length<=maxLen:=by rw[hxl,hpl];unfold maxLen;omega
 have ha2:((p.map E.byte).length+(x.map E.byte).length)*1<=140737488355328:=by rw[hxl,hpl];omega
 have hFd:=V9 left x 0 0 hx0 (by omega)
 rw[hF]at hFd
 dsimp only at hFd
 repeat'(first|(apply Zb [0] (hB0);kernel_rfl;(iterate 7 exact Z))|(apply Zb [0,1] (hFd);kernel_rfl;(iterate 7 exact Z))|refine YT Za Z Z Z Z Z Z ?_|(apply Yu (m:=1) (t:=55) Za;(iterate 4 exact Z);exact(Src.sl rfl);exact Z;exact hUx;exact hxn;exact Z;exact hx1;exact hx2;(iterate 3 exact Z))|(apply Zj Za;exact Z)|(apply Zf Za;exact Z)|(apply Zv Za;exact Z)|(apply Zo;(iterate 3 exact Z);(first|with_reducible assumption|decide +kernel|(solve|simp only[bn])))|(apply ZB;exact Z;(first|with_reducible assumption|decide +kernel|(solve|simp only[bn]));exact Z;exact Z)|(apply Zt;exact Z;(first|with_reducible assumption|decide +kernel|(solve|simp only[bn]));exact Z;exact Z)|(apply Zd;exact Z;(first|with_reducible assumption|decide +kernel|(solve|simp only[bn])))|(apply Ze;exact Z;(first|with_reducible assumption|decide +kernel|(solve|simp only[bn])))|refine Zk Za Z Z Z Z ?_|(apply Zp Za;(iterate 6 exact Z);(first|exact Qt|rotate_left);(first|with_reducible assumption|decide +kernel|exact Z);(first|exact Zc rfl|with_reducible assumption|decide +kernel|rotate_left)))
 refine ZT (fun f tm bx fr=>∃(j:Nat) (R:List UInt8),f+j=x.length/\R.length=x.length/\tm=[(0,ZN l),(1,byE w),(5,.ptr 0 0),(6,.sl (.own 0) (p.map E.byte)),(7,.int .i64 ((W.length:Nat):Int)),(8,.int .i64 (i:Int)),(9,.int .i64 ((0:Nat):Int)),(10,.bsl 1 0 (x.map E.byte).length 0),(11,.sl .ext (o.map E.bys)),(12,.int .i64 ((e2:Nat):Int)),(13,.int .i64 (j:Int))]/\bx=[[.bool true,.sl .ext (l2.map E.byte),.int .i64 ((e2:Nat):Int)],[.row 0 (flat (R.map E.byte))]]/\fr=[⟨c,1,5⟩]) (x.length+1) (Lands.mk' (m:=x.length) (Nat.lt_succ_self _) ⟨0,x,rfl,rfl,rfl,rfl,rfl⟩ ?_ rfl rfl rfl rfl rfl rfl) ?_
 ·exact .cons rfl (.cons rfl (.cons rfl (.cons rfl (.cons rfl (.cons rfl (.cons rfl (.cons rfl (.cons rfl (.cons rfl (.cons rfl .nil))))))))))
 rintro f tm bx fr ⟨j,R,hf,hR,rfl,rfl,rfl⟩
 rcases Nat.lt_or_ge j x.length with hjl|hjg
 ·have hd3:decide ((j:Int)<((x.map E.byte).length:Int))=true:=decide_eq_true (by rw[hxl];omega)
  have hd4:(j:Int)<((x.map E.byte).length:Int):=of_decide_eq_true hd3
  obtain⟨y,hy⟩:∃ y,R[j]?=some y:=⟨_,List.getElem?_eq_getElem (by omega)⟩
  have he:(flat (R.map E.byte))[((j:Nat):Int).toNat*1]?=some (.int .u8 (y.toNat:Int)):=by rw[Y8,Int.toNat_natCast,Nat.mul_one,List.getElem?_map,hy];rfl
  have hle:((j:Nat):Int).toNat*1+1<=(flat (R.map E.byte)).length:=by rw[Y8,Int.toNat_natCast,List.length_map];omega
  have hst:Yl (flat (R.map E.byte)) (((j:Nat):Int).toNat*1) [.int .u8 ((y ^^^ 255).toNat:Int)]=flat ((R.set j (y ^^^ 255)).map E.byte):=by
   rw[Int.toNat_natCast,Nat.mul_one]
   exact Yv R (by omega) _
  have hx3:=VH y
  have ek:IntKind.i64.wrap ((j:Int)+1)=((j+1:Nat):Int):=by rw[IntWalk.i64_in _ (by omega)];omega
  repeat'(first|refine Yd Za Z Z Z Z ?_|refine Y2 Za Z Z Z Z Z Z (Int.natCast_nonneg _) hd4 Z ?_|refine Y3 Za Z Z Z Z he Z Z ?_|rw[hx3]|refine Y4 Za Z Z Z Z Z Z hle hst Z ?_|rw[ek]|(apply Zj Za;exact Z)|(apply Zf Za;exact Z)|(apply Zv Za;exact Z)|(apply Zd;exact Z;(first|with_reducible assumption|decide +kernel|(solve|simp only[bn]))))
  refine Lands.mk' (m:=f-1) (by omega) ⟨j+1,R.set j (y ^^^ 255),by omega,by rw[List.length_set];exact hR,rfl,rfl,rfl⟩ ?_ rfl rfl rfl rfl rfl rfl
  exact .cons rfl (.cons rfl (.cons rfl (.cons rfl (.cons rfl (.cons rfl (.cons rfl (.cons rfl (.cons rfl (.cons rfl (.cons rfl .nil))))))))))
 ·have hd3:decide ((j:Int)<((x.map E.byte).length:Int))=false:=decide_eq_false (by rw[hxl];omega)
  repeat'(first|refine Yd Za Z Z Z Z ?_|(apply Zb [0] (hB);kernel_rfl;(iterate 7 exact Z))|(apply Zb [0] (hL);kernel_rfl;(iterate 7 exact Z))|(apply Zi (hA);kernel_rfl;(iterate 4 exact Z))|rw[ei]|(apply Zi (hS);kernel_rfl;(iterate 4 exact Z))|refine ZS Za Z Z Z Z Z (.lit _ _ _ _ rfl (Int.natCast_nonneg _)) (.dft _) hq1 (Nat.le_refl _) hUq hsl ?_|(apply Zj Za;exact Z)|(apply Zf Za;exact Z)|(apply Zv Za;exact Z)|(apply Zo;(iterate 3 exact Z);(first|with_reducible assumption|decide +kernel|(solve|simp only[bn])))|(apply Zt;exact Z;(first|with_reducible assumption|decide +kernel|(solve|simp only[bn]));exact Z;exact Z)|(apply Ze;exact Z;(first|with_reducible assumption|decide +kernel|(solve|simp only[bn])))|refine Zk Za Z Z Z Z ?_|(apply ZM Za;(iterate 6 exact Z);(first|with_reducible assumption|decide +kernel|exact Z|rotate_left);exact Z;exact Z;(first|exact Zc rfl|with_reducible assumption|decide +kernel|rotate_left);(first|exact Zc rfl|with_reducible assumption|decide +kernel|rotate_left);(first|exact Qt|rotate_left);(first|exact Qt|rotate_left);(first|exact Qt|rotate_left);exact Z;exact Z)|(apply Zp Za;(iterate 6 exact Z);(first|exact Qt|rotate_left);(first|with_reducible assumption|decide +kernel|exact Z);(first|exact Zc rfl|with_reducible assumption|decide +kernel|rotate_left)))
  refine Lands.mk' (m:=k-1) (by omega) ⟨i+1,p++x,l2,W++o,e2,.sl (.own 0) ((p++x).map E.byte),by omega,hq,.inr ⟨by simp[hne],_,rfl,rfl,rfl⟩,rfl,rfl⟩ ?_ rfl (by rw[List.map_append,List.length_append];rfl) rfl rfl rfl rfl
  exact .cons rfl (.cons rfl (.cons rfl (.cons (congrArg (fun z=>D.sl (.own 0) z) List.map_append.symm) (.cons (congrArg (fun n:Nat=>D.int .i64 (n:Int)) hqm) (.cons rfl .nil)))))
end Go.Proofs.Ytkdpfkjlheajhaa
end
