/- FrameFeeds: the walk, a round (fsgen.py). -/
import Derived.Test.YtkdpfkjlheajhaaF13
set_option linter.unusedVariables false
set_option linter.unusedSimpArgs false
section
open Go.RowKit Go.Pl Go.Av
namespace Go.Proofs.Ytkdpfkjlheajhaa
set_option maxHeartbeats 4000000
set_option maxRecDepth 10000 in
theorem JG [Known](l:List (List UInt8))(w x p left:List UInt8)(W:List (List UInt8))(br i k c:Nat)(hk:k+i=60)(hlt:i<l.length/\i<60)(hx:l[i]?=some x)(g1:decide (((x.map E.byte).length:Int)>1500)=false)(g2:decide (((p.map E.byte).length:Int)>9000)=false)(hp:Zh p=(W,left,br))(hbr:br=0)(hx0:x=[])(hne:p=[])(hc:True)(Q:X->St->Prop) :
  AW Try.prog (Yq (Try.f4.body.getD .skip)) ⟨198,[(0,ZN l),(1,byE w),(5,.ptr 0 0),(6,.sl .nil []),(7,.int .i64 ((W.length:Nat):Int)),(8,.int .i64 (i:Int))],[[.bool true,.sl .ext (left.map E.byte),.int .i64 (br:Int)]],[],(([]:List (List D)).length,([]:List Fr).length)⟩ (X.then (Lands (FfJ l w) 198 (([]:List (List D)).length,([]:List Fr).length) k) Q):=by
 conv=>enter [3];whnf
 subst hne
 have hll:(l.map E.bys).length=l.length:=List.length_map ..
 have hUl:=Z5 l
 have hd1:decide ((i:Int)<((l.map E.bys).length:Int))=true:=decide_eq_true (by rw[hll];omega)
 have hd2:decide ((i:Int)<60)=true:=decide_eq_true (by omega)
 have ei:IntKind.i64.wrap ((i:Int)+1)=((i+1:Nat):Int):=by rw[IntWalk.i64_in _ (by omega)];omega
 have hxe:(l.map E.bys)[((i:Nat):Int).toNat]?=some (E.bys x):=by rw[Int.toNat_natCast,List.getElem?_map,hx];rfl
 have hUx:=ZD x
 have hxl:(x.map E.byte).length=x.length:=List.length_map ..
 have hUp:=ZD []
 have hpl:(([]:List UInt8).map E.byte).length=([]:List UInt8).length:=List.length_map ..
 have hx15:x.length<=1500:=by have:=of_decide_eq_false g1;omega
 have hp90:([]:List UInt8).length<=9000:=by have:=of_decide_eq_false g2;omega
 have hll2:left.length<=([]:List UInt8).length:=by have:=ZJ [];rw[hp]at this;exact this
 have hWl:W.length<=([]:List UInt8).length:=by have:=Zu [];rw[hp]at this;exact this
 have hAll:=YU ([]++x) (by rw[List.length_append];omega)
 have hql:([]++x).length<=10500:=by rw[List.length_append];omega
 subst hbr
 obtain⟨o,l2,e2,hF⟩:∃ o l2 e2,Zh (left++x)=(o,l2,e2):=⟨_,_,_,rfl⟩
 have hq:=WK hp hF
 rw[hq]at hAll
 dsimp only at hAll
 have t0:(((0:Nat):Int) != 0)=false:=rfl
 have t1:((e2:Int) != (e2:Int))=false:=by simp
 have t2:((l2.length:Int) != (l2.length:Int))=false:=by simp
 have hql2:(W++o).length<=10500:=by have:=Zu ([]++x);rw[hq]at this;dsimp only at this;omega
 have hqm:((W++o).map E.bys).length=(W++o).length:=List.length_map ..
 have t3:decide ((W.length:Int)>(((W++o).map E.bys).length:Int))=false:=decide_eq_false (by rw[hqm,List.length_append];omega)
 have hq1:((W.length:Nat):Int).toNat<=((W++o).map E.bys).length:=by rw[hqm,Int.toNat_natCast,List.length_append];omega
 have hUq:=Z5 (W++o)
 have hsl:(((W++o).map E.bys).take ((W++o).map E.bys).length).drop ((W.length:Nat):Int).toNat=o.map E.bys:=by rw[List.take_length,Int.toNat_natCast,List.map_append,show W.length=(W.map E.bys).length from(List.length_map ..).symm,List.drop_left]
 have hS:=WJ o o (by rw[List.length_append]at hql2;omega)
 rw[show decide (o=o)=true from decide_eq_true rfl]at hS
 have hB0:=Zs left (0:Nat)
 have hB:=Zs l2 (e2:Nat)
 have hL:=Ym true l2 (e2:Nat)
 have hxe0:x=[]:=hx0
 subst hxe0
 have hA:=hAll
 rw[List.append_nil]at hA
 have x0:decide ((0:Int)<((([]:List E).length:Nat):Int))=false:=rfl
 have hFd:=WI left [] (by simp;omega)
 rw[hF]at hFd
 dsimp only at hFd
 repeat'(first|refine YT Za Z Z Z Z Z Z ?_|(apply Zb [0] (hB0);kernel_rfl;(iterate 7 exact Z))|(apply Zb [0] (hB);kernel_rfl;(iterate 7 exact Z))|(apply Zb [0] (hL);kernel_rfl;(iterate 7 exact Z))|(apply Zb [0] (hFd);kernel_rfl;(iterate 7 exact Z))|(apply Zi (hA);kernel_rfl;(iterate 4 exact Z))|rw[ei]|(apply Zi (hS);kernel_rfl;(iterate 4 exact Z))|refine ZS Za Z Z Z Z Z (.lit _ _ _ _ rfl (Int.natCast_nonneg _)) (.dft _) hq1 (Nat.le_refl _) hUq hsl ?_|refine YB 2 ?_|refine Y0 ?_|(apply Zj Za;exact Z)|(apply Zf Za;exact Z)|(apply Zv Za;exact Z)|(apply Zo;(iterate 3 exact Z);(first|with_reducible assumption|decide +kernel|(solve|simp only[bn])))|(apply ZB;exact Z;(first|with_reducible assumption|decide +kernel|(solve|simp only[bn]));exact Z;exact Z)|(apply Zt;exact Z;(first|with_reducible assumption|decide +kernel|(solve|simp only[bn]));exact Z;exact Z)|(apply Zd;exact Z;(first|with_reducible assumption|decide +kernel|(solve|simp only[bn])))|(apply Ze;exact Z;(first|with_reducible assumption|decide +kernel|(solve|simp only[bn])))|refine Zk Za Z Z Z Z ?_|refine Zw Za Z Z Z Z Z Z ?_|(apply Zp Za;(iterate 6 exact Z);(first|exact Qt|rotate_left);(first|with_reducible assumption|decide +kernel|exact Z);(first|exact Zc rfl|with_reducible assumption|decide +kernel|rotate_left)))
 refine Lands.mk' (m:=k-1) (by omega) ⟨i+1,[],l2,W++o,e2,.sl .nil [],by omega,by simpa using hq,.inl ⟨rfl,rfl,rfl⟩,rfl,rfl⟩ ?_ rfl rfl rfl rfl rfl rfl
 exact .cons rfl (.cons rfl (.cons rfl (.cons rfl (.cons (congrArg (fun n:Nat=>D.int .i64 (n:Int)) hqm) (.cons rfl .nil)))))
set_option maxRecDepth 10000 in
theorem JH [Known](l:List (List UInt8))(w x p left:List UInt8)(W:List (List UInt8))(br i k c:Nat)(hk:k+i=60)(hlt:i<l.length/\i<60)(hx:l[i]?=some x)(g1:decide (((x.map E.byte).length:Int)>1500)=false)(g2:decide (((p.map E.byte).length:Int)>9000)=false)(hp:Zh p=(W,left,br))(hbr:br=0)(hx0:x=[])(hne:p ≠ [])(hc:c=(p.map E.byte).length)(Q:X->St->Prop) :
  AW Try.prog (Yq (Try.f4.body.getD .skip)) ⟨198,[(0,ZN l),(1,byE w),(5,.ptr 0 0),(6,.sl (.own 0) (p.map E.byte)),(7,.int .i64 ((W.length:Nat):Int)),(8,.int .i64 (i:Int))],[[.bool true,.sl .ext (left.map E.byte),.int .i64 (br:Int)]],[⟨c,1,5⟩],(([]:List (List D)).length,([]:List Fr).length)⟩ (X.then (Lands (FfJ l w) 198 (([]:List (List D)).length,([]:List Fr).length) k) Q):=by
 conv=>enter [3];whnf
 have hll:(l.map E.bys).length=l.length:=List.length_map ..
 have hUl:=Z5 l
 have hd1:decide ((i:Int)<((l.map E.bys).length:Int))=true:=decide_eq_true (by rw[hll];omega)
 have hd2:decide ((i:Int)<60)=true:=decide_eq_true (by omega)
 have ei:IntKind.i64.wrap ((i:Int)+1)=((i+1:Nat):Int):=by rw[IntWalk.i64_in _ (by omega)];omega
 have hxe:(l.map E.bys)[((i:Nat):Int).toNat]?=some (E.bys x):=by rw[Int.toNat_natCast,List.getElem?_map,hx];rfl
 have hUx:=ZD x
 have hxl:(x.map E.byte).length=x.length:=List.length_map ..
 have hUp:=ZD p
 have hpl:(p.map E.byte).length=p.length:=List.length_map ..
 have hx15:x.length<=1500:=by have:=of_decide_eq_false g1;omega
 have hp90:p.length<=9000:=by have:=of_decide_eq_false g2;omega
 have hll2:left.length<=p.length:=by have:=ZJ p;rw[hp]at this;exact this
 have hWl:W.length<=p.length:=by have:=Zu p;rw[hp]at this;exact this
 have hAll:=YU (p++x) (by rw[List.length_append];omega)
 have hql:(p++x).length<=10500:=by rw[List.length_append];omega
 subst hbr
 obtain⟨o,l2,e2,hF⟩:∃ o l2 e2,Zh (left++x)=(o,l2,e2):=⟨_,_,_,rfl⟩
 have hq:=WK hp hF
 rw[hq]at hAll
 dsimp only at hAll
 have t0:(((0:Nat):Int) != 0)=false:=rfl
 have t1:((e2:Int) != (e2:Int))=false:=by simp
 have t2:((l2.length:Int) != (l2.length:Int))=false:=by simp
 have hql2:(W++o).length<=10500:=by have:=Zu (p++x);rw[hq]at this;dsimp only at this;omega
 have hqm:((W++o).map E.bys).length=(W++o).length:=List.length_map ..
 have t3:decide ((W.length:Int)>(((W++o).map E.bys).length:Int))=false:=decide_eq_false (by rw[hqm,List.length_append];omega)
 have hq1:((W.length:Nat):Int).toNat<=((W++o).map E.bys).length:=by rw[hqm,Int.toNat_natCast,List.length_append];omega
 have hUq:=Z5 (W++o)
 have hsl:(((W++o).map E.bys).take ((W++o).map E.bys).length).drop ((W.length:Nat):Int).toNat=o.map E.bys:=by rw[List.take_length,Int.toNat_natCast,List.map_append,show W.length=(W.map E.bys).length from(List.length_map ..).symm,List.drop_left]
 have hS:=WJ o o (by rw[List.length_append]at hql2;omega)
 rw[show decide (o=o)=true from decide_eq_true rfl]at hS
 have hB0:=Zs left (0:Nat)
 have hB:=Zs l2 (e2:Nat)
 have hL:=Ym true l2 (e2:Nat)
 have hxe0:x=[]:=hx0
 subst hxe0
 have hA:=hAll
 rw[List.append_nil]at hA
 have x0:decide ((0:Int)<((([]:List E).length:Nat):Int))=false:=rfl
 have hFd:=WI left [] (by simp;omega)
 rw[hF]at hFd
 dsimp only at hFd
 repeat'(first|refine YT Za Z Z Z Z Z Z ?_|(apply Zb [0] (hB0);kernel_rfl;(iterate 7 exact Z))|(apply Zb [0] (hB);kernel_rfl;(iterate 7 exact Z))|(apply Zb [0] (hL);kernel_rfl;(iterate 7 exact Z))|(apply Zb [0] (hFd);kernel_rfl;(iterate 7 exact Z))|(apply Zi (hA);kernel_rfl;(iterate 4 exact Z))|rw[ei]|(apply Zi (hS);kernel_rfl;(iterate 4 exact Z))|refine ZS Za Z Z Z Z Z (.lit _ _ _ _ rfl (Int.natCast_nonneg _)) (.dft _) hq1 (Nat.le_refl _) hUq hsl ?_|refine YB 2 ?_|refine Y0 ?_|(apply Zj Za;exact Z)|(apply Zf Za;exact Z)|(apply Zv Za;exact Z)|(apply Zo;(iterate 3 exact Z);(first|with_reducible assumption|decide +kernel|(solve|simp only[bn])))|(apply ZB;exact Z;(first|with_reducible assumption|decide +kernel|(solve|simp only[bn]));exact Z;exact Z)|(apply Zt;exact Z;(first|with_reducible assumption|decide +kernel|(solve|simp only[bn]));exact Z;exact Z)|(apply Zd;exact Z;(first|with_reducible assumption|decide +kernel|(solve|simp only[bn])))|(apply Ze;exact Z;(first|with_reducible assumption|decide +kernel|(solve|simp only[bn])))|refine Zk Za Z Z Z Z ?_|refine Zw Za Z Z Z Z Z Z ?_|(apply Zp Za;(iterate 6 exact Z);(first|exact Qt|rotate_left);(first|with_reducible assumption|decide +kernel|exact Z);(first|exact Zc rfl|with_reducible assumption|decide +kernel|rotate_left)))
 refine Lands.mk' (m:=k-1) (by omega) ⟨i+1,p,l2,W++o,e2,.sl (.own 0) (p.map E.byte),by omega,by simpa using hq,.inr ⟨hne,c,hc,rfl,rfl⟩,rfl,rfl⟩ ?_ rfl rfl rfl rfl rfl rfl
 exact .cons rfl (.cons rfl (.cons rfl (.cons rfl (.cons (congrArg (fun n:Nat=>D.int .i64 (n:Int)) hqm) (.cons rfl .nil)))))
set_option maxRecDepth 10000 in
theorem JI [Known](l:List (List UInt8))(w x p left:List UInt8)(W:List (List UInt8))(br i k c:Nat)(hk:k+i=60)(hlt:i<l.length/\i<60)(hx:l[i]?=some x)(g1:decide (((x.map E.byte).length:Int)>1500)=false)(g2:decide (((p.map E.byte).length:Int)>9000)=false)(hp:Zh p=(W,left,br))(hbr:br ≠ 0)(hx0:x=[])(hne:p=[])(hc:True)(Q:X->St->Prop) :
  AW Try.prog (Yq (Try.f4.body.getD .skip)) ⟨198,[(0,ZN l),(1,byE w),(5,.ptr 0 0),(6,.sl .nil []),(7,.int .i64 ((W.length:Nat):Int)),(8,.int .i64 (i:Int))],[[.bool true,.sl .ext (left.map E.byte),.int .i64 (br:Int)]],[],(([]:List (List D)).length,([]:List Fr).length)⟩ (X.then (Lands (FfJ l w) 198 (([]:List (List D)).length,([]:List Fr).length) k) Q):=by
 conv=>enter [3];whnf
 subst hne
 have hll:(l.map E.bys).length=l.length:=List.length_map ..
 have hUl:=Z5 l
 have hd1:decide ((i:Int)<((l.map E.bys).length:Int))=true:=decide_eq_true (by rw[hll];omega)
 have hd2:decide ((i:Int)<60)=true:=decide_eq_true (by omega)
 have ei:IntKind.i64.wrap ((i:Int)+1)=((i+1:Nat):Int):=by rw[IntWalk.i64_in _ (by omega)];omega
 have hxe:(l.map E.bys)[((i:Nat):Int).toNat]?=some (E.bys x):=by rw[Int.toNat_natCast,List.getElem?_map,hx];rfl
 have hUx:=ZD x
 have hxl:(x.map E.byte).length=x.length:=List.length_map ..
 have hUp:=ZD []
 have hpl:(([]:List UInt8).map E.byte).length=([]:List UInt8).length:=List.length_map ..
 have hx15:x.length<=1500:=by have:=of_decide_eq_false g1;omega
 have hp90:([]:List UInt8).length<=9000:=by have:=of_decide_eq_false g2;omega
 have hll2:left.length<=([]:List UInt8).length:=by have:=ZJ [];rw[hp]at this;exact this
 have hWl:W.length<=([]:List UInt8).length:=by have:=Zu [];rw[hp]at this;exact this
 have hAll:=YU ([]++x) (by rw[List.length_append];omega)
 have hql:([]++x).length<=10500:=by rw[List.length_append];omega
 have hq:=WL (x:=x) hp hbr
 rw[hq]at hAll
 dsimp only at hAll
 obtain rfl:=WM hp hbr
 have t1:((br:Int) != 0)=true:=by simp;omega
 have t2:((br:Int) != (br:Int))=false:=by simp
 have hB:=Zs [] (br:Int)
 have hL:=Ym true [] (br:Int)
 have hxe0:x=[]:=hx0
 subst hxe0
 have hA:=hAll
 rw[List.append_nil]at hA
 have x0:decide ((0:Int)<((([]:List E).length:Nat):Int))=false:=rfl
 have hF:=W3 ([],br) [] hbr
 repeat'(first|refine YT Za Z Z Z Z Z Z ?_|(apply Zb [0] (hB);kernel_rfl;(iterate 7 exact Z))|(apply Zb [0] (hL);kernel_rfl;(iterate 7 exact Z))|(apply Zb [0] (hF);kernel_rfl;(iterate 7 exact Z))|(apply Zi (hA);kernel_rfl;(iterate 4 exact Z))|rw[ei]|refine YB 2 ?_|refine Y0 ?_|(apply Zj Za;exact Z)|(apply Zf Za;exact Z)|(apply Zv Za;exact Z)|(apply Zo;(iterate 3 exact Z);(first|with_reducible assumption|decide +kernel|(solve|simp only[bn])))|(apply ZB;exact Z;(first|with_reducible assumption|decide +kernel|(solve|simp only[bn]));exact Z;exact Z)|(apply Zt;exact Z;(first|with_reducible assumption|decide +kernel|(solve|simp only[bn]));exact Z;exact Z)|(apply Zd;exact Z;(first|with_reducible assumption|decide +kernel|(solve|simp only[bn])))|(apply Ze;exact Z;(first|with_reducible assumption|decide +kernel|(solve|simp only[bn])))|refine Zk Za Z Z Z Z ?_|refine Zw Za Z Z Z Z Z Z ?_|(apply Zp Za;(iterate 6 exact Z);(first|exact Qt|rotate_left);(first|with_reducible assumption|decide +kernel|exact Z);(first|exact Zc rfl|with_reducible assumption|decide +kernel|rotate_left)))
 refine Lands.mk' (m:=k-1) (by omega) ⟨i+1,[],[],W,br,.sl .nil [],by omega,by simpa using hq,.inl ⟨rfl,rfl,rfl⟩,rfl,rfl⟩ ?_ rfl rfl rfl rfl rfl rfl
 exact .cons rfl (.cons rfl (.cons rfl (.cons rfl (.cons rfl (.cons rfl .nil)))))
set_option maxRecDepth 10000 in
theorem JJ [Known](l:List (List UInt8))(w x p left:List UInt8)(W:List (List UInt8))(br i k c:Nat)(hk:k+i=60)(hlt:i<l.length/\i<60)(hx:l[i]?=some x)(g1:decide (((x.map E.byte).length:Int)>1500)=false)(g2:decide (((p.map E.byte).length:Int)>9000)=false)(hp:Zh p=(W,left,br))(hbr:br ≠ 0)(hx0:x=[])(hne:p ≠ [])(hc:c=(p.map E.byte).length)(Q:X->St->Prop) :
  AW Try.prog (Yq (Try.f4.body.getD .skip)) ⟨198,[(0,ZN l),(1,byE w),(5,.ptr 0 0),(6,.sl (.own 0) (p.map E.byte)),(7,.int .i64 ((W.length:Nat):Int)),(8,.int .i64 (i:Int))],[[.bool true,.sl .ext (left.map E.byte),.int .i64 (br:Int)]],[⟨c,1,5⟩],(([]:List (List D)).length,([]:List Fr).length)⟩ (X.then (Lands (FfJ l w) 198 (([]:List (List D)).length,([]:List Fr).length) k) Q):=by
 conv=>enter [3];whnf
 have hll:(l.map E.bys).length=l.length:=List.length_map ..
 have hUl:=Z5 l
 have hd1:decide ((i:Int)<((l.map E.bys).length:Int))=true:=decide_eq_true (by rw[hll];omega)
 have hd2:decide ((i:Int)<60)=true:=decide_eq_true (by omega)
 have ei:IntKind.i64.wrap ((i:Int)+1)=((i+1:Nat):Int):=by rw[IntWalk.i64_in _ (by omega)];omega
 have hxe:(l.map E.bys)[((i:Nat):Int).toNat]?=some (E.bys x):=by rw[Int.toNat_natCast,List.getElem?_map,hx];rfl
 have hUx:=ZD x
 have hxl:(x.map E.byte).length=x.length:=List.length_map ..
 have hUp:=ZD p
 have hpl:(p.map E.byte).length=p.length:=List.length_map ..
 have hx15:x.length<=1500:=by have:=of_decide_eq_false g1;omega
 have hp90:p.length<=9000:=by have:=of_decide_eq_false g2;omega
 have hll2:left.length<=p.length:=by have:=ZJ p;rw[hp]at this;exact this
 have hWl:W.length<=p.length:=by have:=Zu p;rw[hp]at this;exact this
 have hAll:=YU (p++x) (by rw[List.length_append];omega)
 have hql:(p++x).length<=10500:=by rw[List.length_append];omega
 have hq:=WL (x:=x) hp hbr
 rw[hq]at hAll
 dsimp only at hAll
 obtain rfl:=WM hp hbr
 have t1:((br:Int) != 0)=true:=by simp;omega
 have t2:((br:Int) != (br:Int))=false:=by simp
 have hB:=Zs [] (br:Int)
 have hL:=Ym true [] (br:Int)
 have hxe0:x=[]:=hx0
 subst hxe0
 have hA:=hAll
 rw[List.append_nil]at hA
 have x0:decide ((0:Int)<((([]:List E).length:Nat):Int))=false:=rfl
 have hF:=W3 ([],br) [] hbr
 repeat'(first|refine YT Za Z Z Z Z Z Z ?_|(apply Zb [0] (hB);kernel_rfl;(iterate 7 exact Z))|(apply Zb [0] (hL);kernel_rfl;(iterate 7 exact Z))|(apply Zb [0] (hF);kernel_rfl;(iterate 7 exact Z))|(apply Zi (hA);kernel_rfl;(iterate 4 exact Z))|rw[ei]|refine YB 2 ?_|refine Y0 ?_|(apply Zj Za;exact Z)|(apply Zf Za;exact Z)|(apply Zv Za;exact Z)|(apply Zo;(iterate 3 exact Z);(first|with_reducible assumption|decide +kernel|(solve|simp only[bn])))|(apply ZB;exact Z;(first|with_reducible assumption|decide +kernel|(solve|simp only[bn]));exact Z;exact Z)|(apply Zt;exact Z;(first|with_reducible assumption|decide +kernel|(solve|simp only[bn]));exact Z;exact Z)|(apply Zd;exact Z;(first|with_reducible assumption|decide +kernel|(solve|simp only[bn])))|(apply Ze;exact Z;(first|with_reducible assumption|decide +kernel|(solve|simp only[bn])))|refine Zk Za Z Z Z Z ?_|refine Zw Za Z Z Z Z Z Z ?_|(apply Zp Za;(iterate 6 exact Z);(first|exact Qt|rotate_left);(first|with_reducible assumption|decide +kernel|exact Z);(first|exact Zc rfl|with_reducible assumption|decide +kernel|rotate_left)))
 refine Lands.mk' (m:=k-1) (by omega) ⟨i+1,p,[],W,br,.sl (.own 0) (p.map E.byte),by omega,by simpa using hq,.inr ⟨hne,c,hc,rfl,rfl⟩,rfl,rfl⟩ ?_ rfl rfl rfl rfl rfl rfl
 exact .cons rfl (.cons rfl (.cons rfl (.cons rfl (.cons rfl (.cons rfl .nil)))))
end Go.Proofs.Ytkdpfkjlheajhaa
end
