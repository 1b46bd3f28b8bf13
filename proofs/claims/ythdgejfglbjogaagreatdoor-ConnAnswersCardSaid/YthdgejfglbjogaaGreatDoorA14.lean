/- ConnAnswers: the walk (cogen.py). -/
import Derived.Test.YthdgejfglbjogaaGreatDoorA13
import Derived.Test.YthdgejfglbjogaaGreatDoorA09
import Derived.Test.YthdgejfglbjogaaGreatDoorA01
import Derived.Test.YthdgejfglbjogaaGreatDoorA07
import Derived.Test.YthdgejfglbjogaaGreatDoorA10
set_option linter.unusedVariables false
set_option linter.unusedSimpArgs false
section
open Go.RowKit Go.Pl Go.Av
namespace Go.Proofs.YthdgejfglbjogaaGreatDoor
set_option maxHeartbeats 4000000
theorem J0 (n:Nat):IntKind.u8.wrap ((n:Int).tdiv 256)=((UInt8.ofNat (n/256)).toNat:Int):=by
 rw[IntKind.wrap_u8,UInt8.toNat_ofNat',Int.tdiv_eq_ediv_of_nonneg (Int.natCast_nonneg _)]
 omega
theorem J1 (n:Nat):IntKind.u8.wrap ((n:Int).tmod 256)=((UInt8.ofNat (n % 256)).toNat:Int):=by
 rw[IntKind.wrap_u8,UInt8.toNat_ofNat',Int.tmod_eq_emod_of_nonneg (Int.natCast_nonneg _)]
 omega
theorem WR [Known](l:List RyV)(tk:List UInt8)(hA:AP Tryz.prog 5 [] (.bool true) []):AP Tryz.prog 3 [.sl .ext (Vk l),byE tk] (.bool true) []:=by
 have hll:(Vk l).length=l.length:=List.length_map ..
 have htl:(tk.map E.byte).length=tk.length:=List.length_map ..
 have hUl:=X0 l
 have hUt:=Ym tk
 have hN:=XV
 refine AP.ofA (Zl Tryz.func3 Z Tryz.ntmps3 Z Z ?_)
 repeat'(first|(apply Zh [] [] (hN);kernel_rfl;(iterate 10 exact Z))|(apply Zj Za;exact Z)|(apply Zf Za;exact Z))
 refine YD (fun f tm bx fr=>∃(i:Nat) (o L:List UInt8) (K:List E) (c:Nat),f+i=40/\i<=l.length/\o++L=Yr (l.take i)/\K=L.map E.byte/\c=K.length/\tm=[(0,.sl .ext (Vk l)),(1,.sl .ext (tk.map E.byte)),(5,.ptr 1 0),(6,.str o),(7,.str (Yr (l.take i))),(8,.int .i64 (i:Int))]/\((L=[]/\bx=[[.bool true,.sl .ext [],.int .i64 0],[.ptr 0 0,.sl .nil [],.int .i64 0,.sl .nil [],.int .i64 0]]/\fr=[])\/(bx=[[.bool true,.sl .ext [],.int .i64 0],[.ptr 0 0,.sl .nil [],.int .i64 0,.sl (.own 0) K,.int .i64 0]]/\fr=[⟨c,1,5⟩]))) 41 (Lands.mk' (m:=40) (by omega) ⟨0,[],[],[],0,rfl,by omega,rfl,rfl,rfl,rfl,.inl ⟨rfl,rfl,rfl⟩⟩ ?_ rfl rfl rfl rfl rfl rfl) ?_
 ·exact .cons rfl (.cons rfl (.cons rfl (.cons rfl (.cons rfl (.cons rfl .nil)))))
 rintro f tm bx fr ⟨i,o,L,K,c,hf,hi,hoL,hK,hc,rfl,hst⟩
 have hlen:=Vf l i
 have hol:=congrArg List.length hoL
 rw[List.length_append]at hol
 have hKl:K.length=L.length:=by rw[hK,List.length_map]
 have hUK:Uni 1 K:=hK ▸ Ym L
 subst hc
 have c4:o.length+L.length<=maxLen:=by unfold maxLen;omega
 have c3:o.length+([]:List UInt8).length<=maxLen:=by simp[maxLen];omega
 by_cases hlt:i<l.length/\i<40
 ·have hd1:decide ((i:Int)<((Vk l).length:Int))=true:=decide_eq_true (by rw[hll];omega)
  have hd2:decide ((i:Int)<40)=true:=decide_eq_true (by omega)
  have ei:IntKind.i64.wrap ((i:Int)+1)=((i+1:Nat):Int):=by rw[IntWalk.i64_in _ (by omega)];omega
  obtain⟨x,hx⟩:∃ x,l[i]?=some x:=⟨_,List.getElem?_eq_getElem hlt.1⟩
  have hxe:(Vk l)[((i:Nat):Int).toNat]?=some (ryE x):=by rw[Int.toNat_natCast,List.getElem?_map,hx];rfl
  have hk:=UV hx
  have hW:=Ye x
  unfold Yh at hW
  unfold Uw at hk
  cases g:decide (((x.data.map E.byte).length:Int)>1000) with
  | true=>
   clear hW hk
   obtain⟨id,err,num,cnt,tok,data⟩:=x
   rcases hst with⟨rfl,rfl,rfl⟩ | ⟨rfl,rfl⟩
   all_goals
    repeat'(first|(apply Zd (hA);kernel_rfl;(iterate 4 exact Z))|(apply Zj Za;exact Z)|(apply Zf Za;exact Z)|(apply Zr Za;exact Z)|(apply Ze;(iterate 3 exact Z);(first|with_reducible assumption|decide +kernel|(solve|simp only[bn])))|(apply Zk;exact Z;(first|with_reducible assumption|decide +kernel|(solve|simp only[bn]));exact Z;exact Z)|(apply Zg;exact Z;(first|with_reducible assumption|decide +kernel|(solve|simp only[bn])))|refine Zo Za Z Z Z Z ?_|(apply Zu Za;(iterate 6 exact Z);(first|exact Qt|rotate_left);(first|with_reducible assumption|decide +kernel|exact Z);(first|exact Zi rfl|with_reducible assumption|decide +kernel|rotate_left)))
    all_goals exact Qe
  | false=>
  cases hr:ZM x with
  | false=>
   rw[hr]at hW hk
   dsimp only at hk
   rw[List.append_nil]at hk
   have hB0:=JX x hr
   have hB1:=JY x hr K
   have hO0:=X2
   have hO1:=JZ K
   clear hr
   obtain⟨id,err,num,cnt,tok,data⟩:=x
   rcases Nat.lt_or_ge i tk.length with hti|hti
   ·have ht:decide ((i:Int)<((tk.map E.byte).length:Int))=true:=decide_eq_true (by rw[htl];omega)
    obtain⟨y,hy⟩:∃ y,tk[i]?=some y:=⟨_,List.getElem?_eq_getElem hti⟩
    have hye:(tk.map E.byte)[((i:Nat):Int).toNat]?=some (.int .u8 (y.toNat:Int)):=by rw[Int.toNat_natCast,List.getElem?_map,hy];rfl
    cases hb:(bits .and .u8 (y.toNat:Int) 1==1) with
    | true=>
     rcases hst with⟨rfl,rfl,rfl⟩ | ⟨rfl,rfl⟩
     ·repeat'(first|(apply Zh [0,1] [] (hB0);kernel_rfl;(iterate 10 exact Z))|(apply Zh [0,1] [] (hO0);kernel_rfl;(iterate 10 exact Z))|(apply Zd (hW);kernel_rfl;(iterate 4 exact Z))|(apply ZF (bs:=([]:List UInt8)) Za;(iterate 9 exact Z))|(apply Yy;exact Z;exact Z;(first|exact c1|exact c2|exact c3|exact c4);exact Z)|rw[ei]|(apply Zj Za;exact Z)|(apply Zf Za;exact Z)|(apply Zr Za;exact Z)|(apply Ze;(iterate 3 exact Z);(first|with_reducible assumption|decide +kernel|(solve|simp only[bn])))|(apply Zk;exact Z;(first|with_reducible assumption|decide +kernel|(solve|simp only[bn]));exact Z;exact Z)|(apply Zg;exact Z;(first|with_reducible assumption|decide +kernel|(solve|simp only[bn])))|(apply Zc;exact Z;(first|with_reducible assumption|decide +kernel|(solve|simp only[bn])))|refine Zo Za Z Z Z Z ?_|(apply Zu Za;(iterate 6 exact Z);(first|exact Qt|rotate_left);(first|with_reducible assumption|decide +kernel|exact Z);(first|exact Zi rfl|with_reducible assumption|decide +kernel|rotate_left)))
      refine Lands.mk' (m:=f-1) (by omega) ⟨i+1,o++[],[],[],0,by omega,by omega,by rw[hk];simpa using hoL,rfl,rfl,rfl,.inl ⟨rfl,rfl,rfl⟩⟩ ?_ rfl rfl rfl rfl rfl rfl
      exact .cons rfl (.cons rfl (.cons rfl (.cons rfl (.cons (congrArg D.str hk.symm) (.cons rfl .nil)))))
     ·repeat'(first|(apply Zh [0,1] [0] (hB1);kernel_rfl;(iterate 10 exact Z))|(apply Zh [0,1] [0] (hO1);kernel_rfl;(iterate 10 exact Z))|(apply Zd (hW);kernel_rfl;(iterate 4 exact Z))|(apply Yy;exact Z;exact Z;(first|exact c1|exact c2|exact c3|exact c4);exact Z)|(apply ZF (bs:=L) Za;exact Z;exact hK;(iterate 7 exact Z))|rw[ei]|(apply Zj Za;exact Z)|(apply Zf Za;exact Z)|(apply Zr Za;exact Z)|(apply Ze;(iterate 3 exact Z);(first|with_reducible assumption|decide +kernel|(solve|simp only[bn])))|(apply Zk;exact Z;(first|with_reducible assumption|decide +kernel|(solve|simp only[bn]));exact Z;exact Z)|(apply Zg;exact Z;(first|with_reducible assumption|decide +kernel|(solve|simp only[bn])))|(apply Zc;exact Z;(first|with_reducible assumption|decide +kernel|(solve|simp only[bn])))|refine Zo Za Z Z Z Z ?_|(apply Zu Za;(iterate 6 exact Z);(first|exact Qt|rotate_left);(first|with_reducible assumption|decide +kernel|exact Z);(first|exact Zi rfl|with_reducible assumption|decide +kernel|rotate_left)))
      refine Lands.mk' (m:=f-1) (by omega) ⟨i+1,o++L,[],[],0,by omega,by omega,by rw[hk];simpa using hoL,rfl,rfl,rfl,.inl ⟨rfl,rfl,rfl⟩⟩ ?_ rfl rfl rfl rfl rfl rfl
      exact .cons rfl (.cons rfl (.cons rfl (.cons rfl (.cons (congrArg D.str hk.symm) (.cons rfl .nil)))))
    | false=>
     rcases hst with⟨rfl,rfl,rfl⟩ | ⟨rfl,rfl⟩
     ·repeat'(first|(apply Zh [0,1] [] (hB0);kernel_rfl;(iterate 10 exact Z))|(apply Zd (hW);kernel_rfl;(iterate 4 exact Z))|rw[ei]|(apply Zj Za;exact Z)|(apply Zf Za;exact Z)|(apply Zr Za;exact Z)|(apply Ze;(iterate 3 exact Z);(first|with_reducible assumption|decide +kernel|(solve|simp only[bn])))|(apply Zk;exact Z;(first|with_reducible assumption|decide +kernel|(solve|simp only[bn]));exact Z;exact Z)|(apply Zg;exact Z;(first|with_reducible assumption|decide +kernel|(solve|simp only[bn])))|(apply Zc;exact Z;(first|with_reducible assumption|decide +kernel|(solve|simp only[bn])))|refine Zo Za Z Z Z Z ?_|(apply Zu Za;(iterate 6 exact Z);(first|exact Qt|rotate_left);(first|with_reducible assumption|decide +kernel|exact Z);(first|exact Zi rfl|with_reducible assumption|decide +kernel|rotate_left)))
      refine Lands.mk' (m:=f-1) (by omega) ⟨i+1,o,[],[],0,by omega,by omega,by rw[hk];exact hoL,rfl,rfl,rfl,.inl ⟨rfl,rfl,rfl⟩⟩ ?_ rfl rfl rfl rfl rfl rfl
      exact .cons rfl (.cons rfl (.cons rfl (.cons rfl (.cons (congrArg D.str hk.symm) (.cons rfl .nil)))))
     ·repeat'(first|(apply Zh [0,1] [0] (hB1);kernel_rfl;(iterate 10 exact Z))|(apply Zd (hW);kernel_rfl;(iterate 4 exact Z))|rw[ei]|(apply Zj Za;exact Z)|(apply Zf Za;exact Z)|(apply Zr Za;exact Z)|(apply Ze;(iterate 3 exact Z);(first|with_reducible assumption|decide +kernel|(solve|simp only[bn])))|(apply Zk;exact Z;(first|with_reducible assumption|decide +kernel|(solve|simp only[bn]));exact Z;exact Z)|(apply Zg;exact Z;(first|with_reducible assumption|decide +kernel|(solve|simp only[bn])))|(apply Zc;exact Z;(first|with_reducible assumption|decide +kernel|(solve|simp only[bn])))|refine Zo Za Z Z Z Z ?_|(apply Zu Za;(iterate 6 exact Z);(first|exact Qt|rotate_left);(first|with_reducible assumption|decide +kernel|exact Z);(first|exact Zi rfl|with_reducible assumption|decide +kernel|rotate_left)))
      refine Lands.mk' (m:=f-1) (by omega) ⟨i+1,o,L,K,_,by omega,by omega,by rw[hk];exact hoL,hK,rfl,rfl,.inr ⟨rfl,rfl⟩⟩ ?_ rfl rfl rfl rfl rfl rfl
      exact .cons rfl (.cons rfl (.cons rfl (.cons rfl (.cons (congrArg D.str hk.symm) (.cons rfl .nil)))))
   ·have ht:decide ((i:Int)<((tk.map E.byte).length:Int))=false:=decide_eq_false (by rw[htl];omega)
    rcases hst with⟨rfl,rfl,rfl⟩ | ⟨rfl,rfl⟩
    ·repeat'(first|(apply Zh [0,1] [] (hB0);kernel_rfl;(iterate 10 exact Z))|(apply Zd (hW);kernel_rfl;(iterate 4 exact Z))|rw[ei]|(apply Zj Za;exact Z)|(apply Zf Za;exact Z)|(apply Zr Za;exact Z)|(apply Ze;(iterate 3 exact Z);(first|with_reducible assumption|decide +kernel|(solve|simp only[bn])))|(apply Zq;(iterate 3 exact Z);(first|with_reducible assumption|decide +kernel|(solve|simp only[bn])))|(apply Zk;exact Z;(first|with_reducible assumption|decide +kernel|(solve|simp only[bn]));exact Z;exact Z)|(apply Zm;exact Z;(first|with_reducible assumption|decide +kernel|(solve|simp only[bn]));exact Z;exact Z)|(apply Zg;exact Z;(first|with_reducible assumption|decide +kernel|(solve|simp only[bn])))|(apply Zc;exact Z;(first|with_reducible assumption|decide +kernel|(solve|simp only[bn])))|refine Zo Za Z Z Z Z ?_|(apply Zu Za;(iterate 6 exact Z);(first|exact Qt|rotate_left);(first|with_reducible assumption|decide +kernel|exact Z);(first|exact Zi rfl|with_reducible assumption|decide +kernel|rotate_left)))
     refine Lands.mk' (m:=f-1) (by omega) ⟨i+1,o,[],[],0,by omega,by omega,by rw[hk];exact hoL,rfl,rfl,rfl,.inl ⟨rfl,rfl,rfl⟩⟩ ?_ rfl rfl rfl rfl rfl rfl
     exact .cons rfl (.cons rfl (.cons rfl (.cons rfl (.cons (congrArg D.str hk.symm) (.cons rfl .nil)))))
    ·repeat'(first|(apply Zh [0,1] [0] (hB1);kernel_rfl;(iterate 10 exact Z))|(apply Zd (hW);kernel_rfl;(iterate 4 exact Z))|rw[ei]|(apply Zj Za;exact Z)|(apply Zf Za;exact Z)|(apply Zr Za;exact Z)|(apply Ze;(iterate 3 exact Z);(first|with_reducible assumption|decide +kernel|(solve|simp only[bn])))|(apply Zq;(iterate 3 exact Z);(first|with_reducible assumption|decide +kernel|(solve|simp only[bn])))|(apply Zk;exact Z;(first|with_reducible assumption|decide +kernel|(solve|simp only[bn]));exact Z;exact Z)|(apply Zm;exact Z;(first|with_reducible assumption|decide +kernel|(solve|simp only[bn]));exact Z;exact Z)|(apply Zg;exact Z;(first|with_reducible assumption|decide +kernel|(solve|simp only[bn])))|(apply Zc;exact Z;(first|with_reducible assumption|decide +kernel|(solve|simp only[bn])))|refine Zo Za Z Z Z Z ?_|(apply Zu Za;(iterate 6 exact Z);(first|exact Qt|rotate_left);(first|with_reducible assumption|decide +kernel|exact Z);(first|exact Zi rfl|with_reducible assumption|decide +kernel|rotate_left)))
     refine Lands.mk' (m:=f-1) (by omega) ⟨i+1,o,L,K,_,by omega,by omega,by rw[hk];exact hoL,hK,rfl,rfl,.inr ⟨rfl,rfl⟩⟩ ?_ rfl rfl rfl rfl rfl rfl
     exact .cons rfl (.cons rfl (.cons rfl (.cons rfl (.cons (congrArg D.str hk.symm) (.cons rfl .nil)))))
  | true=>
   rw[hr]at hW hk
   have hB:=Y5 hr
   have hF:=Y4 (ZD x) (by omega) (by omega)
   have hwant:Yr (l.take i)++[UInt8.ofNat ((ZD x).length/256),UInt8.ofNat ((ZD x).length % 256)]++ZD x=Yr (l.take (i+1)):=by
    rw[hk]
    simp[ZY]
   dsimp only at hk hW
   have hFl:(ZY (ZD x)).length=(ZD x).length+2:=by simp[ZY]
   have hFn:ZY (ZD x) ≠ []:=by simp[ZY]
   have hA0:=Kr x hr _ rfl
   have hA1:=Ks x hr _ K rfl hUK (by omega)
   have hO0:=JZ ((ZY (ZD x)).map E.byte)
   have hO1:=JZ (K++(ZY (ZD x)).map E.byte)
   rw[List.length_append]at hO1
   clear hr
   generalize ZY (ZD x)=G at *
   generalize hBe:ZD x=B at *
   clear hBe
   have hBl:(B.map E.byte).length=B.length:=List.length_map ..
   have e7:IntKind.u8.wrap (IntKind.i64.wrap ((((B.map E.byte).length:Nat):Int).tdiv 256))=((UInt8.ofNat (B.length/256)).toNat:Int):=by
    rw[hBl,IntWalk.i64_in _ (by rw[Int.tdiv_eq_ediv_of_nonneg (Int.natCast_nonneg _)];omega)]
    exact J0 _
   have e8:IntKind.u8.wrap ((((B.map E.byte).length:Nat):Int).tmod 256)=((UInt8.ofNat (B.length % 256)).toNat:Int):=by rw[hBl];exact J1 _
   have hGm:(G.map E.byte).length=G.length:=List.length_map ..
   have hUG:=Ym G
   have hUB:=Ym B
   have c1:(Yr (l.take i)).length + [UInt8.ofNat (B.length/256),UInt8.ofNat (B.length % 256)].length<=maxLen:=by simp[maxLen];omega
   have c2:(Yr (l.take i)++[UInt8.ofNat (B.length/256),UInt8.ofNat (B.length % 256)]).length+B.length<=maxLen:=by simp[maxLen];omega
   have c5:o.length+(L++G).length<=maxLen:=by rw[List.length_append];unfold maxLen;omega
   have c6:o.length+G.length<=maxLen:=by unfold maxLen;omega
   have hK2:K++G.map E.byte=(L++G).map E.byte:=by rw[hK,List.map_append]
   have hoG:o++(L++G)=Yr (l.take (i+1)):=by rw[<- List.append_assoc,hoL,hk]
   obtain⟨id,err,num,cnt,tok,data⟩:=x
   rcases Nat.lt_or_ge i tk.length with hti|hti
   ·have ht:decide ((i:Int)<((tk.map E.byte).length:Int))=true:=decide_eq_true (by rw[htl];omega)
    obtain⟨y,hy⟩:∃ y,tk[i]?=some y:=⟨_,List.getElem?_eq_getElem hti⟩
    have hye:(tk.map E.byte)[((i:Nat):Int).toNat]?=some (.int .u8 (y.toNat:Int)):=by rw[Int.toNat_natCast,List.getElem?_map,hy];rfl
    cases hb:(bits .and .u8 (y.toNat:Int) 1==1) with
    | true=>
     rcases hst with⟨rfl,rfl,rfl⟩ | ⟨rfl,rfl⟩
     ·repeat'(first|(apply Zh [0,1] [] (hA0);kernel_rfl;(iterate 10 exact Z))|(apply Zh [0,1] [0] (hO0);kernel_rfl;(iterate 10 exact Z))|(apply Zd (hW);kernel_rfl;(iterate 4 exact Z))|rw[e7]|rw[e8]|rw[ei]|(apply ZF (bs:=[UInt8.ofNat (B.length/256),UInt8.ofNat (B.length % 256)]) Za;(iterate 9 exact Z))|(apply ZF (bs:=B) Za;(iterate 9 exact Z))|(apply ZF (bs:=G) Za;(iterate 9 exact Z))|(apply Yy;exact Z;exact Z;(first|exact c1|exact c2|exact c5|exact c6);exact Z)|(apply Zj Za;exact Z)|(apply Zf Za;exact Z)|(apply Zr Za;exact Z)|(apply Ze;(iterate 3 exact Z);(first|with_reducible assumption|decide +kernel|(solve|simp only[bn])))|(apply Zk;exact Z;(first|with_reducible assumption|decide +kernel|(solve|simp only[bn]));exact Z;exact Z)|(apply Zg;exact Z;(first|with_reducible assumption|decide +kernel|(solve|simp only[bn])))|(apply Zc;exact Z;(first|with_reducible assumption|decide +kernel|(solve|simp only[bn])))|refine Zo Za Z Z Z Z ?_|refine Zy Za Z Z Z Z Z Z Z Z Z Z Z Z ?_|(apply Zu Za;(iterate 6 exact Z);(first|exact Qt|rotate_left);(first|with_reducible assumption|decide +kernel|exact Z);(first|exact Zi rfl|with_reducible assumption|decide +kernel|rotate_left))|(apply Ww;exact Z;exact Z;(first|exact Qt|rotate_left);exact Z)|(apply Wx;exact Z;exact Z;(first|exact Qt|rotate_left);exact Z))
      refine Lands.mk' (m:=f-1) (by omega) ⟨i+1,o++G,[],[],0,by omega,by omega,by simpa using hoG,rfl,rfl,rfl,.inl ⟨rfl,rfl,rfl⟩⟩ ?_ rfl rfl rfl rfl rfl rfl
      exact .cons rfl (.cons rfl (.cons rfl (.cons rfl (.cons (congrArg D.str hwant) (.cons rfl .nil)))))
     ·repeat'(first|(apply Zh [0,1] [0] (hA1);kernel_rfl;(iterate 10 exact Z))|(apply Zh [0,1] [0] (hO1);kernel_rfl;(iterate 10 exact Z))|(apply Zd (hW);kernel_rfl;(iterate 4 exact Z))|rw[e7]|rw[e8]|rw[ei]|(apply ZF (bs:=[UInt8.ofNat (B.length/256),UInt8.ofNat (B.length % 256)]) Za;(iterate 9 exact Z))|(apply ZF (bs:=B) Za;(iterate 9 exact Z))|(apply ZF (bs:=L++G) Za;exact Z;exact hK2;(iterate 7 exact Z))|(apply Yy;exact Z;exact Z;(first|exact c1|exact c2|exact c5|exact c6);exact Z)|(apply Zj Za;exact Z)|(apply Zf Za;exact Z)|(apply Zr Za;exact Z)|(apply Ze;(iterate 3 exact Z);(first|with_reducible assumption|decide +kernel|(solve|simp only[bn])))|(apply Zk;exact Z;(first|with_reducible assumption|decide +kernel|(solve|simp only[bn]));exact Z;exact Z)|(apply Zg;exact Z;(first|with_reducible assumption|decide +kernel|(solve|simp only[bn])))|(apply Zc;exact Z;(first|with_reducible assumption|decide +kernel|(solve|simp only[bn])))|refine Zo Za Z Z Z Z ?_|refine Zy Za Z Z Z Z Z Z Z Z Z Z Z Z ?_|(apply Zu Za;(iterate 6 exact Z);(first|exact Qt|rotate_left);(first|with_reducible assumption|decide +kernel|exact Z);(first|exact Zi rfl|with_reducible assumption|decide +kernel|rotate_left))|(apply Ww;exact Z;exact Z;(first|exact Qt|rotate_left);exact Z)|(apply Wx;exact Z;exact Z;(first|exact Qt|rotate_left);exact Z))
      refine Lands.mk' (m:=f-1) (by omega) ⟨i+1,o++(L++G),[],[],0,by omega,by omega,by simpa using hoG,rfl,rfl,rfl,.inl ⟨rfl,rfl,rfl⟩⟩ ?_ rfl rfl rfl rfl rfl rfl
      exact .cons rfl (.cons rfl (.cons rfl (.cons rfl (.cons (congrArg D.str hwant) (.cons rfl .nil)))))
    | false=>
     rcases hst with⟨rfl,rfl,rfl⟩ | ⟨rfl,rfl⟩
     ·repeat'(first|(apply Zh [0,1] [] (hA0);kernel_rfl;(iterate 10 exact Z))|(apply Zd (hW);kernel_rfl;(iterate 4 exact Z))|rw[e7]|rw[e8]|rw[ei]|(apply ZF (bs:=[UInt8.ofNat (B.length/256),UInt8.ofNat (B.length % 256)]) Za;(iterate 9 exact Z))|(apply ZF (bs:=B) Za;(iterate 9 exact Z))|(apply Yy;exact Z;exact Z;(first|exact c1|exact c2|exact c5|exact c6);exact Z)|(apply Zj Za;exact Z)|(apply Zf Za;exact Z)|(apply Zr Za;exact Z)|(apply Ze;(iterate 3 exact Z);(first|with_reducible assumption|decide +kernel|(solve|simp only[bn])))|(apply Zk;exact Z;(first|with_reducible assumption|decide +kernel|(solve|simp only[bn]));exact Z;exact Z)|(apply Zg;exact Z;(first|with_reducible assumption|decide +kernel|(solve|simp only[bn])))|(apply Zc;exact Z;(first|with_reducible assumption|decide +kernel|(solve|simp only[bn])))|refine Zo Za Z Z Z Z ?_|refine Zy Za Z Z Z Z Z Z Z Z Z Z Z Z ?_|(apply Zu Za;(iterate 6 exact Z);(first|exact Qt|rotate_left);(first|with_reducible assumption|decide +kernel|exact Z);(first|exact Zi rfl|with_reducible assumption|decide +kernel|rotate_left))|(apply Ww;exact Z;exact Z;(first|exact Qt|rotate_left);exact Z)|(apply Wx;exact Z;exact Z;(first|exact Qt|rotate_left);exact Z))
      refine Lands.mk' (m:=f-1) (by omega) ⟨i+1,o,[]++G,G.map E.byte,_,by omega,by omega,hoG,rfl,rfl,rfl,.inr ⟨rfl,rfl⟩⟩ ?_ rfl rfl rfl rfl rfl rfl
      exact .cons rfl (.cons rfl (.cons rfl (.cons rfl (.cons (congrArg D.str hwant) (.cons rfl .nil)))))
     ·repeat'(first|(apply Zh [0,1] [0] (hA1);kernel_rfl;(iterate 10 exact Z))|(apply Zd (hW);kernel_rfl;(iterate 4 exact Z))|rw[e7]|rw[e8]|rw[ei]|(apply ZF (bs:=[UInt8.ofNat (B.length/256),UInt8.ofNat (B.length % 256)]) Za;(iterate 9 exact Z))|(apply ZF (bs:=B) Za;(iterate 9 exact Z))|(apply Yy;exact Z;exact Z;(first|exact c1|exact c2|exact c5|exact c6);exact Z)|(apply Zj Za;exact Z)|(apply Zf Za;exact Z)|(apply Zr Za;exact Z)|(apply Ze;(iterate 3 exact Z);(first|with_reducible assumption|decide +kernel|(solve|simp only[bn])))|(apply Zk;exact Z;(first|with_reducible assumption|decide +kernel|(solve|simp only[bn]));exact Z;exact Z)|(apply Zg;exact Z;(first|with_reducible assumption|decide +kernel|(solve|simp only[bn])))|(apply Zc;exact Z;(first|with_reducible assumption|decide +kernel|(solve|simp only[bn])))|refine Zo Za Z Z Z Z ?_|refine Zy Za Z Z Z Z Z Z Z Z Z Z Z Z ?_|(apply Zu Za;(iterate 6 exact Z);(first|exact Qt|rotate_left);(first|with_reducible assumption|decide +kernel|exact Z);(first|exact Zi rfl|with_reducible assumption|decide +kernel|rotate_left))|(apply Ww;exact Z;exact Z;(first|exact Qt|rotate_left);exact Z)|(apply Wx;exact Z;exact Z;(first|exact Qt|rotate_left);exact Z))
      refine Lands.mk' (m:=f-1) (by omega) ⟨i+1,o,L++G,K++G.map E.byte,K.length+(G.map E.byte).length,by omega,by omega,hoG,hK2,(List.length_append ..).symm,rfl,.inr ⟨rfl,rfl⟩⟩ ?_ rfl rfl rfl rfl rfl rfl
      exact .cons rfl (.cons rfl (.cons rfl (.cons rfl (.cons (congrArg D.str hwant) (.cons rfl .nil)))))
   ·have ht:decide ((i:Int)<((tk.map E.byte).length:Int))=false:=decide_eq_false (by rw[htl];omega)
    rcases hst with⟨rfl,rfl,rfl⟩ | ⟨rfl,rfl⟩
    ·repeat'(first|(apply Zh [0,1] [] (hA0);kernel_rfl;(iterate 10 exact Z))|(apply Zd (hW);kernel_rfl;(iterate 4 exact Z))|rw[e7]|rw[e8]|rw[ei]|(apply ZF (bs:=[UInt8.ofNat (B.length/256),UInt8.ofNat (B.length % 256)]) Za;(iterate 9 exact Z))|(apply ZF (bs:=B) Za;(iterate 9 exact Z))|(apply Yy;exact Z;exact Z;(first|exact c1|exact c2|exact c5|exact c6);exact Z)|(apply Zj Za;exact Z)|(apply Zf Za;exact Z)|(apply Zr Za;exact Z)|(apply Ze;(iterate 3 exact Z);(first|with_reducible assumption|decide +kernel|(solve|simp only[bn])))|(apply Zq;(iterate 3 exact Z);(first|with_reducible assumption|decide +kernel|(solve|simp only[bn])))|(apply Zk;exact Z;(first|with_reducible assumption|decide +kernel|(solve|simp only[bn]));exact Z;exact Z)|(apply Zm;exact Z;(first|with_reducible assumption|decide +kernel|(solve|simp only[bn]));exact Z;exact Z)|(apply Zg;exact Z;(first|with_reducible assumption|decide +kernel|(solve|simp only[bn])))|(apply Zc;exact Z;(first|with_reducible assumption|decide +kernel|(solve|simp only[bn])))|refine Zo Za Z Z Z Z ?_|refine Zy Za Z Z Z Z Z Z Z Z Z Z Z Z ?_|(apply Zu Za;(iterate 6 exact Z);(first|exact Qt|rotate_left);(first|with_reducible assumption|decide +kernel|exact Z);(first|exact Zi rfl|with_reducible assumption|decide +kernel|rotate_left))|(apply Ww;exact Z;exact Z;(first|exact Qt|rotate_left);exact Z)|(apply Wx;exact Z;exact Z;(first|exact Qt|rotate_left);exact Z))
     refine Lands.mk' (m:=f-1) (by omega) ⟨i+1,o,[]++G,G.map E.byte,_,by omega,by omega,hoG,rfl,rfl,rfl,.inr ⟨rfl,rfl⟩⟩ ?_ rfl rfl rfl rfl rfl rfl
     exact .cons rfl (.cons rfl (.cons rfl (.cons rfl (.cons (congrArg D.str hwant) (.cons rfl .nil)))))
    ·repeat'(first|(apply Zh [0,1] [0] (hA1);kernel_rfl;(iterate 10 exact Z))|(apply Zd (hW);kernel_rfl;(iterate 4 exact Z))|rw[e7]|rw[e8]|rw[ei]|(apply ZF (bs:=[UInt8.ofNat (B.length/256),UInt8.ofNat (B.length % 256)]) Za;(iterate 9 exact Z))|(apply ZF (bs:=B) Za;(iterate 9 exact Z))|(apply Yy;exact Z;exact Z;(first|exact c1|exact c2|exact c5|exact c6);exact Z)|(apply Zj Za;exact Z)|(apply Zf Za;exact Z)|(apply Zr Za;exact Z)|(apply Ze;(iterate 3 exact Z);(first|with_reducible assumption|decide +kernel|(solve|simp only[bn])))|(apply Zq;(iterate 3 exact Z);(first|with_reducible assumption|decide +kernel|(solve|simp only[bn])))|(apply Zk;exact Z;(first|with_reducible assumption|decide +kernel|(solve|simp only[bn]));exact Z;exact Z)|(apply Zm;exact Z;(first|with_reducible assumption|decide +kernel|(solve|simp only[bn]));exact Z;exact Z)|(apply Zg;exact Z;(first|with_reducible assumption|decide +kernel|(solve|simp only[bn])))|(apply Zc;exact Z;(first|with_reducible assumption|decide +kernel|(solve|simp only[bn])))|refine Zo Za Z Z Z Z ?_|refine Zy Za Z Z Z Z Z Z Z Z Z Z Z Z ?_|(apply Zu Za;(iterate 6 exact Z);(first|exact Qt|rotate_left);(first|with_reducible assumption|decide +kernel|exact Z);(first|exact Zi rfl|with_reducible assumption|decide +kernel|rotate_left))|(apply Ww;exact Z;exact Z;(first|exact Qt|rotate_left);exact Z)|(apply Wx;exact Z;exact Z;(first|exact Qt|rotate_left);exact Z))
     refine Lands.mk' (m:=f-1) (by omega) ⟨i+1,o,L++G,K++G.map E.byte,K.length+(G.map E.byte).length,by omega,by omega,hoG,hK2,(List.length_append ..).symm,rfl,.inr ⟨rfl,rfl⟩⟩ ?_ rfl rfl rfl rfl rfl rfl
     exact .cons rfl (.cons rfl (.cons rfl (.cons rfl (.cons (congrArg D.str hwant) (.cons rfl .nil)))))
 ·have hO0:=X2
  have hO1:=JZ K
  have hN0:(([]:List E).length==0)=true:=rfl
  have hdd:decide ((i:Int)<((Vk l).length:Int))=false\/(decide ((i:Int)<((Vk l).length:Int))=true/\decide ((i:Int)<40)=false):=by
   rw[hll]
   rcases Nat.lt_or_ge i l.length with h|h
   ·exact .inr ⟨decide_eq_true (by omega),decide_eq_false (by omega)⟩
   ·exact .inl (decide_eq_false (by omega))
  clear hlen hol
  generalize Yr (l.take i)=w at *
  subst hoL
  have hs:(o++L==o++L)=true:=beq_self_eq_true _
  have hs2:decide (o++L=o++L)=true:=decide_eq_true rfl
  rcases hdd with hd1|⟨hd1,hd2⟩
  all_goals
   rcases hst with⟨rfl,rfl,rfl⟩ | ⟨rfl,rfl⟩
   ·repeat'(first|(apply Zh [0,1] [] (hO0);kernel_rfl;(iterate 10 exact Z))|(apply Zd (hA);kernel_rfl;(iterate 4 exact Z))|(apply ZF (bs:=([]:List UInt8)) Za;(iterate 9 exact Z))|(apply Yy;exact Z;exact Z;(first|exact c1|exact c2|exact c3|exact c4);exact Z)|(apply Zj Za;exact Z)|(apply Zf Za;exact Z)|(apply Zr Za;exact Z)|(apply Ze;(iterate 3 exact Z);(first|with_reducible assumption|decide +kernel|(solve|simp only[bn])))|(apply Zq;(iterate 3 exact Z);(first|with_reducible assumption|decide +kernel|(solve|simp only[bn])))|(apply Zk;exact Z;(first|with_reducible assumption|decide +kernel|(solve|simp only[bn]));exact Z;exact Z)|(apply Zm;exact Z;(first|with_reducible assumption|decide +kernel|(solve|simp only[bn]));exact Z;exact Z)|(apply Zc;exact Z;(first|with_reducible assumption|decide +kernel|(solve|simp only[bn])))|refine Zo Za Z Z Z Z ?_)
    all_goals exact Qe
   ·repeat'(first|(apply Zh [0,1] [0] (hO1);kernel_rfl;(iterate 10 exact Z))|(apply Zh [0,1] [] (hO0);kernel_rfl;(iterate 10 exact Z))|(apply Zd (hA);kernel_rfl;(iterate 4 exact Z))|(apply ZF (bs:=L) Za;exact Z;exact hK;(iterate 7 exact Z))|(apply Yy;exact Z;exact Z;(first|exact c1|exact c2|exact c3|exact c4);exact Z)|(apply Zj Za;exact Z)|(apply Zf Za;exact Z)|(apply Zr Za;exact Z)|(apply Ze;(iterate 3 exact Z);(first|with_reducible assumption|decide +kernel|(solve|simp only[bn])))|(apply Zq;(iterate 3 exact Z);(first|with_reducible assumption|decide +kernel|(solve|simp only[bn])))|(apply Zk;exact Z;(first|with_reducible assumption|decide +kernel|(solve|simp only[bn]));exact Z;exact Z)|(apply Zm;exact Z;(first|with_reducible assumption|decide +kernel|(solve|simp only[bn]));exact Z;exact Z)|(apply Zc;exact Z;(first|with_reducible assumption|decide +kernel|(solve|simp only[bn])))|refine Zo Za Z Z Z Z ?_)
    all_goals exact Qe
theorem J2 {W:World}{v:Value}{b:List UInt8}(h:Sl Rep.byte W (· < W.heap.size) v b):V W (g0 W) [] (byE b) v:=.sl .ext _ _ (ToE.byte.sl (C:=(g0 W).C) (fun k hk o=>hk) h) trivial
abbrev WG:Known:=⟨[]⟩
theorem XI (W:World) : @Gls WG (g0 W).C W:=⟨fun k cs h=>absurd h.1 (by intro hk;cases hk),fun k t h=>absurd h.1 (by intro hk;cases hk)⟩
theorem WH (v0 v1:Value)(x0:List XY)(x1:List UInt8)(W:World)(h0:Sl RY W (· < W.heap.size) v0 x0)(h1:Sl Rep.byte W (· < W.heap.size) v1 x1)(hl:laidMet Tryz.prog Rows.connAnswersRow.laid W) :
  Calls Tryz.prog 3 #[v0,v1] W fun e w'=>e=.returned (.bool true)/\Below W.heap.size W w':=by
 have h:=@WR WG (x0.map XY.v) x1 (@UU WG)
 refine @X6 WG Tryz.prog 3 _ (@AC.mono WG _ _ _ _ _ _ _ h fun r b t h=>h.1) W [v0,v1] (XI W) rfl ?_
 intro j d v hd hv
 match j,hd,hv with
 | 0,hd,hv=>cases hd;cases hv;exact @X1 WG _ _ _ h0
 | 1,hd,hv=>cases hd;cases hv;exact J2 h1
 | j+2,hd,hv=>cases hd
end Go.Proofs.YthdgejfglbjogaaGreatDoor
end
