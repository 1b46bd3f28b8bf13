/- PendLives: what is so is taken out (pdgen2.py). -/
import Derived.Test.YtchlgagdbflkmaaP10
import Derived.Test.YtchlgagdbflkmaaP11
import Derived.Test.YtchlgagdbflkmaaP08
import Derived.Test.YtchlgagdbflkmaaP09
import Derived.Test.YtchlgagdbflkmaaP06
set_option linter.unusedVariables false
set_option linter.unusedSimpArgs false
section
open Go.RowKit Go.Pl Go.Av
namespace Go.Proofs.Ytchlgagdbflkmaa
set_option maxHeartbeats 4000000
theorem JA [Known](x:En)(n:Int):AQ Try.prog 17 [.agg [.int .i64 x.who,.sl .ext (x.data.map E.byte),.int .i64 x.need],.ptr 0 0] [[.int .i64 n]] (.bool (decide (x.need<=n))) [[.int .i64 n]]:=by
 obtain⟨who,data,need⟩:=x
 refine AQ.weak (ZF Try.func17 Z Try.ntmps17 Z Z ?_)
 repeat'(first|(apply Zh Za;exact Z))
 all_goals(apply Wp [0];(apply Zm Za;exact Z);(iterate 4 exact Z))
 all_goals rfl
theorem Uh [Known](x:En)(n:Int):AQ Try.prog 18 [.agg [.int .i64 x.who,.sl .ext (x.data.map E.byte),.int .i64 x.need],.ptr 0 0] [[.int .i64 n]] (.bool (x.who==n)) [[.int .i64 n]]:=by
 obtain⟨who,data,need⟩:=x
 refine AQ.weak (ZF Try.func18 Z Try.ntmps18 Z Z ?_)
 repeat'(first|(apply Zh Za;exact Z))
 all_goals(apply Wp [0];(apply Zm Za;exact Z);(iterate 4 exact Z))
 all_goals rfl
def JB (c:Nat)(o l:List En)(od ld:D)(fr:List Fr):Prop:=
 (o=[]/\l ≠ []/\od=.sl .nil []/\ld=.sl (.own 1) (l.map enE)/\fr=pqF c++pqF l.length) \/
 (o ≠ []/\l=[]/\od=.sl (.own 1) (o.map enE)/\ld=.sl .nil []/\fr=pqF c++pqF o.length) \/
 (o ≠ []/\l ≠ []/\od=.sl (.own 1) (o.map enE)/\ld=.sl (.own 2) (l.map enE)/\fr=pqF c++(pqF o.length++pqF l.length))
def X8 (fid:Nat)(n:Int)(P:En->Bool)(L:List En)(k:Nat)(tm:List (Nat × D))(bx:List (List D))(fr:List Fr):Prop:=
 ∃(i:Nat) (o l:List En) (od ld:D),k+i=L.length/\o=(L.take i).filter P/\l=(L.take i).filter (fun x=>!P x) /\
  tm=[(0,.ptr 0 0),(1,.fn fid [.ptr 1 0]),(5,od),(6,ld),(12,.sl .ext (L.map enE)),(13,.int .i64 ((L.length:Nat):Int)),(14,.int .i64 (i:Int))]/\bx=[[.bool true,.sl (.own 0) (L.map enE)],[.int .i64 n]] /\
  ((o=[]/\l=[]/\od=.sl .nil []/\ld=.sl .nil []/\fr=pqF L.length)\/JB L.length o l od ld fr)
theorem Ve {P:En->Bool}{L:List En}{i:Nat}{x:En}(h:L[i]?=some x):(L.take (i+1)).filter P=(L.take i).filter P++(if P x then [x] else []):=by
 rw[List.take_add_one,h,List.filter_append]
 simp only[Option.toList,List.filter_cons,List.filter_nil]
theorem VA (P:En->Bool)(L:List En)(i:Nat):((L.take i).filter P).length<=L.length:=by
 have h1:=List.length_filter_le P (L.take i)
 rw[List.length_take]at h1
 omega
set_option maxRecDepth 10000 in
theorem Vi [Known](fid:Nat)(n:Int)(P:En->Bool)(hfn:W1 Try.prog fid=true)(hP:∀ x:En,AQ Try.prog fid [.agg [.int .i64 x.who,.sl .ext (x.data.map E.byte),.int .i64 x.need],.ptr 0 0] [[.int .i64 n]] (.bool (P x)) [[.int .i64 n]])(L:List En)(hL:L ≠ [])(h64:L.length<=64)(od ld:D)(fr:List Fr)(hr:JB L.length (L.filter P) (L.filter (fun x=>!P x)) od ld fr) :
  AT Try.prog 16 [.ptr 0 0,.fn fid [.ptr 1 0]] [[.bool true,.sl (.own 0) (L.map enE)],[.int .i64 n]] (pqF L.length) od [[.bool true,ld],[.int .i64 n]] fr:=by
 have hLl:(L.map enE).length=L.length:=List.length_map ..
 have hUL:=WT L
 refine ZF Try.func16 rfl Try.ntmps16 rfl rfl ?_
 repeat'(first|(apply Zk Za;exact Z)|(apply Zh Za;exact Z)|refine Zo Za Z Z Z Z ?_)
 refine UK (X8 fid n P L) (L.length+1) (LandS.mk' (m:=L.length) (tm1:=[(0,.ptr 0 0),(1,.fn fid [.ptr 1 0]),(5,.sl .nil []),(6,.sl .nil []),(12,.sl .ext (L.map enE)),(13,.int .i64 ((L.length:Nat):Int)),(14,.int .i64 ((0:Nat):Int))]) [0,1] [0] (Nat.lt_succ_self _) ⟨0,[],[],.sl .nil [],.sl .nil [],rfl,rfl,rfl,rfl,rfl,.inl ⟨rfl,rfl,rfl,rfl,rfl⟩⟩ rfl rfl rfl rfl ?_ rfl rfl rfl) ?_
 ·exact .cons rfl (.cons rfl (.cons rfl (.cons rfl (.wk rfl (.cons (congrArg (fun n:Nat=>D.int .i64 (n:Int)) hLl) (.cons rfl .nil))))))
 rintro k tm bx fr' ⟨i,o,l,od',ld',hk,ho,hl,rfl,rfl,hst⟩
 have hUo:=WT o
 have hUl:=WT l
 have hol:=VA P L i
 have hll:=VA (fun x=>!P x) L i
 rw[<- ho]at hol
 rw[<- hl]at hll
 have hom:(o.map enE).length=o.length:=List.length_map ..
 have hlm:(l.map enE).length=l.length:=List.length_map ..
 rcases Nat.lt_or_ge i L.length with hlt|hge
 ·have hd:decide ((i:Int)<((L.length:Nat):Int))=true:=decide_eq_true (by omega)
  obtain⟨x,hx⟩:∃ x,L[i]?=some x:=⟨_,List.getElem?_eq_getElem hlt⟩
  have hxe:(L.map enE)[((i:Nat):Int).toNat]?=some (enE x):=by rw[Int.toNat_natCast,List.getElem?_map,hx];rfl
  have ei:IntKind.i64.wrap ((i:Int)+1)=((i+1:Nat):Int):=by rw[IntWalk.i64_in _ (by omega)];omega
  have hq:=hP x
  have hfo:=Ve (P:=P) hx
  have hfl:=Ve (P:=fun x=>!P x) hx
  rw[<- ho]at hfo
  rw[<- hl]at hfl
  obtain⟨who,data,need⟩:=x
  dsimp only at hq
  cases hp:P ⟨who,data,need⟩ with
  | true=>
   rw[hp]at hq
   simp only[hp,if_true,Bool.not_true,Bool.not_false,Bool.false_eq_true,if_false,List.append_nil]at hfo hfl
   rcases hst with⟨rfl,rfl,rfl,rfl,rfl⟩ | ⟨rfl,hl0,rfl,rfl,rfl⟩ | ⟨ho0,rfl,rfl,rfl,rfl⟩ | ⟨ho0,hl0,rfl,rfl,rfl⟩
   ·repeat'(first|rw[ei]|(apply Ys [1] hq;exact Z;exact hfn;(iterate 7 exact Z))|refine Z1 Za Z Z Z Z Z Z (Zg rfl) (List.cons_ne_nil _ _) Z Qd Qd Z Z Z ?_|(apply Zk Za;exact Z)|(apply Zh Za;exact Z)|(apply Zr Za;exact Z)|(apply Zf;exact Z;(first|with_reducible assumption|decide +kernel|(solve|simp only[bn])))|refine ZY Za Z Z Z Z Z Z Z Z Z Z Z Z ?_|(apply Zv Za;(iterate 6 exact Z);(first|exact Qt|rotate_left);(first|with_reducible assumption|decide +kernel|exact Z);(first|exact Zg rfl|with_reducible assumption|decide +kernel|rotate_left)))
    ·refine LandS.mk' (m:=k-1) (tm1:=[(0,.ptr 0 0),(1,.fn fid [.ptr 1 0]),(5,.sl (.own 2) (([]++[(⟨who,data,need⟩:En)]).map enE)),(6,.sl .nil []),(12,.sl .ext (L.map enE)),(13,.int .i64 ((L.length:Nat):Int)),(14,.int .i64 ((i+1:Nat):Int))]) [0,1] [0,2] (by omega) ⟨i+1,([]++[(⟨who,data,need⟩:En)]),[],.sl (.own 1) (([]++[(⟨who,data,need⟩:En)]).map enE),.sl .nil [],by omega,hfo.symm,hfl.symm,rfl,rfl,.inr (.inr (.inl ⟨by simp,rfl,rfl,rfl,rfl⟩))⟩ rfl rfl rfl rfl ?_ rfl rfl rfl
     exact .cons rfl (.cons rfl (.cons rfl (.cons rfl (.cons rfl (.cons rfl (.cons rfl .nil))))))
    all_goals first|(show 1<=maxLen;decide)|(show 1*40<=140737488355328;decide)
   ·repeat'(first|rw[ei]|(apply Ys [1] hq;exact Z;exact hfn;(iterate 7 exact Z))|refine Z1 Za Z Z Z Z Z Z (Zg rfl) (List.cons_ne_nil _ _) Z Qd Qd Z Z Z ?_|(apply Zk Za;exact Z)|(apply Zh Za;exact Z)|(apply Zr Za;exact Z)|(apply Zf;exact Z;(first|with_reducible assumption|decide +kernel|(solve|simp only[bn])))|refine ZY Za Z Z Z Z Z Z Z Z Z Z Z Z ?_|(apply Zv Za;(iterate 6 exact Z);(first|exact Qt|rotate_left);(first|with_reducible assumption|decide +kernel|exact Z);(first|exact Zg rfl|with_reducible assumption|decide +kernel|rotate_left)))
    ·refine LandS.mk' (m:=k-1) (tm1:=[(0,.ptr 0 0),(1,.fn fid [.ptr 1 0]),(5,.sl (.own 3) (([]++[(⟨who,data,need⟩:En)]).map enE)),(6,.sl (.own 1) (l.map enE)),(12,.sl .ext (L.map enE)),(13,.int .i64 ((L.length:Nat):Int)),(14,.int .i64 ((i+1:Nat):Int))]) [0,1] [0,3,1] (by omega) ⟨i+1,([]++[(⟨who,data,need⟩:En)]),l,.sl (.own 1) (([]++[(⟨who,data,need⟩:En)]).map enE),.sl (.own 2) (l.map enE),by omega,hfo.symm,hfl.symm,rfl,rfl,.inr (.inr (.inr ⟨by simp,hl0,rfl,rfl,rfl⟩))⟩ rfl rfl rfl rfl ?_ rfl rfl rfl
     exact .cons rfl (.cons rfl (.cons rfl (.cons rfl (.cons rfl (.cons rfl (.cons rfl .nil))))))
    all_goals first|(show 1<=maxLen;decide)|(show 1*40<=140737488355328;decide)
   ·repeat'(first|rw[ei]|(apply Ys [1] hq;exact Z;exact hfn;(iterate 7 exact Z))|(apply Zk Za;exact Z)|(apply Zh Za;exact Z)|(apply Zr Za;exact Z)|(apply Zf;exact Z;(first|with_reducible assumption|decide +kernel|(solve|simp only[bn])))|refine ZY Za Z Z Z Z Z Z Z Z Z Z Z Z ?_|(apply Yr Za;(iterate 6 exact Z);(first|with_reducible assumption|decide +kernel|exact Z|rotate_left);exact Z;exact Z;(first|exact Zg rfl|with_reducible assumption|decide +kernel|rotate_left);(first|exact Zg rfl|with_reducible assumption|decide +kernel|rotate_left);(first|exact Qt|rotate_left);(first|exact Qt|rotate_left);(first|exact Qt|rotate_left);exact Z;exact Z)|(apply Zv Za;(iterate 6 exact Z);(first|exact Qt|rotate_left);(first|with_reducible assumption|decide +kernel|exact Z);(first|exact Zg rfl|with_reducible assumption|decide +kernel|rotate_left)))
    ·refine LandS.mk' (m:=k-1) (tm1:=[(0,.ptr 0 0),(1,.fn fid [.ptr 1 0]),(5,.sl (.own 1) ((o++[(⟨who,data,need⟩:En)]).map enE)),(6,.sl .nil []),(12,.sl .ext (L.map enE)),(13,.int .i64 ((L.length:Nat):Int)),(14,.int .i64 ((i+1:Nat):Int))]) [0,1] [0,1] (by omega) ⟨i+1,(o++[(⟨who,data,need⟩:En)]),[],.sl (.own 1) ((o++[(⟨who,data,need⟩:En)]).map enE),.sl .nil [],by omega,hfo.symm,hfl.symm,rfl,rfl,.inr (.inr (.inl ⟨by simp,rfl,rfl,rfl,rfl⟩))⟩ rfl rfl rfl rfl ?_ rfl rfl (by rw[List.length_append,hom.symm];rfl)
     exact .cons rfl (.cons rfl (.cons (by rw[List.map_append];rfl) (.cons rfl (.cons rfl (.cons rfl (.cons rfl .nil))))))
    all_goals first|(show(o.map enE).length+1<=maxLen;unfold maxLen;omega)|(show((o.map enE).length+1)*40<=140737488355328;omega)|exact hom.symm
   ·repeat'(first|rw[ei]|(apply Ys [1] hq;exact Z;exact hfn;(iterate 7 exact Z))|(apply Zk Za;exact Z)|(apply Zh Za;exact Z)|(apply Zr Za;exact Z)|(apply Zf;exact Z;(first|with_reducible assumption|decide +kernel|(solve|simp only[bn])))|refine ZY Za Z Z Z Z Z Z Z Z Z Z Z Z ?_|(apply Yr Za;(iterate 6 exact Z);(first|with_reducible assumption|decide +kernel|exact Z|rotate_left);exact Z;exact Z;(first|exact Zg rfl|with_reducible assumption|decide +kernel|rotate_left);(first|exact Zg rfl|with_reducible assumption|decide +kernel|rotate_left);(first|exact Qt|rotate_left);(first|exact Qt|rotate_left);(first|exact Qt|rotate_left);exact Z;exact Z)|(apply Zv Za;(iterate 6 exact Z);(first|exact Qt|rotate_left);(first|with_reducible assumption|decide +kernel|exact Z);(first|exact Zg rfl|with_reducible assumption|decide +kernel|rotate_left)))
    ·refine LandS.mk' (m:=k-1) (tm1:=[(0,.ptr 0 0),(1,.fn fid [.ptr 1 0]),(5,.sl (.own 1) ((o++[(⟨who,data,need⟩:En)]).map enE)),(6,.sl (.own 2) (l.map enE)),(12,.sl .ext (L.map enE)),(13,.int .i64 ((L.length:Nat):Int)),(14,.int .i64 ((i+1:Nat):Int))]) [0,1] [0,1,2] (by omega) ⟨i+1,(o++[(⟨who,data,need⟩:En)]),l,.sl (.own 1) ((o++[(⟨who,data,need⟩:En)]).map enE),.sl (.own 2) (l.map enE),by omega,hfo.symm,hfl.symm,rfl,rfl,.inr (.inr (.inr ⟨by simp,hl0,rfl,rfl,rfl⟩))⟩ rfl rfl rfl rfl ?_ rfl rfl (by rw[List.length_append,hom.symm];rfl)
     exact .cons rfl (.cons rfl (.cons (by rw[List.map_append];rfl) (.cons rfl (.cons rfl (.cons rfl (.cons rfl .nil))))))
    all_goals first|(show(o.map enE).length+1<=maxLen;unfold maxLen;omega)|(show((o.map enE).length+1)*40<=140737488355328;omega)|exact hom.symm
  | false=>
   rw[hp]at hq
   simp only[hp,if_true,Bool.not_true,Bool.not_false,Bool.false_eq_true,if_false,List.append_nil]at hfo hfl
   rcases hst with⟨rfl,rfl,rfl,rfl,rfl⟩ | ⟨rfl,hl0,rfl,rfl,rfl⟩ | ⟨ho0,rfl,rfl,rfl,rfl⟩ | ⟨ho0,hl0,rfl,rfl,rfl⟩
   ·repeat'(first|rw[ei]|(apply Ys [1] hq;exact Z;exact hfn;(iterate 7 exact Z))|refine Z1 Za Z Z Z Z Z Z (Zg rfl) (List.cons_ne_nil _ _) Z Qd Qd Z Z Z ?_|(apply Zk Za;exact Z)|(apply Zh Za;exact Z)|(apply Zr Za;exact Z)|(apply Zf;exact Z;(first|with_reducible assumption|decide +kernel|(solve|simp only[bn])))|(apply Zd;exact Z;(first|with_reducible assumption|decide +kernel|(solve|simp only[bn])))|refine ZY Za Z Z Z Z Z Z Z Z Z Z Z Z ?_|(apply Zv Za;(iterate 6 exact Z);(first|exact Qt|rotate_left);(first|with_reducible assumption|decide +kernel|exact Z);(first|exact Zg rfl|with_reducible assumption|decide +kernel|rotate_left)))
    ·refine LandS.mk' (m:=k-1) (tm1:=[(0,.ptr 0 0),(1,.fn fid [.ptr 1 0]),(5,.sl .nil []),(6,.sl (.own 2) (([]++[(⟨who,data,need⟩:En)]).map enE)),(12,.sl .ext (L.map enE)),(13,.int .i64 ((L.length:Nat):Int)),(14,.int .i64 ((i+1:Nat):Int))]) [0,1] [0,2] (by omega) ⟨i+1,[],([]++[(⟨who,data,need⟩:En)]),.sl .nil [],.sl (.own 1) (([]++[(⟨who,data,need⟩:En)]).map enE),by omega,hfo.symm,hfl.symm,rfl,rfl,.inr (.inl ⟨rfl,by simp,rfl,rfl,rfl⟩)⟩ rfl rfl rfl rfl ?_ rfl rfl rfl
     exact .cons rfl (.cons rfl (.cons rfl (.cons rfl (.cons rfl (.cons rfl (.cons rfl .nil))))))
    all_goals first|(show 1<=maxLen;decide)|(show 1*40<=140737488355328;decide)
   ·repeat'(first|rw[ei]|(apply Ys [1] hq;exact Z;exact hfn;(iterate 7 exact Z))|(apply Zk Za;exact Z)|(apply Zh Za;exact Z)|(apply Zr Za;exact Z)|(apply Zf;exact Z;(first|with_reducible assumption|decide +kernel|(solve|simp only[bn])))|(apply Zd;exact Z;(first|with_reducible assumption|decide +kernel|(solve|simp only[bn])))|refine ZY Za Z Z Z Z Z Z Z Z Z Z Z Z ?_|(apply Yr Za;(iterate 6 exact Z);(first|with_reducible assumption|decide +kernel|exact Z|rotate_left);exact Z;exact Z;(first|exact Zg rfl|with_reducible assumption|decide +kernel|rotate_left);(first|exact Zg rfl|with_reducible assumption|decide +kernel|rotate_left);(first|exact Qt|rotate_left);(first|exact Qt|rotate_left);(first|exact Qt|rotate_left);exact Z;exact Z)|(apply Zv Za;(iterate 6 exact Z);(first|exact Qt|rotate_left);(first|with_reducible assumption|decide +kernel|exact Z);(first|exact Zg rfl|with_reducible assumption|decide +kernel|rotate_left)))
    ·refine LandS.mk' (m:=k-1) (tm1:=[(0,.ptr 0 0),(1,.fn fid [.ptr 1 0]),(5,.sl .nil []),(6,.sl (.own 1) ((l++[(⟨who,data,need⟩:En)]).map enE)),(12,.sl .ext (L.map enE)),(13,.int .i64 ((L.length:Nat):Int)),(14,.int .i64 ((i+1:Nat):Int))]) [0,1] [0,1] (by omega) ⟨i+1,[],(l++[(⟨who,data,need⟩:En)]),.sl .nil [],.sl (.own 1) ((l++[(⟨who,data,need⟩:En)]).map enE),by omega,hfo.symm,hfl.symm,rfl,rfl,.inr (.inl ⟨rfl,by simp,rfl,rfl,rfl⟩)⟩ rfl rfl rfl rfl ?_ rfl rfl (by rw[List.length_append,hlm.symm];rfl)
     exact .cons rfl (.cons rfl (.cons rfl (.cons (by rw[List.map_append];rfl) (.cons rfl (.cons rfl (.cons rfl .nil))))))
    all_goals first|(show(l.map enE).length+1<=maxLen;unfold maxLen;omega)|(show((l.map enE).length+1)*40<=140737488355328;omega)|exact hlm.symm
   ·repeat'(first|rw[ei]|(apply Ys [1] hq;exact Z;exact hfn;(iterate 7 exact Z))|refine Z1 Za Z Z Z Z Z Z (Zg rfl) (List.cons_ne_nil _ _) Z Qd Qd Z Z Z ?_|(apply Zk Za;exact Z)|(apply Zh Za;exact Z)|(apply Zr Za;exact Z)|(apply Zf;exact Z;(first|with_reducible assumption|decide +kernel|(solve|simp only[bn])))|(apply Zd;exact Z;(first|with_reducible assumption|decide +kernel|(solve|simp only[bn])))|refine ZY Za Z Z Z Z Z Z Z Z Z Z Z Z ?_|(apply Zv Za;(iterate 6 exact Z);(first|exact Qt|rotate_left);(first|with_reducible assumption|decide +kernel|exact Z);(first|exact Zg rfl|with_reducible assumption|decide +kernel|rotate_left)))
    ·refine LandS.mk' (m:=k-1) (tm1:=[(0,.ptr 0 0),(1,.fn fid [.ptr 1 0]),(5,.sl (.own 1) (o.map enE)),(6,.sl (.own 3) (([]++[(⟨who,data,need⟩:En)]).map enE)),(12,.sl .ext (L.map enE)),(13,.int .i64 ((L.length:Nat):Int)),(14,.int .i64 ((i+1:Nat):Int))]) [0,1] [0,1,3] (by omega) ⟨i+1,o,([]++[(⟨who,data,need⟩:En)]),.sl (.own 1) (o.map enE),.sl (.own 2) (([]++[(⟨who,data,need⟩:En)]).map enE),by omega,hfo.symm,hfl.symm,rfl,rfl,.inr (.inr (.inr ⟨ho0,by simp,rfl,rfl,rfl⟩))⟩ rfl rfl rfl rfl ?_ rfl rfl rfl
     exact .cons rfl (.cons rfl (.cons rfl (.cons rfl (.cons rfl (.cons rfl (.cons rfl .nil))))))
    all_goals first|(show 1<=maxLen;decide)|(show 1*40<=140737488355328;decide)
   ·repeat'(first|rw[ei]|(apply Ys [1] hq;exact Z;exact hfn;(iterate 7 exact Z))|(apply Zk Za;exact Z)|(apply Zh Za;exact Z)|(apply Zr Za;exact Z)|(apply Zf;exact Z;(first|with_reducible assumption|decide +kernel|(solve|simp only[bn])))|(apply Zd;exact Z;(first|with_reducible assumption|decide +kernel|(solve|simp only[bn])))|refine ZY Za Z Z Z Z Z Z Z Z Z Z Z Z ?_|(apply Yr Za;(iterate 6 exact Z);(first|with_reducible assumption|decide +kernel|exact Z|rotate_left);exact Z;exact Z;(first|exact Zg rfl|with_reducible assumption|decide +kernel|rotate_left);(first|exact Zg rfl|with_reducible assumption|decide +kernel|rotate_left);(first|exact Qt|rotate_left);(first|exact Qt|rotate_left);(first|exact Qt|rotate_left);exact Z;exact Z)|(apply Zv Za;(iterate 6 exact Z);(first|exact Qt|rotate_left);(first|with_reducible assumption|decide +kernel|exact Z);(first|exact Zg rfl|with_reducible assumption|decide +kernel|rotate_left)))
    ·refine LandS.mk' (m:=k-1) (tm1:=[(0,.ptr 0 0),(1,.fn fid [.ptr 1 0]),(5,.sl (.own 1) (o.map enE)),(6,.sl (.own 2) ((l++[(⟨who,data,need⟩:En)]).map enE)),(12,.sl .ext (L.map enE)),(13,.int .i64 ((L.length:Nat):Int)),(14,.int .i64 ((i+1:Nat):Int))]) [0,1] [0,1,2] (by omega) ⟨i+1,o,(l++[(⟨who,data,need⟩:En)]),.sl (.own 1) (o.map enE),.sl (.own 2) ((l++[(⟨who,data,need⟩:En)]).map enE),by omega,hfo.symm,hfl.symm,rfl,rfl,.inr (.inr (.inr ⟨ho0,by simp,rfl,rfl,rfl⟩))⟩ rfl rfl rfl rfl ?_ rfl rfl (by rw[List.length_append,hlm.symm];rfl)
     exact .cons rfl (.cons rfl (.cons rfl (.cons (by rw[List.map_append];rfl) (.cons rfl (.cons rfl (.cons rfl .nil))))))
    all_goals first|(show(l.map enE).length+1<=maxLen;unfold maxLen;omega)|(show((l.map enE).length+1)*40<=140737488355328;omega)|exact hlm.symm
 ·have hd:decide ((i:Int)<((L.length:Nat):Int))=false:=decide_eq_false (by omega)
  have hLt:L.take i=L:=List.take_of_length_le hge
  rw[hLt]at ho hl
  subst ho hl
  rcases hst with⟨ho0,hl0,_⟩ | hst
  ·exfalso
   have h1:∀ x ∈ L,P x=false:=fun x hx=>by
    have:=List.filter_eq_nil_iff.1 ho0 x hx
    simpa using this
   cases L with
   | nil=>exact hL rfl
   | cons x L=>
    have h2:=List.filter_eq_nil_iff.1 hl0 x (List.mem_cons_self ..)
    rw[h1 x (List.mem_cons_self ..)]at h2
    exact h2 rfl
  rcases hst with⟨ho0,hl0,rfl,rfl,rfl⟩ | ⟨ho0,hl0,rfl,rfl,rfl⟩ | ⟨ho0,hl0,rfl,rfl,rfl⟩
  ·rcases hr with⟨_,_,rfl,rfl,rfl⟩ | ⟨h,_⟩ | ⟨h,_⟩
   ·repeat'(first|(apply Zh Za;exact Z)|(apply Zd;exact Z;(first|with_reducible assumption|decide +kernel|(solve|simp only[bn]))))
    all_goals(apply Yu [0,1] [0,1];(apply Zm Za;exact Z);(iterate 7 exact Z))
    all_goals rfl
   ·exact(h ho0).elim
   ·exact(h ho0).elim
  ·rcases hr with⟨h,_⟩ | ⟨_,_,rfl,rfl,rfl⟩ | ⟨_,h,_⟩
   ·exact(ho0 h).elim
   ·repeat'(first|(apply Zh Za;exact Z)|(apply Zd;exact Z;(first|with_reducible assumption|decide +kernel|(solve|simp only[bn]))))
    all_goals(apply Yu [0,1] [0,1];(apply Zm Za;exact Z);(iterate 7 exact Z))
    all_goals rfl
   ·exact(h hl0).elim
  ·rcases hr with⟨h,_⟩ | ⟨_,h,_⟩ | ⟨_,_,rfl,rfl,rfl⟩
   ·exact(ho0 h).elim
   ·exact(hl0 h).elim
   ·repeat'(first|(apply Zh Za;exact Z)|(apply Zd;exact Z;(first|with_reducible assumption|decide +kernel|(solve|simp only[bn]))))
    all_goals(apply Yu [0,1] [0,1,2];(apply Zm Za;exact Z);(iterate 7 exact Z))
    all_goals rfl
theorem UL [Known](fid:Nat)(n:Int)(m:Bool):AT Try.prog 16 [.ptr 0 0,.fn fid [.ptr 1 0]] [[.bool m,.sl .nil []],[.int .i64 n]] [] (.sl .nil []) [[.bool m,.sl .nil []],[.int .i64 n]] []:=by
 refine ZF Try.func16 rfl Try.ntmps16 rfl rfl ?_
 repeat'(first|refine ZW 2 ?_|refine Yb ?_|(apply Zk Za;exact Z)|(apply Zh Za;exact Z)|(apply Zd;exact Z;(first|with_reducible assumption|decide +kernel|(solve|simp only[bn])))|refine Zo Za Z Z Z Z ?_)
 all_goals(apply Yu [0,1] [];(apply Zm Za;exact Z);(iterate 7 exact Z))
 all_goals rfl
def X9 (c:Nat)(l:List En)(ld:D)(fr:List Fr):Prop:=
 (l ≠ []/\ld=.sl (.own 1) (l.map enE)/\fr=pqF c++pqF l.length)\/(l=[]/\ld=.sl .nil []/\fr=pqF c)
theorem Qs (P:En->Bool){L:List En}(hL:L ≠ [])(h1:L.filter P=[]):L.filter (fun x=>!P x) ≠ []:=by
 intro h2
 cases L with
 | nil=>exact hL rfl
 | cons x L=>
  have a:=List.filter_eq_nil_iff.1 h1 x (List.mem_cons_self ..)
  have b:=List.filter_eq_nil_iff.1 h2 x (List.mem_cons_self ..)
  cases hp:P x<;>rw[hp]at a b<;>simp at a b
theorem WA [Known](n:Int)(m:Bool):AT Try.prog 8 [.ptr 0 0,.int .i64 n] [[.bool m,.sl .nil []]] [] (.sl .nil []) [[.bool m,.sl .nil []]] []:=by
 have hP:=UL 17 n m
 refine ZF Try.func8 rfl Try.ntmps8 rfl rfl ?_
 repeat'(first|(apply Zc [0,1] [] (hP);kernel_rfl;(iterate 10 exact Z))|(apply Zk Za;exact Z)|(apply Zh Za;exact Z)|(apply Zd;exact Z;(first|with_reducible assumption|decide +kernel|(solve|simp only[bn]))))
 all_goals(apply Yu [0] [];(apply Zm Za;exact Z);(iterate 7 exact Z))
 all_goals rfl
theorem QU [Known](n:Int):AP Try.prog 8 [.nilp,.int .i64 n] (.sl .ext []) []:=by
 refine AP.ofA (ZF Try.func8 Z Try.ntmps8 Z Z ?_)
 repeat'(first|(apply Zh Za;exact Z)|(apply Zr Za;exact Z)|(apply Zf;exact Z;(first|with_reducible assumption|decide +kernel|(solve|simp only[bn]))))
 all_goals exact Qe
theorem Ws [Known](n:Int)(L:List En)(hL:L ≠ [])(h64:L.length<=64)(od ld:D)(fr:List Fr)(hr:JB L.length (L.filter (fun x=>decide (x.need<=n))) (L.filter (fun x=>!decide (x.need<=n))) od ld fr) :
  AT Try.prog 8 [.ptr 0 0,.int .i64 n] [[.bool true,.sl (.own 0) (L.map enE)]] (pqF L.length) od [[.bool true,ld]] fr:=by
 have hP:=Vi 17 n (fun x=>decide (x.need<=n)) (by kernel_rfl) (fun x=>JA x n) L hL h64 od ld fr hr
 rcases hr with⟨_,_,rfl,rfl,rfl⟩ | ⟨_,_,rfl,rfl,rfl⟩ | ⟨_,_,rfl,rfl,rfl⟩
 ·refine ZF Try.func8 rfl Try.ntmps8 rfl rfl ?_
  repeat'(first|(apply Zc [0,1] [0] (hP);kernel_rfl;(iterate 10 exact Z))|(apply Zk Za;exact Z)|(apply Zh Za;exact Z)|(apply Zd;exact Z;(first|with_reducible assumption|decide +kernel|(solve|simp only[bn]))))
  all_goals(apply Yu [0] [0,1];(apply Zm Za;exact Z);(iterate 7 exact Z))
  all_goals rfl
 ·refine ZF Try.func8 rfl Try.ntmps8 rfl rfl ?_
  repeat'(first|(apply Zc [0,1] [0] (hP);kernel_rfl;(iterate 10 exact Z))|(apply Zk Za;exact Z)|(apply Zh Za;exact Z)|(apply Zd;exact Z;(first|with_reducible assumption|decide +kernel|(solve|simp only[bn]))))
  all_goals(apply Yu [0] [0,1];(apply Zm Za;exact Z);(iterate 7 exact Z))
  all_goals rfl
 ·refine ZF Try.func8 rfl Try.ntmps8 rfl rfl ?_
  repeat'(first|(apply Zc [0,1] [0] (hP);kernel_rfl;(iterate 10 exact Z))|(apply Zk Za;exact Z)|(apply Zh Za;exact Z)|(apply Zd;exact Z;(first|with_reducible assumption|decide +kernel|(solve|simp only[bn]))))
  all_goals(apply Yu [0] [0,1,2];(apply Zm Za;exact Z);(iterate 7 exact Z))
  all_goals rfl
theorem UM [Known](n:Int)(m:Bool):AT Try.prog 10 [.ptr 0 0,.int .i64 n] [[.bool m,.sl .nil []]] [] (.int .i64 0) [[.bool m,.sl .nil []]] []:=by
 have hP:=UL 18 n m
 refine ZF Try.func10 rfl Try.ntmps10 rfl rfl ?_
 repeat'(first|(apply Zc [0,1] [] (hP);kernel_rfl;(iterate 10 exact Z))|(apply Zk Za;exact Z)|(apply Zh Za;exact Z)|(apply Zd;exact Z;(first|with_reducible assumption|decide +kernel|(solve|simp only[bn])))|refine Zo Za Z Z Z Z ?_)
 all_goals(apply Yu [0] [];(apply Zm Za;exact Z);(iterate 7 exact Z))
 all_goals rfl
theorem JC [Known](n:Int):AP Try.prog 10 [.nilp,.int .i64 n] (.int .i64 0) []:=by
 refine AP.ofA (ZF Try.func10 Z Try.ntmps10 Z Z ?_)
 repeat'(first|(apply Zh Za;exact Z)|(apply Zr Za;exact Z)|(apply Zf;exact Z;(first|with_reducible assumption|decide +kernel|(solve|simp only[bn]))))
 all_goals exact Qe
theorem Ui [Known](n:Int)(L:List En)(hL:L ≠ [])(h64:L.length<=64)(ld:D)(fr:List Fr)(hr:X9 L.length (L.filter (fun x=>!(x.who==n))) ld fr) :
  AT Try.prog 10 [.ptr 0 0,.int .i64 n] [[.bool true,.sl (.own 0) (L.map enE)]] (pqF L.length) (.int .i64 (((L.filter (fun x=>x.who==n)).length:Nat):Int)) [[.bool true,ld]] fr:=by
 by_cases ho:L.filter (fun x=>x.who==n)=[]
 ·have hl:=Qs (fun x=>x.who==n) hL ho
  have hP:=Vi 18 n (fun x=>x.who==n) (by kernel_rfl) (fun x=>Uh x n) L hL h64 _ _ _ (.inl ⟨ho,hl,rfl,rfl,rfl⟩)
  rcases hr with⟨_,rfl,rfl⟩ | ⟨h,_⟩
  ·rw[ho]
   refine ZF Try.func10 rfl Try.ntmps10 rfl rfl ?_
   repeat'(first|(apply Zc [0,1] [0] (hP);kernel_rfl;(iterate 10 exact Z))|(apply Zk Za;exact Z)|(apply Zh Za;exact Z)|(apply Zd;exact Z;(first|with_reducible assumption|decide +kernel|(solve|simp only[bn])))|refine Zo Za Z Z Z Z ?_)
   all_goals(apply Yu [0] [0,1];(apply Zm Za;exact Z);(iterate 7 exact Z))
   all_goals rfl
  ·exact(hl h).elim
 ·have hlm:((L.filter (fun x=>x.who==n)).map enE).length=(L.filter (fun x=>x.who==n)).length:=List.length_map ..
  rcases hr with⟨hl,rfl,rfl⟩ | ⟨hl,rfl,rfl⟩
  ·have hP:=Vi 18 n (fun x=>x.who==n) (by kernel_rfl) (fun x=>Uh x n) L hL h64 _ _ _ (.inr (.inr ⟨ho,hl,rfl,rfl,rfl⟩))
   generalize L.filter (fun x=>x.who==n)=o at *
   refine ZF Try.func10 rfl Try.ntmps10 rfl rfl ?_
   repeat'(first|(apply Zc [0,1] [0] (hP);kernel_rfl;(iterate 10 exact Z))|(apply Zk Za;exact Z)|(apply Zh Za;exact Z)|(apply Zd;exact Z;(first|with_reducible assumption|decide +kernel|(solve|simp only[bn])))|refine Zo Za Z Z Z Z ?_)
   all_goals(apply Yu [0] [0,2];(apply Zm Za;exact Z);(iterate 7 exact Z))
   all_goals first|rfl|exact congrArg (fun n:Nat=>D.int .i64 (n:Int)) hlm
  ·have hP:=Vi 18 n (fun x=>x.who==n) (by kernel_rfl) (fun x=>Uh x n) L hL h64 _ _ _ (.inr (.inl ⟨ho,hl,rfl,rfl,rfl⟩))
   generalize L.filter (fun x=>x.who==n)=o at *
   refine ZF Try.func10 rfl Try.ntmps10 rfl rfl ?_
   repeat'(first|(apply Zc [0,1] [0] (hP);kernel_rfl;(iterate 10 exact Z))|(apply Zk Za;exact Z)|(apply Zh Za;exact Z)|(apply Zd;exact Z;(first|with_reducible assumption|decide +kernel|(solve|simp only[bn])))|refine Zo Za Z Z Z Z ?_)
   all_goals(apply Yu [0] [0];(apply Zm Za;exact Z);(iterate 7 exact Z))
   all_goals first|rfl|exact congrArg (fun n:Nat=>D.int .i64 (n:Int)) hlm
theorem Z3 [Known](m:Bool):AT Try.prog 13 [.ptr 0 0] [[.bool m,.sl .nil []]] [] (.int .i64 0) [[.bool m,.sl .nil []]] []:=by
 refine ZF Try.func13 rfl Try.ntmps13 rfl rfl ?_
 repeat'(first|(apply Zk Za;exact Z)|(apply Zh Za;exact Z)|(apply Zd;exact Z;(first|with_reducible assumption|decide +kernel|(solve|simp only[bn])))|refine Zo Za Z Z Z Z ?_)
 all_goals(apply Yu [0] [];(apply Zm Za;exact Z);(iterate 7 exact Z))
 all_goals rfl
theorem Yf [Known](L:List E)(k:Nat):AT Try.prog 13 [.ptr 0 0] [[.bool true,.sl (.own 0) L]] (pqF k) (.int .i64 (L.length:Int)) [[.bool true,.sl (.own 0) L]] (pqF k):=by
 refine ZF Try.func13 rfl Try.ntmps13 rfl rfl ?_
 repeat'(first|(apply Zk Za;exact Z)|(apply Zh Za;exact Z)|(apply Zd;exact Z;(first|with_reducible assumption|decide +kernel|(solve|simp only[bn])))|refine Zo Za Z Z Z Z ?_)
 all_goals(apply Yu [0] [0];(apply Zm Za;exact Z);(iterate 7 exact Z))
 all_goals rfl
theorem Xb [Known]:AP Try.prog 13 [.nilp] (.int .i64 0) []:=by
 refine AP.ofA (ZF Try.func13 Z Try.ntmps13 Z Z ?_)
 repeat'(first|(apply Zh Za;exact Z)|(apply Zr Za;exact Z)|(apply Zf;exact Z;(first|with_reducible assumption|decide +kernel|(solve|simp only[bn]))))
 all_goals exact Qe
theorem V0 [Known]:AT Try.prog 12 [.ptr 0 0] [[.bool true,.sl .nil []]] [] (.tup []) [[.bool true,.sl .nil []]] []:=by
 refine ZF Try.func12 rfl Try.ntmps12 rfl rfl ?_
 repeat'(first|(apply Zh Za;exact Z)|(apply Zf;exact Z;(first|with_reducible assumption|decide +kernel|(solve|simp only[bn]))))
 all_goals(apply Xq [0] [];(apply Zm Za;exact Z);(iterate 7 exact Z))
 all_goals rfl
theorem JD [Known](L:List E)(k:Nat):AT Try.prog 12 [.ptr 0 0] [[.bool true,.sl (.own 0) L]] (pqF k) (.tup []) [[.bool true,.sl .nil []]] (pqF k):=by
 refine ZF Try.func12 rfl Try.ntmps12 rfl rfl ?_
 repeat'(first|(apply Zh Za;exact Z)|(apply Zf;exact Z;(first|with_reducible assumption|decide +kernel|(solve|simp only[bn]))))
 all_goals(apply Xq [0] [0];(apply Zm Za;exact Z);(iterate 7 exact Z))
 all_goals rfl
theorem JE [Known]:AT Try.prog 4 [] [] [] (.ptr 0 0) [[.bool true,.sl .nil []]] []:=by
 refine ZF Try.func4 rfl Try.ntmps4 rfl rfl ?_
 repeat'(first|(apply Zh Za;exact Z))
 all_goals(apply Yu [0] [];(apply Zm Za;exact Z);(iterate 7 exact Z))
 all_goals rfl
theorem Qu [Known](who need:Int)(b:List UInt8)(hb:ZA ⟨who,b,need⟩=true):AT Try.prog 7 [.ptr 0 0,.int .i64 who,.int .i64 need,.sl .ext (b.map E.byte)] [[.sl .nil []]] [] (.int .i64 1) [[.sl .nil []]] []:=by
 unfold ZA at hb
 dsimp only at hb
 have hml:(b.map E.byte).length=b.length:=List.length_map ..
 rw[<- hml]at hb
 rcases or5 hb with t1|⟨t1,t2⟩ | ⟨t1,t2,t3⟩ | ⟨t1,t2,t3,t4⟩ | ⟨t1,t2,t3,t4,t5⟩
 all_goals
  clear hb
  refine ZF Try.func7 rfl Try.ntmps7 rfl rfl ?_
  repeat'(first|(apply Zk Za;exact Z)|(apply Zh Za;exact Z)|(apply Zr Za;exact Z)|(apply Ze;(iterate 3 exact Z);(first|with_reducible assumption|decide +kernel|(solve|simp only[bn])))|(apply Ym;(iterate 3 exact Z);(first|with_reducible assumption|decide +kernel|(solve|simp only[bn])))|(apply Zl;exact Z;(first|with_reducible assumption|decide +kernel|(solve|simp only[bn]));exact Z;exact Z)|(apply Zj;exact Z;(first|with_reducible assumption|decide +kernel|(solve|simp only[bn]));exact Z;exact Z)|(apply Zf;exact Z;(first|with_reducible assumption|decide +kernel|(solve|simp only[bn])))|refine Zo Za Z Z Z Z ?_)
  all_goals(apply Yu [0] [];(apply Zm Za;exact Z);(iterate 7 exact Z))
  all_goals rfl
theorem Vj [Known](who need:Int)(b:List UInt8)(M:List Ev)(z c:Nat)(hb:ZA ⟨who,b,need⟩=true):AQ Try.prog 7 [.ptr 0 0,.int .i64 who,.int .i64 need,.sl .ext (b.map E.byte)] [[.bsl 1 0 M.length c],[.row z (reF M)]] (.int .i64 1) [[.bsl 1 0 M.length c],[.row z (reF M)]]:=by
 unfold ZA at hb
 dsimp only at hb
 have hml:(b.map E.byte).length=b.length:=List.length_map ..
 rw[<- hml]at hb
 rcases or5 hb with t1|⟨t1,t2⟩ | ⟨t1,t2,t3⟩ | ⟨t1,t2,t3,t4⟩ | ⟨t1,t2,t3,t4,t5⟩
 all_goals
  clear hb
  refine AQ.weak (ZF Try.func7 Z Try.ntmps7 Z Z ?_)
  repeat'(first|(apply Zk Za;exact Z)|(apply Zh Za;exact Z)|(apply Zr Za;exact Z)|(apply Ze;(iterate 3 exact Z);(first|with_reducible assumption|decide +kernel|(solve|simp only[bn])))|(apply Ym;(iterate 3 exact Z);(first|with_reducible assumption|decide +kernel|(solve|simp only[bn])))|(apply Zl;exact Z;(first|with_reducible assumption|decide +kernel|(solve|simp only[bn]));exact Z;exact Z)|(apply Zj;exact Z;(first|with_reducible assumption|decide +kernel|(solve|simp only[bn]));exact Z;exact Z)|(apply Zf;exact Z;(first|with_reducible assumption|decide +kernel|(solve|simp only[bn])))|refine Zo Za Z Z Z Z ?_)
  all_goals(apply Wp [0,1];(apply Zm Za;exact Z);(iterate 4 exact Z))
  all_goals rfl
theorem Qv [Known](who need:Int)(b:List UInt8)(M:List Ev)(hM:M.length<=1000)(z c:Nat)(h64:64<=(Zb M).length)(hb:ZA ⟨who,b,need⟩=false):AQ Try.prog 7 [.ptr 0 0,.int .i64 who,.int .i64 need,.sl .ext (b.map E.byte)] [[.bsl 1 0 M.length c],[.row z (reF M)]] (.int .i64 5) [[.bsl 1 0 M.length c],[.row z (reF M)]]:=by
 unfold ZA at hb
 dsimp only at hb
 have hml:(b.map E.byte).length=b.length:=List.length_map ..
 rw[<- hml]at hb
 have hL:=ZE M hM z c
 have d6:decide ((((Zb M).length:Nat):Int) ≥ 64)=true:=decide_eq_true (by omega)
 simp only[Bool.or_eq_false_iff]at hb
 obtain⟨t1,t2,t3,t4,t5⟩:=hb
 refine AQ.weak (ZF Try.func7 Z Try.ntmps7 Z Z ?_)
 repeat'(first|(apply Zi [0,1] (hL);kernel_rfl;(iterate 7 exact Z))|(apply Zk Za;exact Z)|(apply Zh Za;exact Z)|(apply Zr Za;exact Z)|(apply Ze;(iterate 3 exact Z);(first|with_reducible assumption|decide +kernel|(solve|simp only[bn])))|(apply Zj;exact Z;(first|with_reducible assumption|decide +kernel|(solve|simp only[bn]));exact Z;exact Z)|(apply Zf;exact Z;(first|with_reducible assumption|decide +kernel|(solve|simp only[bn])))|(apply Zd;exact Z;(first|with_reducible assumption|decide +kernel|(solve|simp only[bn])))|refine Zo Za Z Z Z Z ?_)
 all_goals(apply Wp [0,1];(apply Zm Za;exact Z);(iterate 4 exact Z))
 all_goals rfl
theorem Xc [Known](who need:Int):AP Try.prog 6 [.nilp,.agg [.int .i64 who,.sl .ext [],.int .i64 need]] (.int .i64 6) []:=by
 refine AP.ofA (ZF Try.func6 Z Try.ntmps6 Z Z ?_)
 repeat'(first|(apply Zk Za;exact Z)|(apply Zh Za;exact Z)|(apply Zr Za;exact Z)|(apply Ym;(iterate 3 exact Z);(first|with_reducible assumption|decide +kernel|(solve|simp only[bn])))|(apply Zl;exact Z;(first|with_reducible assumption|decide +kernel|(solve|simp only[bn]));exact Z;exact Z)|(apply Zf;exact Z;(first|with_reducible assumption|decide +kernel|(solve|simp only[bn]))))
 all_goals exact Qe
theorem QV [Known]:AP Try.prog 12 [.nilp] (.tup []) []:=by
 refine AP.ofA (ZF Try.func12 Z Try.ntmps12 Z Z ?_)
 repeat'(first|(apply Zh Za;exact Z)|(apply Zd;exact Z;(first|with_reducible assumption|decide +kernel|(solve|simp only[bn]))))
 all_goals(apply X1 [];(apply Zm Za;exact Z);(iterate 4 exact Z))
 all_goals rfl
theorem VB [Known]:AP Try.prog 5 [] (.bool true) []:=by
 have k0:=JE
 have k1:=WU 1 2 [120] (by decide) (by decide)
 replace k1:AT Try.prog 6 [.ptr 0 0,.agg [.int .i64 1,.sl .ext [.int .u8 120],.int .i64 2]] [[.bool true,.sl .nil []]] [] (.int .i64 0) [[.bool true,.sl (.own 0) [.agg [.int .i64 1,.sl [.int .u8 120],.int .i64 2]]]] [⟨1,3,31⟩]:=k1
 have k2:=Ue 2 1 [121] (by decide) [.agg [.int .i64 1,.sl [.int .u8 120],.int .i64 2]] (by decide) (by decide) (Zg rfl)
 replace k2:AT Try.prog 6 [.ptr 0 0,.agg [.int .i64 2,.sl .ext [.int .u8 121],.int .i64 1]] [[.bool true,.sl (.own 0) [.agg [.int .i64 1,.sl [.int .u8 120],.int .i64 2]]]] [⟨1,3,31⟩] (.int .i64 0) [[.bool true,.sl (.own 0) [.agg [.int .i64 1,.sl [.int .u8 120],.int .i64 2],.agg [.int .i64 2,.sl [.int .u8 121],.int .i64 1]]]] [⟨2,3,31⟩]:=k2
 have k3:=Ws 1 [(⟨1,[120],2⟩:En),(⟨2,[121],1⟩:En)] (by decide) (by decide) _ _ _ (.inr (.inr ⟨by decide,by decide,rfl,rfl,rfl⟩))
 replace k3:AT Try.prog 8 [.ptr 0 0,.int .i64 1] [[.bool true,.sl (.own 0) [.agg [.int .i64 1,.sl [.int .u8 120],.int .i64 2],.agg [.int .i64 2,.sl [.int .u8 121],.int .i64 1]]]] [⟨2,3,31⟩] (.sl (.own 1) [.agg [.int .i64 2,.sl [.int .u8 121],.int .i64 1]]) [[.bool true,.sl (.own 2) [.agg [.int .i64 1,.sl [.int .u8 120],.int .i64 2]]]] [⟨2,3,31⟩,⟨1,3,31⟩,⟨1,3,31⟩]:=k3
 have k4:=Ws 2 [(⟨1,[120],2⟩:En)] (by decide) (by decide) _ _ _ (.inr (.inl ⟨by decide,by decide,rfl,rfl,rfl⟩))
 replace k4:AT Try.prog 8 [.ptr 0 0,.int .i64 2] [[.bool true,.sl (.own 0) [.agg [.int .i64 1,.sl [.int .u8 120],.int .i64 2]]]] [⟨1,3,31⟩] (.sl (.own 1) [.agg [.int .i64 1,.sl [.int .u8 120],.int .i64 2]]) [[.bool true,.sl .nil []]] [⟨1,3,31⟩,⟨1,3,31⟩]:=k4
 have k5:=WU 3 0 [] (by decide) (by decide)
 replace k5:AT Try.prog 6 [.ptr 0 0,.agg [.int .i64 3,.sl .nil [],.int .i64 0]] [[.bool true,.sl .nil []]] [] (.int .i64 0) [[.bool true,.sl (.own 0) [.agg [.int .i64 3,.sl [],.int .i64 0]]]] [⟨1,3,31⟩]:=AC.unwk k5
 have k6:=Ui 3 [(⟨3,[],0⟩:En)] (by decide) (by decide) _ _ (.inr ⟨by decide,rfl,rfl⟩)
 replace k6:AT Try.prog 10 [.ptr 0 0,.int .i64 3] [[.bool true,.sl (.own 0) [.agg [.int .i64 3,.sl [],.int .i64 0]]]] [⟨1,3,31⟩] (.int .i64 1) [[.bool true,.sl .nil []]] [⟨1,3,31⟩]:=k6
 have k7:=Z3 true
 have k8:=Vy 0 0 [] (by decide) (by decide)
 replace k8:AT Try.prog 6 [.ptr 0 0,.agg [.int .i64 0,.sl .nil [],.int .i64 0]] [[.bool true,.sl .nil []]] [] (.int .i64 1) [[.bool true,.sl .nil []]] []:=AC.unwk k8
 refine AP.ofA (ZF Try.func5 Z Try.ntmps5 Z Z ?_)
 repeat'(first|refine Ww Za Z Z Z Z Z Z Z Z Z ?_|(apply Zc [] [] (k0);kernel_rfl;(iterate 10 exact Z))|(apply Zc [0] [] (k1);kernel_rfl;(iterate 10 exact Z))|(apply Zc [0] [0] (k2);kernel_rfl;(iterate 10 exact Z))|(apply Zc [0] [0] (k3);kernel_rfl;(iterate 10 exact Z))|(apply Zc [0] [2] (k4);kernel_rfl;(iterate 10 exact Z))|(apply Zc [0] [] (k5);kernel_rfl;(iterate 10 exact Z))|(apply Zc [0] [4] (k6);kernel_rfl;(iterate 10 exact Z))|(apply Zc [0] [] (k7);kernel_rfl;(iterate 10 exact Z))|(apply Zc [0] [] (k8);kernel_rfl;(iterate 10 exact Z))|(apply Zk Za;exact Z)|(apply Zh Za;exact Z)|(apply Ze;(iterate 3 exact Z);(first|with_reducible assumption|decide +kernel|(solve|simp only[bn])))|(apply Zl;exact Z;(first|with_reducible assumption|decide +kernel|(solve|simp only[bn]));exact Z;exact Z)|refine Zo Za Z Z Z Z ?_|refine X0 Za Z Z Z Z Z Z Z Z Z Z Z Z ?_|(apply Zv Za;(iterate 6 exact Z);(first|exact Qt|rotate_left);(first|with_reducible assumption|decide +kernel|exact Z);(first|exact Zg rfl|with_reducible assumption|decide +kernel|rotate_left)))
 all_goals exact Qe
end Go.Proofs.Ytchlgagdbflkmaa
end
section
open Go.RowKit Go.Pl
namespace Go.Av
def Qw:Code->Bool
 | .loop _=>true
 | .seq a b=>Qw a||Qw b
 | .block _ c=>Qw c
 | _=>false
def ZD:Code->Code
 | .loop c=>c
 | .seq a b=>match Qw a with
  | true=>ZD a
  | false=>ZD b
 | .block _ c=>ZD c
 | c=>c
end Go.Av
end
section
open Go.RowKit Go.Pl Go.Av
namespace Go.Proofs.Ytchlgagdbflkmaa
set_option maxHeartbeats 4000000
structure OpV where
 kd:Int
 n:Int
 x:En
abbrev opE (o:OpV):E:=.agg [.int .i64 o.kd,.int .i64 o.n,.int .i64 o.x.who,.sl (o.x.data.map E.byte),.int .i64 o.x.need]
theorem ZP (l:List OpV):Uni 5 (l.map opE):=Uni.map (f:=opE) (fun _=>rfl) l
def PlS (M:List Ev)(bx:List (List D))(fr:List Fr):Prop:=
 (M=[]/\bx=[[.bool true,.sl .nil []],[.sl .nil []]]/\fr=[]) \/
 (M ≠ []/\Zb M=[]/\∃ c,M.length<=c/\bx=[[.bool true,.sl .nil []],[.bsl 2 0 M.length c],[.row (c*4) (reF M)]]/\fr=[]) \/
 (M ≠ []/\Zb M ≠ []/\∃ c,M.length<=c/\bx=[[.bool true,.sl (.own 0) ((Zb M).map enE)],[.bsl 2 0 M.length c],[.row (c*4) (reF M)]]/\fr=pqF (Zb M).length)
abbrev plT (ops:List OpV)(i:Nat):List (Nat × D):=[(0,.sl .ext (ops.map opE)),(3,.ptr 0 0),(4,.ptr 1 0),(5,.int .i64 (i:Int))]
def PlJ (ops:List OpV)(k:Nat)(tm:List (Nat × D))(bx:List (List D))(fr:List Fr):Prop:=
 ∃(i:Nat) (M:List Ev),k+i=150/\M.length<=i/\(Zb M).length<=64/\tm=plT ops i/\PlS M bx fr
theorem YQ {P:En->Bool}{M:List Ev}(h:M ≠ []):Zu P M ≠ []:=fun e=>h (List.map_eq_nil_iff.1 e)
theorem ZZ (P:En->Bool)(M:List Ev):(Zb (Zu P M)).length<=(Zb M).length:=by
 rw[ZC]
 exact List.length_filter_le _ _
theorem UN (P:En->Bool)(M:List Ev):(ZL P 0 M).length=((Zb M).filter P).length:=by
 rw[<- YK P M 0,List.length_map]
theorem V1 {n:Int}(h:(n==0)=false):(fun x:En=>n==0||x.who==n)=(fun x=>x.who==n):=by
 funext x
 rw[h,Bool.false_or]
theorem UO:(fun x:En=>(0:Int)==0||x.who==0)=(fun _=>true):=by
 funext x
 rfl
end Go.Proofs.Ytchlgagdbflkmaa
end
