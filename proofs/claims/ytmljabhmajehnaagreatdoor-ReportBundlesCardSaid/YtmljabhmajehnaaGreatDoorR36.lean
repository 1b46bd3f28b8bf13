/- First blocks: what is read may be written. -/
import Derived.Test.YtmljabhmajehnaaGreatDoorR35
import Derived.Test.YtmljabhmajehnaaGreatDoorR30
import Derived.Test.YtmljabhmajehnaaGreatDoorR29
import Derived.Test.YtmljabhmajehnaaGreatDoorR26
import Derived.Test.YtmljabhmajehnaaGreatDoorR28
import Derived.Test.YtmljabhmajehnaaGreatDoorR19
import Derived.Test.YtmljabhmajehnaaGreatDoorR24
set_option linter.unusedVariables false
set_option linter.unusedSimpArgs false
section
open Go.RowKit Go.Pl Go.Av
namespace Go.Proofs.YtmljabhmajehnaaGreatDoor
set_option maxHeartbeats 4000000
theorem W5 {p:PriV}{x:It}(h:WJ p=(x,0)):YA p=true/\VO (YO p) 2=(x,0):=by
 unfold WJ at h
 cases hr:YA p with
 | true=>rw[hr]at h;exact⟨rfl,h⟩
 | false=>rw[hr]at h;simp at h
theorem Tv {p:PriV}(h:YA p=true):(ZO (YO p)).length<=1000000:=by
 obtain⟨h1,h2,h3,h4,h5,h6⟩:=VR h
 obtain⟨i1,_,_⟩:=YG.1 h5
 have n1:=Yp 7
 have n2:=Yp p.fl
 have n3:=Yp p.sum.toNat
 have n4:=Vp h3
 have n5:=Vp i1
 have n6:=Vp h4
 have n7:=Ut p.t p.q
 have n8:=Yp p.life
 have e7:IU p.t p.q=.mk 4 0 [] [.mk 0 p.t [] [],.mk 0 p.q [] []]:=rfl
 rw[e7]at n7
 simp only[YO,ZO,List.length_append,List.length_nil,Nat.add_zero]
 omega
structure BunV where
 p:PriV
 bl:List BlkV
def Uu (k:Nat):Bool:=k==1||(k==6||(k==7||k==10))
def Ki:List BlkV->List BlkV->Bool
 | _,[]=>true
 | pre,b::r=>Z2 b&&(pre.all (fun c=>c.num != b.num&&(c.ty != b.ty || !Uu b.ty))&&Ki (pre++[b]) r)
def Tw (l:List BlkV):Bool:=match l.getLast? with
 | none=>false
 | some b=>decide (l.length<=8)&&(b.ty==1&&(b.num==1&&Ki [] l))
def Un (b:BunV):List It:=(WJ b.p).1::b.bl.map fun c=>(YW c).1
def Jv (b:BunV):Bool:=(WJ b.p).2==0&&b.bl.all fun c=>(YW c).2==0
def L6 (b:BunV):List UInt8:=159::(ZO (Un b)++[255])
def YZ (b:BunV):Bool:=Tw b.bl&&(Jv b&&decide (((ZO (Un b)).length:Int)<=598))
theorem Uo {l:List It}{a:Int}{x:It}(h:VO l a=(x,0)):ZC x=true:=by
 unfold VO at h
 split at h
 ·simp at h
 ·split at h
  ·simp at h
  ·split at h
   ·split at h
    ·rename_i hr
     simp only[Prod.mk.injEq,and_true]at h
     subst h;exact hr
    ·simp at h
   ·split at h
    ·simp at h
    ·split at h
     ·simp at h
     ·rename_i hr
      simp only[Prod.mk.injEq,and_true]at h
      subst h;exact hr
theorem K8 {x:It}(h:ZC x=true):Yz x=true:=by
 rw[YY]at h
 simp only[Bool.and_eq_true]at h
 exact h.2.2
def bn0:BunV:=⟨pr0,[]⟩
abbrev bkE (b:BlkV):E:=.agg [.int .u64 (b.ty:Int),.int .u64 (b.num:Int),.int .u64 (b.fl:Int),.int .i64 b.sum,.sl (b.data.map E.byte)]
abbrev Yo (l:List BlkV):List E:=l.map bkE
theorem JO (l:List BlkV):Uni 5 (Yo l):=Uni.map (f:=bkE) (fun _=>rfl) l
theorem WW (l:List BlkV):(Yo l).length=l.length:=List.length_map ..
theorem WX {l:List BlkV}{i:Nat}{b:BlkV}(h:l[i]?=some b):(Yo l)[((i:Nat):Int).toNat]?=some (.agg [.int .u64 (b.ty:Int),.int .u64 (b.num:Int),.int .u64 (b.fl:Int),.int .i64 b.sum,.sl (b.data.map E.byte)]):=by
 rw[Int.toNat_natCast,List.getElem?_map,h];rfl
theorem L7 (k:Nat):Uu k=(((k:Int)==1)||(((k:Int)==6)||(((k:Int)==7)||((k:Int)==10)))):=by
 unfold Uu
 rw[Bool.eq_iff_iff]
 simp only[Bool.or_eq_true,beq_iff_eq]
 omega
theorem L8 [Known](k:Nat):AP Tryz.prog 106 [.int .u64 (k:Int)] (.bool (Uu k)) []:=by
 rw[L7]
 refine AP.ofA (Zl Tryz.func106 U Tryz.ntmps106 U U ?_)
 repeat'(first|(apply Zi Za;exact U)|(apply Zg Za;exact U)|refine Z9 ?_|refine Ze U U U Qt ?_|refine Zm U U U Qt ?_|(apply YB;exact U;exact U;all_goals intro hb)|refine Zj U Qt U U ?_|refine Zh U Qt U U ?_)
 all_goals(apply Zq [];(apply Zc Za;exact U);(iterate 4 exact U))
 all_goals first|rfl|(simp only[*];done)|(simp only[*];rfl)|(simp[*];done)
def UY (b c:BlkV):Bool:=c.num != b.num&&(c.ty != b.ty || !Uu b.ty)
theorem BN (b c:BlkV):UY b c=(((c.num:Int) != (b.num:Int))&&(((c.ty:Int) != (b.ty:Int)) || !Uu b.ty)):=by
 have e:∀ a b:Nat,(a != b)=(((a:Nat):Int) != (b:Int)):=fun a b=>by rw[Bool.eq_iff_iff,bne_iff_ne,bne_iff_ne];omega
 unfold UY
 rw[e,e]
theorem Mj (pre:List BlkV)(b:BlkV)(r:List BlkV):Ki pre (b::r)=(Z2 b&&pre.all (UY b)&&Ki (pre++[b]) r):=by
 rw[Ki,Bool.and_assoc];rfl
theorem BO (l:List BlkV):Tw l=match l[l.length-1]? with
  | none=>false
  | some b=>decide (l.length<=8)&&((b.ty:Int)==1&&((b.num:Int)==1&&Ki [] l)):=by
 unfold Tw
 rw[List.getLast?_eq_getElem?]
 cases h:l[l.length-1]? with
 | none=>rfl
 | some b=>
  have e:∀ a:Nat,(a==1)=(((a:Nat):Int)==1):=fun a=>by rw[Bool.eq_iff_iff,beq_iff_eq,beq_iff_eq];omega
  dsimp only
  rw[e,e]
theorem BP [Known][KnownU8](l:List BlkV)(hl:l.length<=1000000)(hd:∀ c ∈ l,c.data.length<=100000):AP Tryz.prog 56 [.sl .ext (Yo l)] (.bool (Tw l)) []:=by
 have hlen:=WW l
 have hU:=JO l
 have en:IntKind.i64.wrap (((Yo l).length:Int)-1)=(l.length:Int)-1:=by rw[IntWalk.i64_in _ (by omega)];omega
 rw[BO]
 cases hlast:l[l.length-1]? with
 | none=>
  have h0:l.length=0:=by have:=List.getElem?_eq_none_iff.1 hlast;omega
  have t1:decide ((l.length:Int)-1<0)=true:=decide_eq_true (by omega)
  refine AP.ofA (Zl Tryz.func56 U Tryz.ntmps56 U U ?_)
  repeat'(first|refine UR ?_|rw[en]|(apply Zi Za;exact U)|(apply Zg Za;exact U)|(apply Zp Za;exact U)|refine Z9 ?_|refine Zm U U U Qt ?_|refine Zj U Qt U U ?_|refine Zd U Qt ?_|refine Zn Za U U U U ?_)
  all_goals exact Qe
 | some b=>
 have hlt:=(List.getElem?_eq_some_iff.1 hlast).1
 have hv0:=WX hlast
 rw[show((l.length-1:Nat):Int)=(l.length:Int)-1 from by omega]at hv0
 have t1:decide ((l.length:Int)-1<0)=false:=decide_eq_false (by omega)
 dsimp only
 rcases Nat.lt_or_ge 8 l.length with h8|h8
 ·have t2:decide ((l.length:Int)-1 ≥ 8)=true:=decide_eq_true (by omega)
  rw[decide_eq_false (by omega:¬ l.length<=8)]
  refine AP.ofA (Zl Tryz.func56 U Tryz.ntmps56 U U ?_)
  repeat'(first|refine UR ?_|rw[en]|(apply Zi Za;exact U)|(apply Zg Za;exact U)|(apply Zp Za;exact U)|refine Z9 ?_|refine Ze U U U Qt ?_|refine Zm U U U Qt ?_|refine Zj U Qt U U ?_|refine Zh U Qt U U ?_|refine Zd U Qt ?_|refine Zn Za U U U U ?_)
  all_goals exact Qe
 have t2:decide ((l.length:Int)-1 ≥ 8)=false:=decide_eq_false (by omega)
 rw[decide_eq_true h8]
 have i0:(0:Int)<=(l.length:Int)-1:=by omega
 cases t3:((b.ty:Int)==1) with
 | false=>
  have t5:((b.ty:Int) != 1)=true:=by rw[bne,t3];rfl
  refine AP.ofA (Zl Tryz.func56 U Tryz.ntmps56 U U ?_)
  repeat'(first|refine UR ?_|rw[en]|(apply Zi Za;exact U)|(apply Zg Za;exact U)|(apply Zp Za;exact U)|refine Z9 ?_|refine Ze U U U Qt ?_|refine Zm U U U Qt ?_|refine Zj U Qt U U ?_|refine Zh U Qt U U ?_|refine Zd U Qt ?_|refine Zn Za U U U U ?_|(apply Zu Za;(iterate 6 exact U);(first|exact Qt|rotate_left);(first|with_reducible assumption|decide +kernel|exact U);(first|exact Zk rfl|with_reducible assumption|decide +kernel|rotate_left)))
  all_goals exact Qe
 | true=>
 have t5:((b.ty:Int) != 1)=false:=by rw[bne,t3];rfl
 cases t4:((b.num:Int)==1) with
 | false=>
  have t6:((b.num:Int) != 1)=true:=by rw[bne,t4];rfl
  refine AP.ofA (Zl Tryz.func56 U Tryz.ntmps56 U U ?_)
  repeat'(first|refine UR ?_|rw[en]|(apply Zi Za;exact U)|(apply Zg Za;exact U)|(apply Zp Za;exact U)|refine Z9 ?_|refine Ze U U U Qt ?_|refine Zh U Qt U U ?_|refine Zd U Qt ?_|refine Zn Za U U U U ?_|(apply Zu Za;(iterate 6 exact U);(first|exact Qt|rotate_left);(first|with_reducible assumption|decide +kernel|exact U);(first|exact Zk rfl|with_reducible assumption|decide +kernel|rotate_left)))
  all_goals exact Qe
 | true=>
 have t6:((b.num:Int) != 1)=false:=by rw[bne,t4];rfl
 rw[Bool.true_and,Bool.true_and,Bool.true_and]
 generalize hF:Ki [] l=F
 refine AP.ofA (Zl Tryz.func56 U Tryz.ntmps56 U U ?_)
 repeat'(first|refine UR ?_|rw[en]|(apply Zi Za;exact U)|(apply Zg Za;exact U)|(apply Zp Za;exact U)|refine Ze U U U Qt ?_|refine Zh U Qt U U ?_|refine Zf U Qt ?_|refine Zn Za U U U U ?_|(apply Zu Za;(iterate 6 exact U);(first|exact Qt|rotate_left);(first|with_reducible assumption|decide +kernel|exact U);(first|exact Zk rfl|with_reducible assumption|decide +kernel|rotate_left)))
 refine ZJ (fun f tm bx fr=>∃(i:Nat),f+i=l.length/\Ki (l.take i) (l.drop i)=F/\tm=[(0,.sl .ext (Yo l)),(4,.bool true),(34,.sl .ext (Yo l)),(35,.int .i64 ((Yo l).length:Int)),(36,.int .i64 (i:Int))]/\bx=[]/\fr=[]) (l.length+1) (Lands.mk' (m:=l.length) (Nat.lt_succ_self _) ⟨0,by omega,hF,rfl,rfl,rfl⟩ ?_ rfl rfl rfl rfl rfl rfl) ?_
 ·exact .cons rfl (.cons rfl (.cons rfl (.cons rfl (.cons rfl .nil))))
 rintro f tm bx fr ⟨i,hf,hq,rfl,rfl,rfl⟩
 rcases Nat.lt_or_ge i l.length with hlt|hge
 ·have hdl:decide ((i:Int)<((Yo l).length:Int))=true:=decide_eq_true (by omega)
  obtain⟨b,hy⟩:∃ y,l[i]?=some y:=⟨_,List.getElem?_eq_getElem hlt⟩
  have hv:=WX hy
  have hR:=Ih b (hd b (List.mem_of_getElem? hy))
  have hA:=L8 b.ty
  have hdr:l.drop i=b::l.drop (i+1):=by
   rw[List.drop_eq_getElem_cons hlt];congr 1
   exact(List.getElem?_eq_some_iff.1 hy).2
  rw[hdr,Mj]at hq
  have ht1:l.take (i+1)=l.take i++[b]:=by rw[List.take_add_one,hy];rfl
  rw[<- ht1]at hq
  have ei:IntKind.i64.wrap ((i:Int)+1)=((i+1:Nat):Int):=by rw[IntWalk.i64_in _ (by omega)];omega
  generalize hr:Z2 b=r at hR hq
  have hle:((i:Nat):Int).toNat<=(Yo l).length:=by rw[Int.toNat_natCast];omega
  have hI:(Yo l).take ((i:Nat):Int).toNat=Yo (l.take i):=by rw[Int.toNat_natCast];exact List.map_take.symm
  have hli:(l.take i).length=i:=by rw[List.length_take];omega
  have hlb:=WW (l.take i)
  have hU2:=JO (l.take i)
  generalize hlt2:l.take i=p at *
  repeat'(first|(apply Zb (hR);kernel_rfl;(iterate 4 exact U))|refine Le Za U U U U U U hU (Int.natCast_nonneg _) hle hI ?_|(apply Zi Za;exact U)|(apply Zg Za;exact U)|refine Zd U Qt ?_|refine Zn Za U U U U ?_|(apply Zu Za;(iterate 6 exact U);(first|exact Qt|rotate_left);(first|with_reducible assumption|decide +kernel|exact U);(first|exact Zk rfl|with_reducible assumption|decide +kernel|rotate_left)))
  refine ZJ (fun f tm bx fr=>∃(j:Nat),f+j=p.length/\tm=[(0,.sl .ext (Yo l)),(4,.bool (r&&(p.take j).all (UY b))),(6,.ptr 0 0),(34,.sl .ext (Yo l)),(35,.int .i64 ((Yo l).length:Int)),(36,.int .i64 (i:Int)),(45,.sl .ext (Yo p)),(46,.int .i64 ((Yo p).length:Int)),(47,.int .i64 (j:Int))]/\bx=[bkC b]/\fr=[]) (p.length+1) (Lands.mk' (m:=p.length) (Nat.lt_succ_self _) ⟨0,by omega,by rw[List.take_zero,List.all_nil,Bool.and_true],rfl,rfl⟩ ?_ rfl rfl rfl rfl rfl rfl) ?_
  ·exact .cons rfl (.cons rfl (.cons rfl (.cons rfl (.cons rfl (.cons rfl (.cons rfl (.cons rfl (.cons rfl .nil))))))))
  rintro f2 tm bx fr ⟨j,hj,rfl,rfl,rfl⟩
  rcases Nat.lt_or_ge j p.length with hjl|hjg
  ·have hdl2:decide ((j:Int)<((Yo p).length:Int))=true:=decide_eq_true (by omega)
   obtain⟨c,hc⟩:∃ y,p[j]?=some y:=⟨_,List.getElem?_eq_getElem hjl⟩
   have hv2:=WX hc
   have ej:IntKind.i64.wrap ((j:Int)+1)=((j+1:Nat):Int):=by rw[IntWalk.i64_in _ (by omega)];omega
   have ht2:(p.take (j+1)).all (UY b)=((p.take j).all (UY b)&&UY b c):=by rw[List.take_add_one,hc,List.all_append];simp
   have hok:(r&&(p.take (j+1)).all (UY b))=((r&&(p.take j).all (UY b))&&(((c.num:Int) != (b.num:Int))&&(((c.ty:Int) != (b.ty:Int)) || !Uu b.ty))):=by rw[ht2,BN,Bool.and_assoc]
   generalize (r&&(p.take j).all (UY b))=ok at *
   have key:∀ v:Bool,v=(r&&(p.take (j+1)).all (UY b))->∃(j':Nat),f2-1+j'=p.length/\[(0,D.sl .ext (Yo l)),(4,.bool v),(6,.ptr 0 0),(34,.sl .ext (Yo l)),(35,.int .i64 ((Yo l).length:Int)),(36,.int .i64 (i:Int)),(45,.sl .ext (Yo p)),(46,.int .i64 ((Yo p).length:Int)),(47,.int .i64 ((j+1:Nat):Int))]=[(0,.sl .ext (Yo l)),(4,.bool (r&&(p.take j').all (UY b))),(6,.ptr 0 0),(34,.sl .ext (Yo l)),(35,.int .i64 ((Yo l).length:Int)),(36,.int .i64 (i:Int)),(45,.sl .ext (Yo p)),(46,.int .i64 ((Yo p).length:Int)),(47,.int .i64 (j':Int))]/\[bkC b]=[bkC b]/\([]:List Fr)=[]:=fun v hv=>⟨j+1,by omega,by rw[hv],rfl,rfl⟩
   cases ok<;>cases n1:((c.num:Int) != (b.num:Int))<;>cases n2:((c.ty:Int) != (b.ty:Int))<;>cases n3:Uu b.ty<;>rw[n1,n2,n3]at hok<;>rw[n3]at hA
   all_goals repeat'(first|rw[ej]|(apply Zb (hA);kernel_rfl;(iterate 4 exact U))|(apply Zi Za;exact U)|(apply Zg Za;exact U)|refine Z9 ?_|refine Ze U U U Qt ?_|refine Zt U U U Qt ?_|refine Zm U U U Qt ?_|refine UC U U U ?_|refine Zj U Qt U U ?_|refine Zh U Qt U U ?_|refine Zd U Qt ?_|refine Yt ?_|(apply Zu Za;(iterate 6 exact U);(first|exact Qt|rotate_left);(first|with_reducible assumption|decide +kernel|exact U);(first|exact Zk rfl|with_reducible assumption|decide +kernel|rotate_left)))
   all_goals refine Lands.mk' (m:=f2-1) (by omega) (key _ (by rw[hok])) ?_ rfl rfl rfl rfl rfl rfl
   all_goals exact .cons rfl (.cons rfl (.cons rfl (.cons rfl (.cons rfl (.cons rfl (.cons rfl (.cons rfl (.cons rfl .nil))))))))
  ·have hdl2:decide ((j:Int)<((Yo p).length:Int))=false:=decide_eq_false (by omega)
   rw[List.take_of_length_le hjg]
   generalize (r&&p.all (UY b))=ok at *
   cases ok with
   | true=>
    repeat'(first|rw[ei]|(apply Zg Za;exact U)|refine Z9 ?_|refine Zf U Qt ?_|refine Yt ?_)
    refine Lands.mk' (m:=f-1) (by omega) ⟨i+1,by omega,by simpa using hq,rfl,rfl,rfl⟩ ?_ rfl rfl rfl rfl rfl rfl
    exact .cons rfl (.cons rfl (.cons rfl (.cons rfl (.cons rfl .nil))))
   | false=>
    rw[Bool.false_and]at hq
    subst hq
    repeat'(first|(apply Zg Za;exact U)|refine Z9 ?_|refine Zd U Qt ?_|refine Zf U Qt ?_)
    all_goals exact Qe
 ·have hdl:decide ((i:Int)<((Yo l).length:Int))=false:=decide_eq_false (by omega)
  rw[List.drop_eq_nil_of_le hge,Ki]at hq
  subst hq
  repeat'(first|(apply Zg Za;exact U)|refine Z9 ?_|refine Zf U Qt ?_)
  all_goals exact Qe
abbrev bnC (b:BunV):List D:=[.int .u64 (b.p.fl:Int),.int .i64 b.p.sum,.bool b.p.dest.i,.int .u64 (b.p.dest.n:Int),.int .u64 (b.p.dest.s:Int),.str b.p.dest.h,.str b.p.dest.d,.bool b.p.rep.i,.int .u64 (b.p.rep.n:Int),.int .u64 (b.p.rep.s:Int),.str b.p.rep.h,.str b.p.rep.d,.bool b.p.src.i,.int .u64 (b.p.src.n:Int),.int .u64 (b.p.src.s:Int),.str b.p.src.h,.str b.p.src.d,.int .u64 (b.p.t:Int),.int .u64 (b.p.q:Int),.int .u64 (b.p.life:Int),.sl .ext (Yo b.bl)]
structure BunOk (b:BunV):Prop where
 fl:b.p.fl<18446744073709551616
 len:b.bl.length<=1000000
 bl:∀ c ∈ b.bl,c.fl<18446744073709551616/\c.data.length<=3000
theorem K9 {l:List It}{a:Int}{x:It}(h:VO l a=(x,0)):(ZI x).length<=(ZO l).length+40:=by
 rcases Tn h with rfl|⟨s,hs,rfl⟩
 ·have:=Yn 4 0 [] l
  simp at this ⊢;omega
 ·have h0:=Yn 4 0 [] (l++[.mk 2 0 (Uw s (ZI (ZV s l))) []])
  have h1:=Yn 2 0 (Uw s (ZI (ZV s l))) []
  have h2:=KJ s (ZI (ZV s l)) hs
  rw[UV]at h0
  simp only[ZO,List.length_append,List.length_nil,Nat.add_zero,Nat.zero_add]at h0 h1
  show(ZI (.mk 4 0 [] (l++[.mk 2 0 (Uw s (ZI (ZV s l))) []]))).length<=_
  omega
theorem Tx {b:BlkV}{x:It}(h:YW b=(x,0))(hd:b.data.length<=3000):(ZI x).length<=4000:=by
 obtain⟨_,hs⟩:=Ul h
 have h0:=K9 hs
 have n1:=Yp b.ty
 have n2:=Yp b.num
 have n3:=Yp b.fl
 have n4:=Yp b.sum.toNat
 have n5:=Yn 2 0 b.data []
 simp only[YV,ZO,List.length_append,List.length_nil,Nat.add_zero,Nat.zero_add]at h0 n5
 omega
theorem Ty {p:PriV}{x:It}(h:WJ p=(x,0)):(ZI x).length<=4000:=by
 obtain⟨hr,hs⟩:=W5 h
 have h0:=K9 hs
 obtain⟨h1,h2,h3,h4,h5,h6⟩:=VR hr
 obtain⟨i1,_,_⟩:=YG.1 h5
 have n1:=Yp 7
 have n2:=Yp p.fl
 have n3:=Yp p.sum.toNat
 have n4:=Vp h3
 have n5:=Vp i1
 have n6:=Vp h4
 have n7:=Ut p.t p.q
 have n8:=Yp p.life
 have e7:IU p.t p.q=.mk 4 0 [] [.mk 0 p.t [] [],.mk 0 p.q [] []]:=rfl
 rw[e7]at n7
 simp only[YO,ZO,List.length_append,List.length_nil,Nat.add_zero,Nat.zero_add]at h0
 omega
abbrev wB1 (c:BlkV):It:=(YW c).1
abbrev Tz (b:BunV):D:=match Jv b with
 | true=>.tup [byE (ZO (Un b)),.bool true]
 | false=>.tup [.sl .ext [],.bool false]
theorem QT:∀(l:List BlkV),(∀ c ∈ l,(YW c).2=0/\c.data.length<=3000)->(ZO (l.map wB1)).length<=4000*l.length
 | [],_=>by simp[ZO]
 | c::l,h=>by
  have h1:(ZI (wB1 c)).length<=4000:=Tx (x:=(YW c).1) (Prod.ext rfl (h c (List.mem_cons_self ..)).1) (h c (List.mem_cons_self ..)).2
  have h2:=QT l fun y hy=>h y (List.mem_cons_of_mem _ hy)
  rw[List.map_cons,ZO,List.length_append,List.length_cons]
  omega
theorem L9 [Known][KnownU8](b:BunV)(hb:BunOk b):AP Tryz.prog 57 [.agg (bnC b)] (Tz b) []:=by
 have hW:=Tp b.p hb.fl
 have hlen:=WW b.bl
 have hUb:=JO b.bl
 have hl:=hb.len
 unfold Tz Jv
 rcases hwp:WJ b.p with⟨x,e⟩
 rw[hwp]at hW
 have hx:=XI (p:=b.p) hb.fl
 rw[hwp]at hx
 dsimp only[J9]at hW hx
 by_cases he:e=0
 case neg=>
  have te:((e:Int) != 0)=true:=by simpa using he
  have te2:((e:Int)==0)=false:=by simpa using he
  dsimp only
  rw[te2]
  obtain⟨k,n,bb,l⟩:=x
  obtain⟨⟨fl,sum,⟨di,dn,ds,dh,dd⟩,⟨ri,rn,rs,rh,rd⟩,⟨xi,xn,xs,xh,xd⟩,t,q,life⟩,bl⟩:=b
  dsimp only at *
  refine AP.ofA (Zl Tryz.func57 U Tryz.ntmps57 U U ?_)
  repeat'(first|(apply Zb (hW);kernel_rfl;(iterate 4 exact U))|(apply Zi Za;exact U)|(apply Zg Za;exact U)|(apply Zp Za;exact U)|refine Zd U Qt ?_)
  all_goals exact Qe
 subst he
 obtain⟨hrP,hsP⟩:=W5 hwp
 have hxr:=Uo hsP
 have hxl:=Ty hwp
 obtain⟨c0,t0,hp0⟩:=K2 x hx hxr
 have hC:=Md x hx hxr (by omega)
 dsimp only
 rw[show((0:Int)==0)=true from rfl,Bool.true_and]
 have hit:Un b=x::b.bl.map wB1:=by unfold Un;rw[hwp]
 rw[hit,ZO]
 generalize hall:(b.bl.all fun c=>(YW c).2==0)=A
 rw[hp0]at hC hxl ⊢
 clear hwp hsP hrP hit
 have hxw:=hx
 obtain⟨k,n,bb,l⟩:=x
 clear hx hxw hxr hp0
 obtain⟨⟨fl,sum,⟨di,dn,ds,dh,dd⟩,⟨ri,rn,rs,rh,rd⟩,⟨xi,xn,xs,xh,xd⟩,t,q,life⟩,bl⟩:=b
 obtain⟨_,_,hbl⟩:=hb
 dsimp only at *
 refine AP.ofA (Zl Tryz.func57 U Tryz.ntmps57 U U ?_)
 repeat'(first|(apply Zb (hW);kernel_rfl;(iterate 4 exact U))|(apply Yq [] [] (hC);kernel_rfl;(iterate 10 exact U))|(apply Zi Za;exact U)|(apply Zg Za;exact U)|refine Zf U Qt ?_|refine Zn Za U U U U ?_)
 show AW _ _ _ _
 refine ZJ (fun f tm bx fr=>∃(i c:Nat) (L:List E),f+i=bl.length/\c=L.length/\L=(c0::t0++ZO ((bl.take i).map wB1)).map E.byte/\(∀ c ∈ bl.take i,(YW c).2=0/\c.data.length<=3000)/\((bl.drop i).all fun c=>(YW c).2==0)=A/\tm=[(6,.sl (.own 0) L),(28,.sl .ext (Yo bl)),(29,.int .i64 ((Yo bl).length:Int)),(30,.int .i64 (i:Int))]/\bx=[]/\fr=[⟨c,1,5⟩]) (bl.length+1) (Lands.mk' (m:=bl.length) (Nat.lt_succ_self _) ⟨0,(c0::t0).length,(c0::t0).map E.byte,by omega,by rw[List.length_map],by simp[ZO],by simp,hall,rfl,rfl,rfl⟩ ?_ rfl rfl rfl rfl rfl rfl) ?_
 ·exact .cons rfl (.cons rfl (.cons rfl (.cons rfl .nil)))
 rintro f tm bx fr ⟨i,c,L,hf,hc,hL,hpre,hA,rfl,rfl,rfl⟩
 subst hc
 have hUL:Uni 1 L:=by rw[hL];exact Yr _
 have hLl:L.length=(c0::t0).length+(ZO ((bl.take i).map wB1)).length:=by rw[hL,List.length_map,List.length_append]
 have hpl:=QT _ hpre
 have hti:(bl.take i).length<=1000000:=by rw[List.length_take];omega
 rcases Nat.lt_or_ge i bl.length with hlt|hge
 ·have hdl:decide ((i:Int)<((Yo bl).length:Int))=true:=decide_eq_true (by omega)
  obtain⟨y,hy⟩:∃ y,bl[i]?=some y:=⟨_,List.getElem?_eq_getElem hlt⟩
  have hv:=WX hy
  obtain⟨hyf,hyd⟩:=hbl y (List.mem_of_getElem? hy)
  have hB:=Mg y hyf hyd
  have hdr:bl.drop i=y::bl.drop (i+1):=by
   rw[List.drop_eq_getElem_cons hlt];congr 1
   exact(List.getElem?_eq_some_iff.1 hy).2
  rw[hdr,List.all_cons]at hA
  have ht1:bl.take (i+1)=bl.take i++[y]:=by rw[List.take_add_one,hy];rfl
  have ei:IntKind.i64.wrap ((i:Int)+1)=((i+1:Nat):Int):=by rw[IntWalk.i64_in _ (by omega)];omega
  rcases hwy:YW y with⟨z,e⟩
  have hz:=Hi hyf hyd
  rw[hwy]at hB hA hz
  dsimp only[J9]at hB hA hz
  by_cases he:e=0
  case neg=>
   have te:((e:Int) != 0)=true:=by simpa using he
   have te2:((e:Int)==0)=false:=by simpa using he
   rw[te2,Bool.false_and]at hA
   subst hA
   obtain⟨k2,n2,b2,l2⟩:=z
   repeat'(first|(apply Zb (hB);kernel_rfl;(iterate 4 exact U))|(apply Zi Za;exact U)|(apply Zg Za;exact U)|(apply Zp Za;exact U)|refine Zd U Qt ?_|(apply Zu Za;(iterate 6 exact U);(first|exact Qt|rotate_left);(first|with_reducible assumption|decide +kernel|exact U);(first|exact Zk rfl|with_reducible assumption|decide +kernel|rotate_left)))
   all_goals exact Qe
  subst he
  obtain⟨_,hsy⟩:=Ul hwy
  have hzr:=Uo hsy
  have hzl:=Tx hwy hyd
  have hD:=Ka z hz (by omega) hzr
  obtain⟨c1,t1,hp1⟩:=K2 z hz hzr
  rw[show((0:Int)==0)=true from rfl,Bool.true_and]at hA
  have hLn:L++(c1::t1).map E.byte=(c0::t0++ZO ((bl.take (i+1)).map wB1)).map E.byte:=by
   have e2:(bl.take (i+1)).map wB1=(bl.take i).map wB1++[z]:=by
    rw[ht1,List.map_append]
    show _++[(YW y).1]=_
    rw[hwy]
   rw[hL,e2,UV]
   simp[ZO,hp1]
  have hpre2:∀ c ∈ bl.take (i+1),(YW c).2=0/\c.data.length<=3000:=fun c hc=>by
   rw[ht1]at hc
   rcases List.mem_append.1 hc with hc|hc
   ·exact hpre c hc
   ·simp at hc;subst hc;exact⟨by rw[hwy],hyd⟩
  rw[hp1]at hD hzl
  have hU1:=Yr (c1::t1)
  clear hwy hsy hzr hp1
  obtain⟨k2,n2,b2,l2⟩:=z
  repeat'(first|(apply Zb (hB);kernel_rfl;(iterate 4 exact U))|(apply Zb (hD);kernel_rfl;(iterate 4 exact U))|rw[ei]|(apply Zi Za;exact U)|(apply Zg Za;exact U)|refine Zd U Qt ?_|refine Zf U Qt ?_|(apply ZR Za;(iterate 6 exact U);(first|with_reducible assumption|decide +kernel|exact U|rotate_left);exact U;exact U;(first|exact Zk rfl|with_reducible assumption|decide +kernel|rotate_left);(first|exact Zk rfl|with_reducible assumption|decide +kernel|rotate_left);(first|exact Qt|rotate_left);(first|exact Qt|rotate_left);(first|exact Qt|rotate_left);exact U;exact U)|(apply Zu Za;(iterate 6 exact U);(first|exact Qt|rotate_left);(first|with_reducible assumption|decide +kernel|exact U);(first|exact Zk rfl|with_reducible assumption|decide +kernel|rotate_left)))
  ·refine Lands.mk' (m:=f-1) (by omega) ⟨i+1,L.length+((c1::t1).map E.byte).length,L++(c1::t1).map E.byte,by omega,by rw[List.length_append],hLn,hpre2,hA,rfl,rfl,rfl⟩ ?_ rfl rfl rfl rfl rfl rfl
   exact .cons rfl (.cons rfl (.cons rfl (.cons rfl .nil)))
  all_goals(first|rfl|(simp only[List.length_append,List.length_cons,List.length_nil,List.length_map,Zw];done)|(simp only[List.length_append,List.length_cons,List.length_nil,List.length_map,Zw]at *;(try unfold maxLen);(try simp only[Nat.add_mul]);omega))
 ·have hdl:decide ((i:Int)<((Yo bl).length:Int))=false:=decide_eq_false (by omega)
  rw[List.drop_eq_nil_of_le hge]at hA
  rw[List.take_of_length_le hge]at hL
  subst hA
  subst hL
  repeat'(first|(apply Zg Za;exact U)|refine Zf U Qt ?_)
  all_goals exact Qe
theorem Sx {b:BunV}(hb:BunOk b)(h:Jv b=true):∃ c t,ZO (Un b)=c::t:=by
 unfold Jv at h
 rw[Bool.and_eq_true,beq_iff_eq]at h
 obtain⟨_,hs⟩:=W5 (p:=b.p) (x:=(WJ b.p).1) (Prod.ext rfl h.1)
 obtain⟨c,t,e⟩:=K2 _ (XI (p:=b.p) hb.fl) (Uo hs)
 exact⟨c,t++ZO (b.bl.map fun c=>(YW c).1),by unfold Un;rw[ZO,e];rfl⟩
theorem Mk {b:BunV}(hb:BunOk b)(h:Jv b=true):(ZO (Un b)).length<=4000+4000*b.bl.length:=by
 unfold Jv at h
 simp only[Bool.and_eq_true,beq_iff_eq,List.all_eq_true]at h
 have h1:=Ty (p:=b.p) (x:=(WJ b.p).1) (Prod.ext rfl h.1)
 have h2:=QT b.bl fun c hc=>⟨h.2 c hc,(hb.bl c hc).2⟩
 unfold Un
 rw[ZO,List.length_append]
 have:(ZO (b.bl.map fun c=>(YW c).1)).length<=4000*b.bl.length:=h2
 omega
abbrev Oa (b:BunV):D:=match YZ b with
 | true=>.tup [byE (L6 b),.int .i64 0]
 | false=>.tup [.sl .ext [],.int .i64 3]
theorem TA [Known][KnownU8](b:BunV)(hb:BunOk b):AP Tryz.prog 15 [.agg (bnC b)] (Oa b) []:=by
 have hF:=BP b.bl hb.len fun c hc=>Nat.le_trans (hb.bl c hc).2 (by omega)
 have hI:=L9 b hb
 unfold Oa YZ
 cases t1:Tw b.bl with
 | false=>
  rw[t1]at hF
  obtain⟨⟨fl,sum,⟨di,dn,ds,dh,dd⟩,⟨ri,rn,rs,rh,rd⟩,⟨xi,xn,xs,xh,xd⟩,t,q,life⟩,bl⟩:=b
  dsimp only at *
  refine AP.ofA (Zl Tryz.func15 U Tryz.ntmps15 U U ?_)
  repeat'(first|(apply Zb (hF);kernel_rfl;(iterate 4 exact U))|(apply Zi Za;exact U)|(apply Zg Za;exact U)|(apply Zp Za;exact U)|refine Zd U Qt ?_)
  all_goals exact Qe
 | true=>
 rw[t1]at hF
 unfold Tz at hI
 cases t2:Jv b with
 | false=>
  rw[t2]at hI
  obtain⟨⟨fl,sum,⟨di,dn,ds,dh,dd⟩,⟨ri,rn,rs,rh,rd⟩,⟨xi,xn,xs,xh,xd⟩,t,q,life⟩,bl⟩:=b
  dsimp only at *
  refine AP.ofA (Zl Tryz.func15 U Tryz.ntmps15 U U ?_)
  repeat'(first|(apply Zb (hF);kernel_rfl;(iterate 4 exact U))|(apply Zb (hI);kernel_rfl;(iterate 4 exact U))|(apply Zi Za;exact U)|(apply Zg Za;exact U)|(apply Zp Za;exact U)|refine Zm U U U Qt ?_|refine Zj U Qt U U ?_|refine Zd U Qt ?_|refine Zf U Qt ?_)
  all_goals exact Qe
 | true=>
 rw[t2]at hI
 obtain⟨c0,t0,hp⟩:=Sx hb t2
 have hl:=Mk hb t2
 have hl2:=hb.len
 unfold L6
 rw[hp]at hI hl ⊢
 have hU:=Yr (c0::t0)
 have hlm:((c0::t0).map E.byte).length=(c0::t0).length:=List.length_map ..
 cases t3:decide (((c0::t0).length:Int)<=598) with
 | false=>
  have t4:decide ((((c0::t0).map E.byte).length:Int)>598)=true:=by rw[hlm];simp at t3 ⊢;omega
  obtain⟨⟨fl,sum,⟨di,dn,ds,dh,dd⟩,⟨ri,rn,rs,rh,rd⟩,⟨xi,xn,xs,xh,xd⟩,t,q,life⟩,bl⟩:=b
  dsimp only at *
  refine AP.ofA (Zl Tryz.func15 U Tryz.ntmps15 U U ?_)
  repeat'(first|(apply Zb (hF);kernel_rfl;(iterate 4 exact U))|(apply Zb (hI);kernel_rfl;(iterate 4 exact U))|(apply Zi Za;exact U)|(apply Zg Za;exact U)|(apply Zp Za;exact U)|refine Ze U U U Qt ?_|refine Zh U Qt U U ?_|refine Zd U Qt ?_|refine Zf U Qt ?_|refine Zn Za U U U U ?_)
  all_goals exact Qe
 | true=>
  have t4:decide ((((c0::t0).map E.byte).length:Int)>598)=false:=by rw[hlm];simp at t3 ⊢;omega
  have t5:=of_decide_eq_true t3
  have hE:[E.int .u8 159]++(c0::t0).map E.byte++[E.int .u8 255]=(159::(c0::t0++[255])).map E.byte:=by simp
  have hU1:Uni 1 ([E.int .u8 159]++(c0::t0).map E.byte):=(Yr [159]).append hU
  obtain⟨⟨fl,sum,⟨di,dn,ds,dh,dd⟩,⟨ri,rn,rs,rh,rd⟩,⟨xi,xn,xs,xh,xd⟩,t,q,life⟩,bl⟩:=b
  dsimp only at *
  refine AP.ofA (Zl Tryz.func15 U Tryz.ntmps15 U U ?_)
  repeat'(first|(apply Zb (hF);kernel_rfl;(iterate 4 exact U))|(apply Zb (hI);kernel_rfl;(iterate 4 exact U))|(apply Zi Za;exact U)|(apply Zg Za;exact U)|(apply Zp Za;exact U)|refine Ze U U U Qt ?_|refine Zh U Qt U U ?_|refine Zf U Qt ?_|refine Zn Za U U U U ?_|refine ZM Za U U U U U U U U U U U U ?_|(apply ZR Za;(iterate 6 exact U);(first|with_reducible assumption|decide +kernel|exact U|rotate_left);exact U;exact U;(first|exact Zk rfl|with_reducible assumption|decide +kernel|rotate_left);(first|exact Zk rfl|with_reducible assumption|decide +kernel|rotate_left);(first|exact Qt|rotate_left);(first|exact Qt|rotate_left);(first|exact Qt|rotate_left);exact U;exact U))
  all_goals first|((apply Zq [];(apply Zc Za;exact U);(iterate 4 exact U)))|skip
  all_goals first|rfl|(exact congrArg (fun l=>D.tup [.sl .ext l,.int .i64 0]) hE)|(first|rfl|(simp only[List.length_append,List.length_cons,List.length_nil,List.length_map,Zw];done)|(simp only[List.length_append,List.length_cons,List.length_nil,List.length_map,Zw]at *;(try unfold maxLen);(try simp only[Nat.add_mul]);omega))
theorem Ob [Known][KnownU8](b:BunV)(hb:BunOk b):AP Tryz.prog 8 [.agg (bnC b)] (.bool (YZ b)) []:=by
 have hW:=TA b hb
 unfold Oa at hW
 cases h:YZ b with
 | false=>
  rw[h]at hW
  obtain⟨⟨fl,sum,⟨di,dn,ds,dh,dd⟩,⟨ri,rn,rs,rh,rd⟩,⟨xi,xn,xs,xh,xd⟩,t,q,life⟩,bl⟩:=b
  dsimp only at *
  refine AP.ofA (Zl Tryz.func8 U Tryz.ntmps8 U U ?_)
  repeat'(first|(apply Zb (hW);kernel_rfl;(iterate 4 exact U))|(apply Zi Za;exact U)|(apply Zg Za;exact U))
  all_goals exact Qe
 | true=>
  rw[h]at hW
  generalize L6 b=pb at *
  obtain⟨⟨fl,sum,⟨di,dn,ds,dh,dd⟩,⟨ri,rn,rs,rh,rd⟩,⟨xi,xn,xs,xh,xd⟩,t,q,life⟩,bl⟩:=b
  dsimp only at *
  refine AP.ofA (Zl Tryz.func8 U Tryz.ntmps8 U U ?_)
  repeat'(first|(apply Zb (hW);kernel_rfl;(iterate 4 exact U))|(apply Zi Za;exact U)|(apply Zg Za;exact U))
  all_goals exact Qe
abbrev bnR (r:BunV × Int):D:=.tup [.agg (bnC r.1),.int .i64 r.2]
def IW (p:PriV):Bool:=decide (IntKind.i64.wrap (IntKind.i64.wrap (IntKind.i64.wrap ((p.dest.h.length:Int)+(p.dest.d.length:Int))+(p.rep.h.length:Int))+(p.rep.d.length:Int))>300)||decide (IntKind.i64.wrap ((p.src.h.length:Int)+(p.src.d.length:Int))>300)
theorem Ml [Known](p:PriV):AP Tryz.prog 76 [.agg (prC p)] (.bool (IW p)) []:=by
 have hI:=Xw p.src p.t p.q
 unfold IW
 obtain⟨fl,sum,⟨di,dn,ds,dh,dd⟩,⟨ri,rn,rs,rh,rd⟩,⟨xi,xn,xs,xh,xd⟩,t,q,life⟩:=p
 try dsimp only at *
 generalize (IntKind.i64.wrap ((xh.length:Int)+(xd.length:Int)))=w2 at *
 cases t1:decide (IntKind.i64.wrap (IntKind.i64.wrap (IntKind.i64.wrap ((dh.length:Int)+(dd.length:Int))+(rh.length:Int))+(rd.length:Int))>300)<;>cases t2:decide (w2>300)
 all_goals
  rw[t2]at hI
  refine AP.ofA (Zl Tryz.func76 U Tryz.ntmps76 U U ?_)
  repeat'(first|(apply Zb (hI);kernel_rfl;(iterate 4 exact U))|(apply Zi Za;exact U)|(apply Zg Za;exact U)|refine Ze U U U Qt ?_|refine Zm U U U Qt ?_|refine Zj U Qt U U ?_|refine Zh U Qt U U ?_|refine Yb Za U U U U ?_)
  all_goals exact Qe
end Go.Proofs.YtmljabhmajehnaaGreatDoor
end
