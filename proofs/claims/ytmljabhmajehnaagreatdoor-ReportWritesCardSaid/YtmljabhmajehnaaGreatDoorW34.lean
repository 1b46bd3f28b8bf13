/- First blocks: what is read may be written. -/
import Derived.Test.YtmljabhmajehnaaGreatDoorW33
import Derived.Test.YtmljabhmajehnaaGreatDoorW29
import Derived.Test.YtmljabhmajehnaaGreatDoorW28
import Derived.Test.YtmljabhmajehnaaGreatDoorW24
import Derived.Test.YtmljabhmajehnaaGreatDoorW27
import Derived.Test.YtmljabhmajehnaaGreatDoorW18
import Derived.Test.YtmljabhmajehnaaGreatDoorW23
set_option linter.unusedVariables false
set_option linter.unusedSimpArgs false
section
open Go.RowKit Go.Pl Go.Av
namespace Go.Proofs.YtmljabhmajehnaaGreatDoor
set_option maxHeartbeats 4000000
theorem Vp {p:PriV}{x:It}(h:WW p=(x,0)):Vm p=true/\VJ (VX p) 2=(x,0):=by
 unfold WW at h
 cases hr:Vm p with
 | true=>rw[hr]at h;exact⟨rfl,h⟩
 | false=>rw[hr]at h;simp at h
structure BunV where
 p:PriV
 bl:List BlkV
def Xc (k:Nat):Bool:=k==1||(k==6||(k==7||k==10))
def OG:List BlkV->List BlkV->Bool
 | _,[]=>true
 | pre,b::r=>Wm b&&(pre.all (fun c=>c.num != b.num&&(c.ty != b.ty || !Xc b.ty))&&OG (pre++[b]) r)
def N2 (l:List BlkV):Bool:=match l.getLast? with
 | none=>false
 | some b=>decide (l.length<=8)&&(b.ty==1&&(b.num==1&&OG [] l))
def UA (b:BunV):List It:=(WW b.p).1::b.bl.map fun c=>(Y9 c).1
def Xd (b:BunV):Bool:=(WW b.p).2==0&&b.bl.all fun c=>(Y9 c).2==0
def N3 (b:BunV):List UInt8:=159::(ZO (UA b)++[255])
def Vu (b:BunV):Bool:=N2 b.bl&&(Xd b&&decide (((ZO (UA b)).length:Int)<=598))
theorem QV {l:List It}{a:Int}{x:It}(h:VJ l a=(x,0)):ZN x=true:=by
 unfold VJ at h
 split at h
 ·simp at h
 ·split at h
  ·simp at h
  ·split at h
   ·split at h
    ·rename_i hr
     simp only[Prod.mk.injEq,and_true]at h
     subst h;exact hr
    ·simp at h
   ·split at h
    ·simp at h
    ·split at h
     ·simp at h
     ·rename_i hr
      simp only[Prod.mk.injEq,and_true]at h
      subst h;exact hr
def bn0:BunV:=⟨pr0,[]⟩
abbrev bkE (b:BlkV):E:=.agg [.int .u64 (b.ty:Int),.int .u64 (b.num:Int),.int .u64 (b.fl:Int),.int .i64 b.sum,.sl (b.data.map E.byte)]
abbrev Wi (l:List BlkV):List E:=l.map bkE
theorem N4 (l:List BlkV):Uni 5 (Wi l):=Uni.map (f:=bkE) (fun _=>rfl) l
theorem Xq (l:List BlkV):(Wi l).length=l.length:=List.length_map ..
theorem Jp {l:List BlkV}{i:Nat}{b:BlkV}(h:l[i]?=some b):(Wi l)[((i:Nat):Int).toNat]?=some (.agg [.int .u64 (b.ty:Int),.int .u64 (b.num:Int),.int .u64 (b.fl:Int),.int .i64 b.sum,.sl (b.data.map E.byte)]):=by
 rw[Int.toNat_natCast,List.getElem?_map,h];rfl
theorem N5 (k:Nat):Xc k=(((k:Int)==1)||(((k:Int)==6)||(((k:Int)==7)||((k:Int)==10)))):=by
 unfold Xc
 rw[Bool.eq_iff_iff]
 simp only[Bool.or_eq_true,beq_iff_eq]
 omega
theorem N6 [Known](k:Nat):AP Tryz.prog 106 [.int .u64 (k:Int)] (.bool (Xc k)) []:=by
 rw[N5]
 refine AP.ofA (Zl Tryz.func106 Z Tryz.ntmps106 Z Z ?_)
 repeat'(first|(apply Zi Za;exact Z)|(apply Zf Za;exact Z)|refine Z2 ?_|refine Ze Z Z Z Qt ?_|refine Zn Z Z Z Qt ?_|(apply Yp;exact Z;exact Z;all_goals intro hb)|refine Zj Z Qt Z Z ?_|refine Zh Z Qt Z Z ?_)
 all_goals(apply Zq [];(apply Zc Za;exact Z);(iterate 4 exact Z))
 all_goals first|rfl|(simp only[*];done)|(simp only[*];rfl)|(simp[*];done)
def Ul (b c:BlkV):Bool:=c.num != b.num&&(c.ty != b.ty || !Xc b.ty)
theorem Rh (b c:BlkV):Ul b c=(((c.num:Int) != (b.num:Int))&&(((c.ty:Int) != (b.ty:Int)) || !Xc b.ty)):=by
 have e:∀ a b:Nat,(a != b)=(((a:Nat):Int) != (b:Int)):=fun a b=>by rw[Bool.eq_iff_iff,bne_iff_ne,bne_iff_ne];omega
 unfold Ul
 rw[e,e]
theorem Ty (pre:List BlkV)(b:BlkV)(r:List BlkV):OG pre (b::r)=(Wm b&&pre.all (Ul b)&&OG (pre++[b]) r):=by
 rw[OG,Bool.and_assoc];rfl
theorem Ri (l:List BlkV):N2 l=match l[l.length-1]? with
  | none=>false
  | some b=>decide (l.length<=8)&&((b.ty:Int)==1&&((b.num:Int)==1&&OG [] l)):=by
 unfold N2
 rw[List.getLast?_eq_getElem?]
 cases h:l[l.length-1]? with
 | none=>rfl
 | some b=>
  have e:∀ a:Nat,(a==1)=(((a:Nat):Int)==1):=fun a=>by rw[Bool.eq_iff_iff,beq_iff_eq,beq_iff_eq];omega
  dsimp only
  rw[e,e]
theorem Rj [Known][KnownU8](l:List BlkV)(hl:l.length<=1000000)(hd:∀ c ∈ l,c.data.length<=100000):AP Tryz.prog 56 [.sl .ext (Wi l)] (.bool (N2 l)) []:=by
 have hlen:=Xq l
 have hU:=N4 l
 have en:IntKind.i64.wrap (((Wi l).length:Int)-1)=(l.length:Int)-1:=by rw[IntWalk.i64_in _ (by omega)];omega
 rw[Ri]
 cases hlast:l[l.length-1]? with
 | none=>
  have h0:l.length=0:=by have:=List.getElem?_eq_none_iff.1 hlast;omega
  have t1:decide ((l.length:Int)-1<0)=true:=decide_eq_true (by omega)
  refine AP.ofA (Zl Tryz.func56 Z Tryz.ntmps56 Z Z ?_)
  repeat'(first|refine Uf ?_|rw[en]|(apply Zi Za;exact Z)|(apply Zf Za;exact Z)|(apply Zp Za;exact Z)|refine Z2 ?_|refine Zn Z Z Z Qt ?_|refine Zj Z Qt Z Z ?_|refine Zd Z Qt ?_|refine Zm Za Z Z Z Z ?_)
  all_goals exact Qe
 | some b=>
 have hlt:=(List.getElem?_eq_some_iff.1 hlast).1
 have hv0:=Jp hlast
 rw[show((l.length-1:Nat):Int)=(l.length:Int)-1 from by omega]at hv0
 have t1:decide ((l.length:Int)-1<0)=false:=decide_eq_false (by omega)
 dsimp only
 rcases Nat.lt_or_ge 8 l.length with h8|h8
 ·have t2:decide ((l.length:Int)-1 ≥ 8)=true:=decide_eq_true (by omega)
  rw[decide_eq_false (by omega:¬ l.length<=8)]
  refine AP.ofA (Zl Tryz.func56 Z Tryz.ntmps56 Z Z ?_)
  repeat'(first|refine Uf ?_|rw[en]|(apply Zi Za;exact Z)|(apply Zf Za;exact Z)|(apply Zp Za;exact Z)|refine Z2 ?_|refine Ze Z Z Z Qt ?_|refine Zn Z Z Z Qt ?_|refine Zj Z Qt Z Z ?_|refine Zh Z Qt Z Z ?_|refine Zd Z Qt ?_|refine Zm Za Z Z Z Z ?_)
  all_goals exact Qe
 have t2:decide ((l.length:Int)-1 ≥ 8)=false:=decide_eq_false (by omega)
 rw[decide_eq_true h8]
 have i0:(0:Int)<=(l.length:Int)-1:=by omega
 cases t3:((b.ty:Int)==1) with
 | false=>
  have t5:((b.ty:Int) != 1)=true:=by rw[bne,t3];rfl
  refine AP.ofA (Zl Tryz.func56 Z Tryz.ntmps56 Z Z ?_)
  repeat'(first|refine Uf ?_|rw[en]|(apply Zi Za;exact Z)|(apply Zf Za;exact Z)|(apply Zp Za;exact Z)|refine Z2 ?_|refine Ze Z Z Z Qt ?_|refine Zn Z Z Z Qt ?_|refine Zj Z Qt Z Z ?_|refine Zh Z Qt Z Z ?_|refine Zd Z Qt ?_|refine Zm Za Z Z Z Z ?_|(apply Zv Za;(iterate 6 exact Z);(first|exact Qt|rotate_left);(first|with_reducible assumption|decide +kernel|exact Z);(first|exact Zk rfl|with_reducible assumption|decide +kernel|rotate_left)))
  all_goals exact Qe
 | true=>
 have t5:((b.ty:Int) != 1)=false:=by rw[bne,t3];rfl
 cases t4:((b.num:Int)==1) with
 | false=>
  have t6:((b.num:Int) != 1)=true:=by rw[bne,t4];rfl
  refine AP.ofA (Zl Tryz.func56 Z Tryz.ntmps56 Z Z ?_)
  repeat'(first|refine Uf ?_|rw[en]|(apply Zi Za;exact Z)|(apply Zf Za;exact Z)|(apply Zp Za;exact Z)|refine Z2 ?_|refine Ze Z Z Z Qt ?_|refine Zh Z Qt Z Z ?_|refine Zd Z Qt ?_|refine Zm Za Z Z Z Z ?_|(apply Zv Za;(iterate 6 exact Z);(first|exact Qt|rotate_left);(first|with_reducible assumption|decide +kernel|exact Z);(first|exact Zk rfl|with_reducible assumption|decide +kernel|rotate_left)))
  all_goals exact Qe
 | true=>
 have t6:((b.num:Int) != 1)=false:=by rw[bne,t4];rfl
 rw[Bool.true_and,Bool.true_and,Bool.true_and]
 generalize hF:OG [] l=F
 refine AP.ofA (Zl Tryz.func56 Z Tryz.ntmps56 Z Z ?_)
 repeat'(first|refine Uf ?_|rw[en]|(apply Zi Za;exact Z)|(apply Zf Za;exact Z)|(apply Zp Za;exact Z)|refine Ze Z Z Z Qt ?_|refine Zh Z Qt Z Z ?_|refine Zg Z Qt ?_|refine Zm Za Z Z Z Z ?_|(apply Zv Za;(iterate 6 exact Z);(first|exact Qt|rotate_left);(first|with_reducible assumption|decide +kernel|exact Z);(first|exact Zk rfl|with_reducible assumption|decide +kernel|rotate_left)))
 refine ZQ (fun f tm bx fr=>∃(i:Nat),f+i=l.length/\OG (l.take i) (l.drop i)=F/\tm=[(0,.sl .ext (Wi l)),(4,.bool true),(34,.sl .ext (Wi l)),(35,.int .i64 ((Wi l).length:Int)),(36,.int .i64 (i:Int))]/\bx=[]/\fr=[]) (l.length+1) (Lands.mk' (m:=l.length) (Nat.lt_succ_self _) ⟨0,by omega,hF,rfl,rfl,rfl⟩ ?_ rfl rfl rfl rfl rfl rfl) ?_
 ·exact .cons rfl (.cons rfl (.cons rfl (.cons rfl (.cons rfl .nil))))
 rintro f tm bx fr ⟨i,hf,hq,rfl,rfl,rfl⟩
 rcases Nat.lt_or_ge i l.length with hlt|hge
 ·have hdl:decide ((i:Int)<((Wi l).length:Int))=true:=decide_eq_true (by omega)
  obtain⟨b,hy⟩:∃ y,l[i]?=some y:=⟨_,List.getElem?_eq_getElem hlt⟩
  have hv:=Jp hy
  have hR:=K0 b (hd b (List.mem_of_getElem? hy))
  have hA:=N6 b.ty
  have hdr:l.drop i=b::l.drop (i+1):=by
   rw[List.drop_eq_getElem_cons hlt];congr 1
   exact(List.getElem?_eq_some_iff.1 hy).2
  rw[hdr,Ty]at hq
  have ht1:l.take (i+1)=l.take i++[b]:=by rw[List.take_add_one,hy];rfl
  rw[<- ht1]at hq
  have ei:IntKind.i64.wrap ((i:Int)+1)=((i+1:Nat):Int):=by rw[IntWalk.i64_in _ (by omega)];omega
  generalize hr:Wm b=r at hR hq
  have hle:((i:Nat):Int).toNat<=(Wi l).length:=by rw[Int.toNat_natCast];omega
  have hI:(Wi l).take ((i:Nat):Int).toNat=Wi (l.take i):=by rw[Int.toNat_natCast];exact List.map_take.symm
  have hli:(l.take i).length=i:=by rw[List.length_take];omega
  have hlb:=Xq (l.take i)
  have hU2:=N4 (l.take i)
  generalize hlt2:l.take i=p at *
  repeat'(first|(apply Zb (hR);kernel_rfl;(iterate 4 exact Z))|refine Nf Za Z Z Z Z Z Z hU (Int.natCast_nonneg _) hle hI ?_|(apply Zi Za;exact Z)|(apply Zf Za;exact Z)|refine Zd Z Qt ?_|refine Zm Za Z Z Z Z ?_|(apply Zv Za;(iterate 6 exact Z);(first|exact Qt|rotate_left);(first|with_reducible assumption|decide +kernel|exact Z);(first|exact Zk rfl|with_reducible assumption|decide +kernel|rotate_left)))
  refine ZQ (fun f tm bx fr=>∃(j:Nat),f+j=p.length/\tm=[(0,.sl .ext (Wi l)),(4,.bool (r&&(p.take j).all (Ul b))),(6,.ptr 0 0),(34,.sl .ext (Wi l)),(35,.int .i64 ((Wi l).length:Int)),(36,.int .i64 (i:Int)),(45,.sl .ext (Wi p)),(46,.int .i64 ((Wi p).length:Int)),(47,.int .i64 (j:Int))]/\bx=[bkC b]/\fr=[]) (p.length+1) (Lands.mk' (m:=p.length) (Nat.lt_succ_self _) ⟨0,by omega,by rw[List.take_zero,List.all_nil,Bool.and_true],rfl,rfl⟩ ?_ rfl rfl rfl rfl rfl rfl) ?_
  ·exact .cons rfl (.cons rfl (.cons rfl (.cons rfl (.cons rfl (.cons rfl (.cons rfl (.cons rfl (.cons rfl .nil))))))))
  rintro f2 tm bx fr ⟨j,hj,rfl,rfl,rfl⟩
  rcases Nat.lt_or_ge j p.length with hjl|hjg
  ·have hdl2:decide ((j:Int)<((Wi p).length:Int))=true:=decide_eq_true (by omega)
   obtain⟨c,hc⟩:∃ y,p[j]?=some y:=⟨_,List.getElem?_eq_getElem hjl⟩
   have hv2:=Jp hc
   have ej:IntKind.i64.wrap ((j:Int)+1)=((j+1:Nat):Int):=by rw[IntWalk.i64_in _ (by omega)];omega
   have ht2:(p.take (j+1)).all (Ul b)=((p.take j).all (Ul b)&&Ul b c):=by rw[List.take_add_one,hc,List.all_append];simp
   have hok:(r&&(p.take (j+1)).all (Ul b))=((r&&(p.take j).all (Ul b))&&(((c.num:Int) != (b.num:Int))&&(((c.ty:Int) != (b.ty:Int)) || !Xc b.ty))):=by rw[ht2,Rh,Bool.and_assoc]
   generalize (r&&(p.take j).all (Ul b))=ok at *
   have key:∀ v:Bool,v=(r&&(p.take (j+1)).all (Ul b))->∃(j':Nat),f2-1+j'=p.length/\[(0,D.sl .ext (Wi l)),(4,.bool v),(6,.ptr 0 0),(34,.sl .ext (Wi l)),(35,.int .i64 ((Wi l).length:Int)),(36,.int .i64 (i:Int)),(45,.sl .ext (Wi p)),(46,.int .i64 ((Wi p).length:Int)),(47,.int .i64 ((j+1:Nat):Int))]=[(0,.sl .ext (Wi l)),(4,.bool (r&&(p.take j').all (Ul b))),(6,.ptr 0 0),(34,.sl .ext (Wi l)),(35,.int .i64 ((Wi l).length:Int)),(36,.int .i64 (i:Int)),(45,.sl .ext (Wi p)),(46,.int .i64 ((Wi p).length:Int)),(47,.int .i64 (j':Int))]/\[bkC b]=[bkC b]/\([]:List Fr)=[]:=fun v hv=>⟨j+1,by omega,by rw[hv],rfl,rfl⟩
   cases ok<;>cases n1:((c.num:Int) != (b.num:Int))<;>cases n2:((c.ty:Int) != (b.ty:Int))<;>cases n3:Xc b.ty<;>rw[n1,n2,n3]at hok<;>rw[n3]at hA
   all_goals repeat'(first|rw[ej]|(apply Zb (hA);kernel_rfl;(iterate 4 exact Z))|(apply Zi Za;exact Z)|(apply Zf Za;exact Z)|refine Z2 ?_|refine Ze Z Z Z Qt ?_|refine Zt Z Z Z Qt ?_|refine Zn Z Z Z Qt ?_|refine U7 Z Z Z ?_|refine Zj Z Qt Z Z ?_|refine Zh Z Qt Z Z ?_|refine Zd Z Qt ?_|refine Yc ?_|(apply Zv Za;(iterate 6 exact Z);(first|exact Qt|rotate_left);(first|with_reducible assumption|decide +kernel|exact Z);(first|exact Zk rfl|with_reducible assumption|decide +kernel|rotate_left)))
   all_goals refine Lands.mk' (m:=f2-1) (by omega) (key _ (by rw[hok])) ?_ rfl rfl rfl rfl rfl rfl
   all_goals exact .cons rfl (.cons rfl (.cons rfl (.cons rfl (.cons rfl (.cons rfl (.cons rfl (.cons rfl (.cons rfl .nil))))))))
  ·have hdl2:decide ((j:Int)<((Wi p).length:Int))=false:=decide_eq_false (by omega)
   rw[List.take_of_length_le hjg]
   generalize (r&&p.all (Ul b))=ok at *
   cases ok with
   | true=>
    repeat'(first|rw[ei]|(apply Zf Za;exact Z)|refine Z2 ?_|refine Zg Z Qt ?_|refine Yc ?_)
    refine Lands.mk' (m:=f-1) (by omega) ⟨i+1,by omega,by simpa using hq,rfl,rfl,rfl⟩ ?_ rfl rfl rfl rfl rfl rfl
    exact .cons rfl (.cons rfl (.cons rfl (.cons rfl (.cons rfl .nil))))
   | false=>
    rw[Bool.false_and]at hq
    subst hq
    repeat'(first|(apply Zf Za;exact Z)|refine Z2 ?_|refine Zd Z Qt ?_|refine Zg Z Qt ?_)
    all_goals exact Qe
 ·have hdl:decide ((i:Int)<((Wi l).length:Int))=false:=decide_eq_false (by omega)
  rw[List.drop_eq_nil_of_le hge,OG]at hq
  subst hq
  repeat'(first|(apply Zf Za;exact Z)|refine Z2 ?_|refine Zg Z Qt ?_)
  all_goals exact Qe
abbrev bnC (b:BunV):List D:=[.int .u64 (b.p.fl:Int),.int .i64 b.p.sum,.bool b.p.dest.i,.int .u64 (b.p.dest.n:Int),.int .u64 (b.p.dest.s:Int),.str b.p.dest.h,.str b.p.dest.d,.bool b.p.rep.i,.int .u64 (b.p.rep.n:Int),.int .u64 (b.p.rep.s:Int),.str b.p.rep.h,.str b.p.rep.d,.bool b.p.src.i,.int .u64 (b.p.src.n:Int),.int .u64 (b.p.src.s:Int),.str b.p.src.h,.str b.p.src.d,.int .u64 (b.p.t:Int),.int .u64 (b.p.q:Int),.int .u64 (b.p.life:Int),.sl .ext (Wi b.bl)]
structure BunOk (b:BunV):Prop where
 fl:b.p.fl<18446744073709551616
 len:b.bl.length<=1000000
 bl:∀ c ∈ b.bl,c.fl<18446744073709551616/\c.data.length<=3000
theorem X7 {l:List It}{a:Int}{x:It}(h:VJ l a=(x,0)):(ZH x).length<=(ZO l).length+40:=by
 rcases GH h with rfl|⟨s,hs,rfl⟩
 ·have:=Yi 4 0 [] l
  simp at this ⊢;omega
 ·have h0:=Yi 4 0 [] (l++[.mk 2 0 (Qv s (ZH (Yw s l))) []])
  have h1:=Yi 2 0 (Qv s (ZH (Yw s l))) []
  have h2:=XO s (ZH (Yw s l)) hs
  rw[JR]at h0
  simp only[ZO,List.length_append,List.length_nil,Nat.add_zero,Nat.zero_add]at h0 h1
  show(ZH (.mk 4 0 [] (l++[.mk 2 0 (Qv s (ZH (Yw s l))) []]))).length<=_
  omega
theorem N7 {b:BlkV}{x:It}(h:Y9 b=(x,0))(hd:b.data.length<=3000):(ZH x).length<=4000:=by
 obtain⟨_,hs⟩:=U2 h
 have h0:=X7 hs
 have n1:=Ys b.ty
 have n2:=Ys b.num
 have n3:=Ys b.fl
 have n4:=Ys b.sum.toNat
 have n5:=Yi 2 0 b.data []
 simp only[VY,ZO,List.length_append,List.length_nil,Nat.add_zero,Nat.zero_add]at h0 n5
 omega
theorem N8 {p:PriV}{x:It}(h:WW p=(x,0)):(ZH x).length<=4000:=by
 obtain⟨hr,hs⟩:=Vp h
 have h0:=X7 hs
 obtain⟨h1,h2,h3,h4,h5,h6⟩:=Jk hr
 obtain⟨i1,_,_⟩:=YT.1 h5
 have n1:=Ys 7
 have n2:=Ys p.fl
 have n3:=Ys p.sum.toNat
 have n4:=Ug h3
 have n5:=Ug i1
 have n6:=Ug h4
 have n7:=Uy p.t p.q
 have n8:=Ys p.life
 have e7:IV p.t p.q=.mk 4 0 [] [.mk 0 p.t [] [],.mk 0 p.q [] []]:=rfl
 rw[e7]at n7
 simp only[VX,ZO,List.length_append,List.length_nil,Nat.add_zero,Nat.zero_add]at h0
 omega
abbrev wB1 (c:BlkV):It:=(Y9 c).1
abbrev GP (b:BunV):D:=match Xd b with
 | true=>.tup [byE (ZO (UA b)),.bool true]
 | false=>.tup [.sl .ext [],.bool false]
theorem U4:∀(l:List BlkV),(∀ c ∈ l,(Y9 c).2=0/\c.data.length<=3000)->(ZO (l.map wB1)).length<=4000*l.length
 | [],_=>by simp[ZO]
 | c::l,h=>by
  have h1:(ZH (wB1 c)).length<=4000:=N7 (x:=(Y9 c).1) (Prod.ext rfl (h c (List.mem_cons_self ..)).1) (h c (List.mem_cons_self ..)).2
  have h2:=U4 l fun y hy=>h y (List.mem_cons_of_mem _ hy)
  rw[List.map_cons,ZO,List.length_append,List.length_cons]
  omega
theorem N9 [Known][KnownU8](b:BunV)(hb:BunOk b):AP Tryz.prog 57 [.agg (bnC b)] (GP b) []:=by
 have hW:=GJ b.p hb.fl
 have hlen:=Xq b.bl
 have hUb:=N4 b.bl
 have hl:=hb.len
 unfold GP Xd
 rcases hwp:WW b.p with⟨x,e⟩
 rw[hwp]at hW
 have hx:=K1 (p:=b.p) hb.fl
 rw[hwp]at hx
 dsimp only[Jj]at hW hx
 by_cases he:e=0
 case neg=>
  have te:((e:Int) != 0)=true:=by simpa using he
  have te2:((e:Int)==0)=false:=by simpa using he
  dsimp only
  rw[te2]
  obtain⟨k,n,bb,l⟩:=x
  obtain⟨⟨fl,sum,⟨di,dn,ds,dh,dd⟩,⟨ri,rn,rs,rh,rd⟩,⟨xi,xn,xs,xh,xd⟩,t,q,life⟩,bl⟩:=b
  dsimp only at *
  refine AP.ofA (Zl Tryz.func57 Z Tryz.ntmps57 Z Z ?_)
  repeat'(first|(apply Zb (hW);kernel_rfl;(iterate 4 exact Z))|(apply Zi Za;exact Z)|(apply Zf Za;exact Z)|(apply Zp Za;exact Z)|refine Zd Z Qt ?_)
  all_goals exact Qe
 subst he
 obtain⟨hrP,hsP⟩:=Vp hwp
 have hxr:=QV hsP
 have hxl:=N8 hwp
 obtain⟨c0,t0,hp0⟩:=GG x hx hxr
 have hC:=Tr x hx hxr (by omega)
 dsimp only
 rw[show((0:Int)==0)=true from rfl,Bool.true_and]
 have hit:UA b=x::b.bl.map wB1:=by unfold UA;rw[hwp]
 rw[hit,ZO]
 generalize hall:(b.bl.all fun c=>(Y9 c).2==0)=A
 rw[hp0]at hC hxl ⊢
 clear hwp hsP hrP hit
 have hxw:=hx
 obtain⟨k,n,bb,l⟩:=x
 clear hx hxw hxr hp0
 obtain⟨⟨fl,sum,⟨di,dn,ds,dh,dd⟩,⟨ri,rn,rs,rh,rd⟩,⟨xi,xn,xs,xh,xd⟩,t,q,life⟩,bl⟩:=b
 obtain⟨_,_,hbl⟩:=hb
 dsimp only at *
 refine AP.ofA (Zl Tryz.func57 Z Tryz.ntmps57 Z Z ?_)
 repeat'(first|(apply Zb (hW);kernel_rfl;(iterate 4 exact Z))|(apply Ya [] [] (hC);kernel_rfl;(iterate 10 exact Z))|(apply Zi Za;exact Z)|(apply Zf Za;exact Z)|refine Zg Z Qt ?_|refine Zm Za Z Z Z Z ?_)
 show AW _ _ _ _
 refine ZQ (fun f tm bx fr=>∃(i c:Nat) (L:List E),f+i=bl.length/\c=L.length/\L=(c0::t0++ZO ((bl.take i).map wB1)).map E.byte/\(∀ c ∈ bl.take i,(Y9 c).2=0/\c.data.length<=3000)/\((bl.drop i).all fun c=>(Y9 c).2==0)=A/\tm=[(6,.sl (.own 0) L),(28,.sl .ext (Wi bl)),(29,.int .i64 ((Wi bl).length:Int)),(30,.int .i64 (i:Int))]/\bx=[]/\fr=[⟨c,1,5⟩]) (bl.length+1) (Lands.mk' (m:=bl.length) (Nat.lt_succ_self _) ⟨0,(c0::t0).length,(c0::t0).map E.byte,by omega,by rw[List.length_map],by simp[ZO],by simp,hall,rfl,rfl,rfl⟩ ?_ rfl rfl rfl rfl rfl rfl) ?_
 ·exact .cons rfl (.cons rfl (.cons rfl (.cons rfl .nil)))
 rintro f tm bx fr ⟨i,c,L,hf,hc,hL,hpre,hA,rfl,rfl,rfl⟩
 subst hc
 have hUL:Uni 1 L:=by rw[hL];exact Yj _
 have hLl:L.length=(c0::t0).length+(ZO ((bl.take i).map wB1)).length:=by rw[hL,List.length_map,List.length_append]
 have hpl:=U4 _ hpre
 have hti:(bl.take i).length<=1000000:=by rw[List.length_take];omega
 rcases Nat.lt_or_ge i bl.length with hlt|hge
 ·have hdl:decide ((i:Int)<((Wi bl).length:Int))=true:=decide_eq_true (by omega)
  obtain⟨y,hy⟩:∃ y,bl[i]?=some y:=⟨_,List.getElem?_eq_getElem hlt⟩
  have hv:=Jp hy
  obtain⟨hyf,hyd⟩:=hbl y (List.mem_of_getElem? hy)
  have hB:=Tv y hyf hyd
  have hdr:bl.drop i=y::bl.drop (i+1):=by
   rw[List.drop_eq_getElem_cons hlt];congr 1
   exact(List.getElem?_eq_some_iff.1 hy).2
  rw[hdr,List.all_cons]at hA
  have ht1:bl.take (i+1)=bl.take i++[y]:=by rw[List.take_add_one,hy];rfl
  have ei:IntKind.i64.wrap ((i:Int)+1)=((i+1:Nat):Int):=by rw[IntWalk.i64_in _ (by omega)];omega
  rcases hwy:Y9 y with⟨z,e⟩
  have hz:=NU hyf hyd
  rw[hwy]at hB hA hz
  dsimp only[Jj]at hB hA hz
  by_cases he:e=0
  case neg=>
   have te:((e:Int) != 0)=true:=by simpa using he
   have te2:((e:Int)==0)=false:=by simpa using he
   rw[te2,Bool.false_and]at hA
   subst hA
   obtain⟨k2,n2,b2,l2⟩:=z
   repeat'(first|(apply Zb (hB);kernel_rfl;(iterate 4 exact Z))|(apply Zi Za;exact Z)|(apply Zf Za;exact Z)|(apply Zp Za;exact Z)|refine Zd Z Qt ?_|(apply Zv Za;(iterate 6 exact Z);(first|exact Qt|rotate_left);(first|with_reducible assumption|decide +kernel|exact Z);(first|exact Zk rfl|with_reducible assumption|decide +kernel|rotate_left)))
   all_goals exact Qe
  subst he
  obtain⟨_,hsy⟩:=U2 hwy
  have hzr:=QV hsy
  have hzl:=N7 hwy hyd
  have hD:=Xa z hz (by omega) hzr
  obtain⟨c1,t1,hp1⟩:=GG z hz hzr
  rw[show((0:Int)==0)=true from rfl,Bool.true_and]at hA
  have hLn:L++(c1::t1).map E.byte=(c0::t0++ZO ((bl.take (i+1)).map wB1)).map E.byte:=by
   have e2:(bl.take (i+1)).map wB1=(bl.take i).map wB1++[z]:=by
    rw[ht1,List.map_append]
    show _++[(Y9 y).1]=_
    rw[hwy]
   rw[hL,e2,JR]
   simp[ZO,hp1]
  have hpre2:∀ c ∈ bl.take (i+1),(Y9 c).2=0/\c.data.length<=3000:=fun c hc=>by
   rw[ht1]at hc
   rcases List.mem_append.1 hc with hc|hc
   ·exact hpre c hc
   ·simp at hc;subst hc;exact⟨by rw[hwy],hyd⟩
  rw[hp1]at hD hzl
  have hU1:=Yj (c1::t1)
  clear hwy hsy hzr hp1
  obtain⟨k2,n2,b2,l2⟩:=z
  repeat'(first|(apply Zb (hB);kernel_rfl;(iterate 4 exact Z))|(apply Zb (hD);kernel_rfl;(iterate 4 exact Z))|rw[ei]|(apply Zi Za;exact Z)|(apply Zf Za;exact Z)|refine Zd Z Qt ?_|refine Zg Z Qt ?_|(apply ZU Za;(iterate 6 exact Z);(first|with_reducible assumption|decide +kernel|exact Z|rotate_left);exact Z;exact Z;(first|exact Zk rfl|with_reducible assumption|decide +kernel|rotate_left);(first|exact Zk rfl|with_reducible assumption|decide +kernel|rotate_left);(first|exact Qt|rotate_left);(first|exact Qt|rotate_left);(first|exact Qt|rotate_left);exact Z;exact Z)|(apply Zv Za;(iterate 6 exact Z);(first|exact Qt|rotate_left);(first|with_reducible assumption|decide +kernel|exact Z);(first|exact Zk rfl|with_reducible assumption|decide +kernel|rotate_left)))
  ·refine Lands.mk' (m:=f-1) (by omega) ⟨i+1,L.length+((c1::t1).map E.byte).length,L++(c1::t1).map E.byte,by omega,by rw[List.length_append],hLn,hpre2,hA,rfl,rfl,rfl⟩ ?_ rfl rfl rfl rfl rfl rfl
   exact .cons rfl (.cons rfl (.cons rfl (.cons rfl .nil)))
  all_goals(first|rfl|(simp only[List.length_append,List.length_cons,List.length_nil,List.length_map,Zx];done)|(simp only[List.length_append,List.length_cons,List.length_nil,List.length_map,Zx]at *;(try unfold maxLen);(try simp only[Nat.add_mul]);omega))
 ·have hdl:decide ((i:Int)<((Wi bl).length:Int))=false:=decide_eq_false (by omega)
  rw[List.drop_eq_nil_of_le hge]at hA
  rw[List.take_of_length_le hge]at hL
  subst hA
  subst hL
  repeat'(first|(apply Zf Za;exact Z)|refine Zg Z Qt ?_)
  all_goals exact Qe
theorem M9 {b:BunV}(hb:BunOk b)(h:Xd b=true):∃ c t,ZO (UA b)=c::t:=by
 unfold Xd at h
 rw[Bool.and_eq_true,beq_iff_eq]at h
 obtain⟨_,hs⟩:=Vp (p:=b.p) (x:=(WW b.p).1) (Prod.ext rfl h.1)
 obtain⟨c,t,e⟩:=GG _ (K1 (p:=b.p) hb.fl) (QV hs)
 exact⟨c,t++ZO (b.bl.map fun c=>(Y9 c).1),by unfold UA;rw[ZO,e];rfl⟩
theorem Tz {b:BunV}(hb:BunOk b)(h:Xd b=true):(ZO (UA b)).length<=4000+4000*b.bl.length:=by
 unfold Xd at h
 simp only[Bool.and_eq_true,beq_iff_eq,List.all_eq_true]at h
 have h1:=N8 (p:=b.p) (x:=(WW b.p).1) (Prod.ext rfl h.1)
 have h2:=U4 b.bl fun c hc=>⟨h.2 c hc,(hb.bl c hc).2⟩
 unfold UA
 rw[ZO,List.length_append]
 have:(ZO (b.bl.map fun c=>(Y9 c).1)).length<=4000*b.bl.length:=h2
 omega
abbrev X8 (b:BunV):D:=match Vu b with
 | true=>.tup [byE (N3 b),.int .i64 0]
 | false=>.tup [.sl .ext [],.int .i64 3]
theorem GQ [Known][KnownU8](b:BunV)(hb:BunOk b):AP Tryz.prog 15 [.agg (bnC b)] (X8 b) []:=by
 have hF:=Rj b.bl hb.len fun c hc=>Nat.le_trans (hb.bl c hc).2 (by omega)
 have hI:=N9 b hb
 unfold X8 Vu
 cases t1:N2 b.bl with
 | false=>
  rw[t1]at hF
  obtain⟨⟨fl,sum,⟨di,dn,ds,dh,dd⟩,⟨ri,rn,rs,rh,rd⟩,⟨xi,xn,xs,xh,xd⟩,t,q,life⟩,bl⟩:=b
  dsimp only at *
  refine AP.ofA (Zl Tryz.func15 Z Tryz.ntmps15 Z Z ?_)
  repeat'(first|(apply Zb (hF);kernel_rfl;(iterate 4 exact Z))|(apply Zi Za;exact Z)|(apply Zf Za;exact Z)|(apply Zp Za;exact Z)|refine Zd Z Qt ?_)
  all_goals exact Qe
 | true=>
 rw[t1]at hF
 unfold GP at hI
 cases t2:Xd b with
 | false=>
  rw[t2]at hI
  obtain⟨⟨fl,sum,⟨di,dn,ds,dh,dd⟩,⟨ri,rn,rs,rh,rd⟩,⟨xi,xn,xs,xh,xd⟩,t,q,life⟩,bl⟩:=b
  dsimp only at *
  refine AP.ofA (Zl Tryz.func15 Z Tryz.ntmps15 Z Z ?_)
  repeat'(first|(apply Zb (hF);kernel_rfl;(iterate 4 exact Z))|(apply Zb (hI);kernel_rfl;(iterate 4 exact Z))|(apply Zi Za;exact Z)|(apply Zf Za;exact Z)|(apply Zp Za;exact Z)|refine Zn Z Z Z Qt ?_|refine Zj Z Qt Z Z ?_|refine Zd Z Qt ?_|refine Zg Z Qt ?_)
  all_goals exact Qe
 | true=>
 rw[t2]at hI
 obtain⟨c0,t0,hp⟩:=M9 hb t2
 have hl:=Tz hb t2
 have hl2:=hb.len
 unfold N3
 rw[hp]at hI hl ⊢
 have hU:=Yj (c0::t0)
 have hlm:((c0::t0).map E.byte).length=(c0::t0).length:=List.length_map ..
 cases t3:decide (((c0::t0).length:Int)<=598) with
 | false=>
  have t4:decide ((((c0::t0).map E.byte).length:Int)>598)=true:=by rw[hlm];simp at t3 ⊢;omega
  obtain⟨⟨fl,sum,⟨di,dn,ds,dh,dd⟩,⟨ri,rn,rs,rh,rd⟩,⟨xi,xn,xs,xh,xd⟩,t,q,life⟩,bl⟩:=b
  dsimp only at *
  refine AP.ofA (Zl Tryz.func15 Z Tryz.ntmps15 Z Z ?_)
  repeat'(first|(apply Zb (hF);kernel_rfl;(iterate 4 exact Z))|(apply Zb (hI);kernel_rfl;(iterate 4 exact Z))|(apply Zi Za;exact Z)|(apply Zf Za;exact Z)|(apply Zp Za;exact Z)|refine Ze Z Z Z Qt ?_|refine Zh Z Qt Z Z ?_|refine Zd Z Qt ?_|refine Zg Z Qt ?_|refine Zm Za Z Z Z Z ?_)
  all_goals exact Qe
 | true=>
  have t4:decide ((((c0::t0).map E.byte).length:Int)>598)=false:=by rw[hlm];simp at t3 ⊢;omega
  have t5:=of_decide_eq_true t3
  have hE:[E.int .u8 159]++(c0::t0).map E.byte++[E.int .u8 255]=(159::(c0::t0++[255])).map E.byte:=by simp
  have hU1:Uni 1 ([E.int .u8 159]++(c0::t0).map E.byte):=(Yj [159]).append hU
  obtain⟨⟨fl,sum,⟨di,dn,ds,dh,dd⟩,⟨ri,rn,rs,rh,rd⟩,⟨xi,xn,xs,xh,xd⟩,t,q,life⟩,bl⟩:=b
  dsimp only at *
  refine AP.ofA (Zl Tryz.func15 Z Tryz.ntmps15 Z Z ?_)
  repeat'(first|(apply Zb (hF);kernel_rfl;(iterate 4 exact Z))|(apply Zb (hI);kernel_rfl;(iterate 4 exact Z))|(apply Zi Za;exact Z)|(apply Zf Za;exact Z)|(apply Zp Za;exact Z)|refine Ze Z Z Z Qt ?_|refine Zh Z Qt Z Z ?_|refine Zg Z Qt ?_|refine Zm Za Z Z Z Z ?_|refine ZR Za Z Z Z Z Z Z Z Z Z Z Z Z ?_|(apply ZU Za;(iterate 6 exact Z);(first|with_reducible assumption|decide +kernel|exact Z|rotate_left);exact Z;exact Z;(first|exact Zk rfl|with_reducible assumption|decide +kernel|rotate_left);(first|exact Zk rfl|with_reducible assumption|decide +kernel|rotate_left);(first|exact Qt|rotate_left);(first|exact Qt|rotate_left);(first|exact Qt|rotate_left);exact Z;exact Z))
  all_goals first|((apply Zq [];(apply Zc Za;exact Z);(iterate 4 exact Z)))|skip
  all_goals first|rfl|(exact congrArg (fun l=>D.tup [.sl .ext l,.int .i64 0]) hE)|(first|rfl|(simp only[List.length_append,List.length_cons,List.length_nil,List.length_map,Zx];done)|(simp only[List.length_append,List.length_cons,List.length_nil,List.length_map,Zx]at *;(try unfold maxLen);(try simp only[Nat.add_mul]);omega))
theorem X9 [Known][KnownU8](b:BunV)(hb:BunOk b):AP Tryz.prog 8 [.agg (bnC b)] (.bool (Vu b)) []:=by
 have hW:=GQ b hb
 unfold X8 at hW
 cases h:Vu b with
 | false=>
  rw[h]at hW
  obtain⟨⟨fl,sum,⟨di,dn,ds,dh,dd⟩,⟨ri,rn,rs,rh,rd⟩,⟨xi,xn,xs,xh,xd⟩,t,q,life⟩,bl⟩:=b
  dsimp only at *
  refine AP.ofA (Zl Tryz.func8 Z Tryz.ntmps8 Z Z ?_)
  repeat'(first|(apply Zb (hW);kernel_rfl;(iterate 4 exact Z))|(apply Zi Za;exact Z)|(apply Zf Za;exact Z))
  all_goals exact Qe
 | true=>
  rw[h]at hW
  generalize N3 b=pb at *
  obtain⟨⟨fl,sum,⟨di,dn,ds,dh,dd⟩,⟨ri,rn,rs,rh,rd⟩,⟨xi,xn,xs,xh,xd⟩,t,q,life⟩,bl⟩:=b
  dsimp only at *
  refine AP.ofA (Zl Tryz.func8 Z Tryz.ntmps8 Z Z ?_)
  repeat'(first|(apply Zb (hW);kernel_rfl;(iterate 4 exact Z))|(apply Zi Za;exact Z)|(apply Zf Za;exact Z))
  all_goals exact Qe
abbrev bnR (r:BunV × Int):D:=.tup [.agg (bnC r.1),.int .i64 r.2]
def IZ (b:BunV):List UInt8:=match b.bl[b.bl.length-1]? with
 | some c=>c.data
 | none=>[]
theorem Rk [Known](b:BunV)(hb:BunOk b):AP Tryz.prog 10 [.agg (bnC b)] (byE (IZ b)) []:=by
 have hlen:=Xq b.bl
 have hU:=N4 b.bl
 unfold IZ
 obtain⟨_,hl,hbl⟩:=hb
 cases hlast:b.bl[b.bl.length-1]? with
 | none=>
  have h0:b.bl.length=0:=by have:=List.getElem?_eq_none_iff.1 hlast;omega
  have t1:(((Wi b.bl).length:Int)==0)=true:=by rw[hlen,h0];rfl
  obtain⟨⟨fl,sum,⟨di,dn,ds,dh,dd⟩,⟨ri,rn,rs,rh,rd⟩,⟨xi,xn,xs,xh,xd⟩,t,q,life⟩,bl⟩:=b
  try dsimp only at *
  refine AP.ofA (Zl Tryz.func10 Z Tryz.ntmps10 Z Z ?_)
  repeat'(first|(apply Zi Za;exact Z)|(apply Zf Za;exact Z)|(apply Zp Za;exact Z)|refine Zd Z Qt ?_|refine Zm Za Z Z Z Z ?_)
  all_goals exact Qe
 | some c=>
 have hlt:=(List.getElem?_eq_some_iff.1 hlast).1
 have hv:=Jp hlast
 rw[show((b.bl.length-1:Nat):Int)=(b.bl.length:Int)-1 from by omega]at hv
 have t1:(((Wi b.bl).length:Int)==0)=false:=by rw[hlen];exact beq_eq_false_iff_ne.2 (by omega)
 have en:IntKind.i64.wrap (((Wi b.bl).length:Int)-1)=(b.bl.length:Int)-1:=by rw[IntWalk.i64_in _ (by omega)];omega
 have i0:(0:Int)<=(b.bl.length:Int)-1:=by omega
 have hC:=Qi c.data (by have:=(hbl c (List.mem_of_getElem? hlast)).2;omega)
 obtain⟨⟨fl,sum,⟨di,dn,ds,dh,dd⟩,⟨ri,rn,rs,rh,rd⟩,⟨xi,xn,xs,xh,xd⟩,t,q,life⟩,bl⟩:=b
 try dsimp only at *
 refine AP.ofA (Zl Tryz.func10 Z Tryz.ntmps10 Z Z ?_)
 repeat'(first|rw[en]|(apply Zb (hC);kernel_rfl;(iterate 4 exact Z))|(apply Zi Za;exact Z)|(apply Zf Za;exact Z)|(apply Zp Za;exact Z)|refine Zg Z Qt ?_|refine Zm Za Z Z Z Z ?_|(apply Zv Za;(iterate 6 exact Z);(first|exact Qt|rotate_left);(first|with_reducible assumption|decide +kernel|exact Z);(first|exact Zk rfl|with_reducible assumption|decide +kernel|rotate_left)))
 all_goals exact Qe
theorem Rl:BunOk bn0:=⟨by decide,by decide,by decide⟩
abbrev zeC:List D:=[.int .u64 0,.int .i64 0,.bool false,.int .u64 0,.int .u64 0,.str [],.str [],.bool false,.int .u64 0,.int .u64 0,.str [],.str [],.bool false,.int .u64 0,.int .u64 0,.str [],.str [],.int .u64 0,.int .u64 0,.int .u64 0,.sl .ext []]
def Xg (b:List UInt8)(dest src:EidV)(t q life:Nat):BunV:=⟨⟨2,0,dest,Ye,src,t,q,life⟩,[⟨1,1,0,0,b⟩]⟩
def Xr (r:RepV)(dest src:EidV)(t q life:Nat):BunV × Int:=match(YX r).2 != 0 with
 | true=>(bn0,(YX r).2)
 | false=>match Vu (Xg (YX r).1 dest src t q life) with
  | false=>(bn0,3)
  | true=>(Xg (YX r).1 dest src t q life,0)
theorem GR (r:RepV):(YX r).1.length<=200:=by
 unfold YX
 cases h:Yd r with
 | false=>simp
 | true=>exact Qr h
theorem HI (b:List UInt8)(hb:b.length<=3000)(dest src:EidV)(t q life:Nat):BunOk (Xg b dest src t q life):=
 ⟨by show 2<_;decide,by show 1<=_;decide,fun c hc=>by
  rcases List.mem_cons.1 hc with rfl|hc
  ·exact⟨by show 0<_;decide,hb⟩
  ·cases hc⟩
theorem GS [Known][KnownU8](r:RepV)(dest src:EidV)(t q life:Nat):AP Tryz.prog 31 [.agg (Jn r),.agg (eC dest),.agg (iC src t q),.int .u64 (life:Int)] (bnR (Xr r dest src t q life)) []:=by
 have hW:=Ui r
 have hl:=GR r
 unfold Xr
 generalize YX r=w at *
 obtain⟨wb,we⟩:=w
 dsimp only at *
 have hRt:=X9 (Xg wb dest src t q life) (HI wb (by omega) dest src t q life)
 have hUb:=Yj (wb)
 cases tw:(we != 0) with
 | true=>
  obtain⟨a,b,c,rs,tm,⟨i,n,s,h,d⟩,rt,rq⟩:=r
  obtain⟨di,dn,ds,dh,dd⟩:=dest
  obtain⟨xi,xn,xs,xh,xd⟩:=src
  dsimp only at *
  refine AP.ofA (Zl Tryz.func31 Z Tryz.ntmps31 Z Z ?_)
  repeat'(first|(apply Zb (hW);kernel_rfl;(iterate 4 exact Z))|(apply Zi Za;exact Z)|(apply Zf Za;exact Z)|(apply Zp Za;exact Z)|(apply Zd;exact Z;(first|with_reducible assumption|decide +kernel|(solve|simp only[bn]))))
  all_goals exact Qe
 | false=>
  have we0:we=0:=by simpa using tw
  subst we0
  generalize hrt:Vu (Xg wb dest src t q life)=R at *
  obtain⟨a,b,c,rs,tm,⟨i,n,s,h,d⟩,rt,rq⟩:=r
  obtain⟨di,dn,ds,dh,dd⟩:=dest
  obtain⟨xi,xn,xs,xh,xd⟩:=src
  dsimp only at *
  replace hRt:AP Tryz.prog 8 [.agg [.int .u64 2,.int .i64 0,.bool di,.int .u64 (dn:Int),.int .u64 (ds:Int),.str dh,.str dd,.bool false,.int .u64 0,.int .u64 0,.str [],.str [],.bool xi,.int .u64 (xn:Int),.int .u64 (xs:Int),.str xh,.str xd,.int .u64 (t:Int),.int .u64 (q:Int),.int .u64 (life:Int),.sl .ext [.agg [.int .u64 1,.int .u64 1,.int .u64 0,.int .i64 0,.sl (wb.map E.byte)]]]] (.bool R) []:=hRt
  cases R with
  | false=>
   refine AP.ofA (Zl Tryz.func31 Z Tryz.ntmps31 Z Z ?_)
   repeat'(first|(apply Zb (hW);kernel_rfl;(iterate 4 exact Z))|(apply Zb (hRt);kernel_rfl;(iterate 4 exact Z))|(apply Zi Za;exact Z)|(apply Zf Za;exact Z)|(apply Zp Za;exact Z)|(apply Zd;exact Z;(first|with_reducible assumption|decide +kernel|(solve|simp only[bn])))|(apply Zg;exact Z;(first|with_reducible assumption|decide +kernel|(solve|simp only[bn])))|refine ZR Za Z Z Z Z Z Z Z Z Z Z Z Z ?_)
   all_goals exact Qe
  | true=>
   refine AP.ofA (Zl Tryz.func31 Z Tryz.ntmps31 Z Z ?_)
   repeat'(first|(apply Zb (hW);kernel_rfl;(iterate 4 exact Z))|(apply Zb (hRt);kernel_rfl;(iterate 4 exact Z))|(apply Zi Za;exact Z)|(apply Zf Za;exact Z)|(apply Zp Za;exact Z)|(apply Zg;exact Z;(first|with_reducible assumption|decide +kernel|(solve|simp only[bn])))|refine ZR Za Z Z Z Z Z Z Z Z Z Z Z Z ?_)
   all_goals exact Qe
def ofR (b:BunV):RepV × Int:=match bits .and .u64 (b.p.fl:Int) 2==0 with
 | true=>(rp0,4)
 | false=>match Vu b with
  | false=>(rp0,3)
  | true=>WG (IZ b)
theorem La {b:BunV}(hb:BunOk b):(IZ b).length<=3000:=by
 unfold IZ
 cases h:b.bl[b.bl.length-1]? with
 | none=>simp
 | some c=>exact(hb.bl c (List.mem_of_getElem? h)).2
theorem Ma [Known][KnownU8](b:BunV)(hb:BunOk b):AP Tryz.prog 32 [.agg (bnC b)] (.tup [.agg (Jn (ofR b).1),.int .i64 (ofR b).2]) []:=by
 have hRt:=X9 b hb
 have hP:=Rk b hb
 have hRd:=X6 (IZ b) (La hb)
 unfold ofR
 generalize hrt:Vu b=R at *
 generalize IZ b=pl at *
 generalize WG pl=rr at *
 obtain⟨⟨ra,rb,rc,rs,rtm,⟨ri,rn,rs2,rh,rd⟩,rt,rq⟩,re⟩:=rr
 have hUb:=N4 b.bl
 obtain⟨⟨fl,sum,⟨di,dn,ds,dh,dd⟩,⟨pi,pn,ps,ph,pd⟩,⟨xi,xn,xs,xh,xd⟩,t,q,life⟩,bl⟩:=b
 dsimp only at *
 cases t1:(bits .and .u64 (fl:Int) 2==0)<;>cases R
 all_goals
  refine AP.ofA (Zl Tryz.func32 Z Tryz.ntmps32 Z Z ?_)
  repeat'(first|(apply Zb (hRt);kernel_rfl;(iterate 4 exact Z))|(apply Zb (hP);kernel_rfl;(iterate 4 exact Z))|(apply Zb (hRd);kernel_rfl;(iterate 4 exact Z))|(apply Zi Za;exact Z)|(apply Zf Za;exact Z)|(apply Zp Za;exact Z)|(apply Zd;exact Z;(first|with_reducible assumption|decide +kernel|(solve|simp only[bn])))|(apply Zg;exact Z;(first|with_reducible assumption|decide +kernel|(solve|simp only[bn]))))
  all_goals exact Qe
end Go.Proofs.YtmljabhmajehnaaGreatDoor
end
