/- Package bundle: which blocks go together. -/
import Derived.Test.YtmljabhmajehnaaDoorN28
import Derived.Test.YtmljabhmajehnaaDoorN27
import Derived.Test.YtmljabhmajehnaaDoorN19
import Derived.Test.YtmljabhmajehnaaDoorN23
import Derived.Test.YtmljabhmajehnaaDoorN26
set_option linter.unusedVariables false
set_option linter.unusedSimpArgs false
section
open Go.RowKit Go.Pl Go.Av
namespace Go.Proofs.YtmljabhmajehnaaDoor
set_option maxHeartbeats 4000000
abbrev bkE (b:BlkV):E:=.agg [.int .u64 (b.ty:Int),.int .u64 (b.num:Int),.int .u64 (b.fl:Int),.int .i64 b.sum,.sl (b.data.map E.byte)]
abbrev YJ (l:List BlkV):List E:=l.map bkE
theorem GF (l:List BlkV):Uni 5 (YJ l):=Uni.map (f:=bkE) (fun _=>rfl) l
theorem Qs (l:List BlkV):(YJ l).length=l.length:=List.length_map ..
theorem UE {l:List BlkV}{i:Nat}{b:BlkV}(h:l[i]?=some b):(YJ l)[((i:Nat):Int).toNat]?=some (.agg [.int .u64 (b.ty:Int),.int .u64 (b.num:Int),.int .u64 (b.fl:Int),.int .i64 b.sum,.sl (b.data.map E.byte)]):=by
 rw[Int.toNat_natCast,List.getElem?_map,h];rfl
theorem H9 (k:Nat):Q9 k=(((k:Int)==1)||(((k:Int)==6)||(((k:Int)==7)||((k:Int)==10)))):=by
 unfold Q9
 rw[Bool.eq_iff_iff]
 simp only[Bool.or_eq_true,beq_iff_eq]
 omega
theorem Ta [Known](k:Nat):AP Tryd.prog 35 [.int .u64 (k:Int)] (.bool (Q9 k)) []:=by
 rw[H9]
 refine AP.ofA (Zl Tryd.func35 Z Tryd.ntmps35 Z Z ?_)
 repeat'(first|(apply Zg Za;exact Z)|(apply Zf Za;exact Z)|refine ZW ?_|refine Ze Z Z Z Qt ?_|refine Zo Z Z Z Qt ?_|(apply YP;exact Z;exact Z;all_goals intro hb)|refine Zk Z Qt Z Z ?_|refine Zi Z Qt Z Z ?_)
 all_goals(apply Zr [];(apply Zc Za;exact Z);(iterate 4 exact Z))
 all_goals first|rfl|(simp only[*];done)|(simp only[*];rfl)|(simp[*];done)
def VR (b c:BlkV):Bool:=c.num != b.num&&(c.ty != b.ty || !Q9 b.ty)
theorem Mg (b c:BlkV):VR b c=(((c.num:Int) != (b.num:Int))&&(((c.ty:Int) != (b.ty:Int)) || !Q9 b.ty)):=by
 have e:∀ a b:Nat,(a != b)=(((a:Nat):Int) != (b:Int)):=fun a b=>by rw[Bool.eq_iff_iff,bne_iff_ne,bne_iff_ne];omega
 unfold VR
 rw[e,e]
theorem GG (pre:List BlkV)(b:BlkV)(r:List BlkV):Kh pre (b::r)=(Y5 b&&pre.all (VR b)&&Kh (pre++[b]) r):=by
 rw[Kh,Bool.and_assoc];rfl
theorem Mh (l:List BlkV):H7 l=match l[l.length-1]? with
  | none=>false
  | some b=>decide (l.length<=8)&&((b.ty:Int)==1&&((b.num:Int)==1&&Kh [] l)):=by
 unfold H7
 rw[List.getLast?_eq_getElem?]
 cases h:l[l.length-1]? with
 | none=>rfl
 | some b=>
  have e:∀ a:Nat,(a==1)=(((a:Nat):Int)==1):=fun a=>by rw[Bool.eq_iff_iff,beq_iff_eq,beq_iff_eq];omega
  dsimp only
  rw[e,e]
theorem Mi [Known][KnownU8](l:List BlkV)(hl:l.length<=1000000)(hd:∀ c ∈ l,c.data.length<=140737488351232):AP Tryd.prog 19 [.sl .ext (YJ l)] (.bool (H7 l)) []:=by
 have hlen:=Qs l
 have hU:=GF l
 have en:IntKind.i64.wrap (((YJ l).length:Int)-1)=(l.length:Int)-1:=by rw[IntWalk.i64_in _ (by omega)];omega
 rw[Mh]
 cases hlast:l[l.length-1]? with
 | none=>
  have h0:l.length=0:=by have:=List.getElem?_eq_none_iff.1 hlast;omega
  have t1:decide ((l.length:Int)-1<0)=true:=decide_eq_true (by omega)
  refine AP.ofA (Zl Tryd.func19 Z Tryd.ntmps19 Z Z ?_)
  repeat'(first|refine VO ?_|rw[en]|(apply Zg Za;exact Z)|(apply Zf Za;exact Z)|(apply Zs Za;exact Z)|refine ZW ?_|refine Zo Z Z Z Qt ?_|refine Zk Z Qt Z Z ?_|refine Zd Z Qt ?_|refine Zn Za Z Z Z Z ?_)
  all_goals exact Qe
 | some b=>
 have hlt:=(List.getElem?_eq_some_iff.1 hlast).1
 have hv0:=UE hlast
 rw[show((l.length-1:Nat):Int)=(l.length:Int)-1 from by omega]at hv0
 have t1:decide ((l.length:Int)-1<0)=false:=decide_eq_false (by omega)
 dsimp only
 rcases Nat.lt_or_ge 8 l.length with h8|h8
 ·have t2:decide ((l.length:Int)-1 ≥ 8)=true:=decide_eq_true (by omega)
  rw[decide_eq_false (by omega:¬ l.length<=8)]
  refine AP.ofA (Zl Tryd.func19 Z Tryd.ntmps19 Z Z ?_)
  repeat'(first|refine VO ?_|rw[en]|(apply Zg Za;exact Z)|(apply Zf Za;exact Z)|(apply Zs Za;exact Z)|refine ZW ?_|refine Ze Z Z Z Qt ?_|refine Zo Z Z Z Qt ?_|refine Zk Z Qt Z Z ?_|refine Zi Z Qt Z Z ?_|refine Zd Z Qt ?_|refine Zn Za Z Z Z Z ?_)
  all_goals exact Qe
 have t2:decide ((l.length:Int)-1 ≥ 8)=false:=decide_eq_false (by omega)
 rw[decide_eq_true h8]
 have i0:(0:Int)<=(l.length:Int)-1:=by omega
 cases t3:((b.ty:Int)==1) with
 | false=>
  have t5:((b.ty:Int) != 1)=true:=by rw[bne,t3];rfl
  refine AP.ofA (Zl Tryd.func19 Z Tryd.ntmps19 Z Z ?_)
  repeat'(first|refine VO ?_|rw[en]|(apply Zg Za;exact Z)|(apply Zf Za;exact Z)|(apply Zs Za;exact Z)|refine ZW ?_|refine Ze Z Z Z Qt ?_|refine Zo Z Z Z Qt ?_|refine Zk Z Qt Z Z ?_|refine Zi Z Qt Z Z ?_|refine Zd Z Qt ?_|refine Zn Za Z Z Z Z ?_|(apply Zx Za;(iterate 6 exact Z);(first|exact Qt|rotate_left);(first|with_reducible assumption|decide +kernel|exact Z);(first|exact Zj rfl|with_reducible assumption|decide +kernel|rotate_left)))
  all_goals exact Qe
 | true=>
 have t5:((b.ty:Int) != 1)=false:=by rw[bne,t3];rfl
 cases t4:((b.num:Int)==1) with
 | false=>
  have t6:((b.num:Int) != 1)=true:=by rw[bne,t4];rfl
  refine AP.ofA (Zl Tryd.func19 Z Tryd.ntmps19 Z Z ?_)
  repeat'(first|refine VO ?_|rw[en]|(apply Zg Za;exact Z)|(apply Zf Za;exact Z)|(apply Zs Za;exact Z)|refine ZW ?_|refine Ze Z Z Z Qt ?_|refine Zi Z Qt Z Z ?_|refine Zd Z Qt ?_|refine Zn Za Z Z Z Z ?_|(apply Zx Za;(iterate 6 exact Z);(first|exact Qt|rotate_left);(first|with_reducible assumption|decide +kernel|exact Z);(first|exact Zj rfl|with_reducible assumption|decide +kernel|rotate_left)))
  all_goals exact Qe
 | true=>
 have t6:((b.num:Int) != 1)=false:=by rw[bne,t4];rfl
 rw[Bool.true_and,Bool.true_and,Bool.true_and]
 generalize hF:Kh [] l=F
 refine AP.ofA (Zl Tryd.func19 Z Tryd.ntmps19 Z Z ?_)
 repeat'(first|refine VO ?_|rw[en]|(apply Zg Za;exact Z)|(apply Zf Za;exact Z)|(apply Zs Za;exact Z)|refine Ze Z Z Z Qt ?_|refine Zi Z Qt Z Z ?_|refine Zh Z Qt ?_|refine Zn Za Z Z Z Z ?_|(apply Zx Za;(iterate 6 exact Z);(first|exact Qt|rotate_left);(first|with_reducible assumption|decide +kernel|exact Z);(first|exact Zj rfl|with_reducible assumption|decide +kernel|rotate_left)))
 refine Z4 (fun f tm bx fr=>∃(i:Nat),f+i=l.length/\Kh (l.take i) (l.drop i)=F/\tm=[(0,.sl .ext (YJ l)),(4,.bool true),(34,.sl .ext (YJ l)),(35,.int .i64 ((YJ l).length:Int)),(36,.int .i64 (i:Int))]/\bx=[]/\fr=[]) (l.length+1) (Lands.mk' (m:=l.length) (Nat.lt_succ_self _) ⟨0,by omega,hF,rfl,rfl,rfl⟩ ?_ rfl rfl rfl rfl rfl rfl) ?_
 ·exact .cons rfl (.cons rfl (.cons rfl (.cons rfl (.cons rfl .nil))))
 rintro f tm bx fr ⟨i,hf,hq,rfl,rfl,rfl⟩
 rcases Nat.lt_or_ge i l.length with hlt|hge
 ·have hdl:decide ((i:Int)<((YJ l).length:Int))=true:=decide_eq_true (by omega)
  obtain⟨b,hy⟩:∃ y,l[i]?=some y:=⟨_,List.getElem?_eq_getElem hlt⟩
  have hv:=UE hy
  have hR:=XN b (hd b (List.mem_of_getElem? hy))
  have hA:=Ta b.ty
  have hdr:l.drop i=b::l.drop (i+1):=by
   rw[List.drop_eq_getElem_cons hlt];congr 1
   exact(List.getElem?_eq_some_iff.1 hy).2
  rw[hdr,GG]at hq
  have ht1:l.take (i+1)=l.take i++[b]:=by rw[List.take_add_one,hy];rfl
  rw[<- ht1]at hq
  have ei:IntKind.i64.wrap ((i:Int)+1)=((i+1:Nat):Int):=by rw[IntWalk.i64_in _ (by omega)];omega
  generalize hr:Y5 b=r at hR hq
  have hle:((i:Nat):Int).toNat<=(YJ l).length:=by rw[Int.toNat_natCast];omega
  have hI:(YJ l).take ((i:Nat):Int).toNat=YJ (l.take i):=by rw[Int.toNat_natCast];exact List.map_take.symm
  have hli:(l.take i).length=i:=by rw[List.length_take];omega
  have hlb:=Qs (l.take i)
  have hU2:=GF (l.take i)
  generalize hlt2:l.take i=p at *
  repeat'(first|(apply Zb (hR);kernel_rfl;(iterate 4 exact Z))|refine Hl Za Z Z Z Z Z Z hU (Int.natCast_nonneg _) hle hI ?_|(apply Zg Za;exact Z)|(apply Zf Za;exact Z)|refine Zd Z Qt ?_|refine Zn Za Z Z Z Z ?_|(apply Zx Za;(iterate 6 exact Z);(first|exact Qt|rotate_left);(first|with_reducible assumption|decide +kernel|exact Z);(first|exact Zj rfl|with_reducible assumption|decide +kernel|rotate_left)))
  refine Z4 (fun f tm bx fr=>∃(j:Nat),f+j=p.length/\tm=[(0,.sl .ext (YJ l)),(4,.bool (r&&(p.take j).all (VR b))),(6,.ptr 0 0),(34,.sl .ext (YJ l)),(35,.int .i64 ((YJ l).length:Int)),(36,.int .i64 (i:Int)),(45,.sl .ext (YJ p)),(46,.int .i64 ((YJ p).length:Int)),(47,.int .i64 (j:Int))]/\bx=[bkC b]/\fr=[]) (p.length+1) (Lands.mk' (m:=p.length) (Nat.lt_succ_self _) ⟨0,by omega,by rw[List.take_zero,List.all_nil,Bool.and_true],rfl,rfl⟩ ?_ rfl rfl rfl rfl rfl rfl) ?_
  ·exact .cons rfl (.cons rfl (.cons rfl (.cons rfl (.cons rfl (.cons rfl (.cons rfl (.cons rfl (.cons rfl .nil))))))))
  rintro f2 tm bx fr ⟨j,hj,rfl,rfl,rfl⟩
  rcases Nat.lt_or_ge j p.length with hjl|hjg
  ·have hdl2:decide ((j:Int)<((YJ p).length:Int))=true:=decide_eq_true (by omega)
   obtain⟨c,hc⟩:∃ y,p[j]?=some y:=⟨_,List.getElem?_eq_getElem hjl⟩
   have hv2:=UE hc
   have ej:IntKind.i64.wrap ((j:Int)+1)=((j+1:Nat):Int):=by rw[IntWalk.i64_in _ (by omega)];omega
   have ht2:(p.take (j+1)).all (VR b)=((p.take j).all (VR b)&&VR b c):=by rw[List.take_add_one,hc,List.all_append];simp
   have hok:(r&&(p.take (j+1)).all (VR b))=((r&&(p.take j).all (VR b))&&(((c.num:Int) != (b.num:Int))&&(((c.ty:Int) != (b.ty:Int)) || !Q9 b.ty))):=by rw[ht2,Mg,Bool.and_assoc]
   generalize (r&&(p.take j).all (VR b))=ok at *
   have key:∀ v:Bool,v=(r&&(p.take (j+1)).all (VR b))->∃(j':Nat),f2-1+j'=p.length/\[(0,D.sl .ext (YJ l)),(4,.bool v),(6,.ptr 0 0),(34,.sl .ext (YJ l)),(35,.int .i64 ((YJ l).length:Int)),(36,.int .i64 (i:Int)),(45,.sl .ext (YJ p)),(46,.int .i64 ((YJ p).length:Int)),(47,.int .i64 ((j+1:Nat):Int))]=[(0,.sl .ext (YJ l)),(4,.bool (r&&(p.take j').all (VR b))),(6,.ptr 0 0),(34,.sl .ext (YJ l)),(35,.int .i64 ((YJ l).length:Int)),(36,.int .i64 (i:Int)),(45,.sl .ext (YJ p)),(46,.int .i64 ((YJ p).length:Int)),(47,.int .i64 (j':Int))]/\[bkC b]=[bkC b]/\([]:List Fr)=[]:=fun v hv=>⟨j+1,by omega,by rw[hv],rfl,rfl⟩
   cases ok<;>cases n1:((c.num:Int) != (b.num:Int))<;>cases n2:((c.ty:Int) != (b.ty:Int))<;>cases n3:Q9 b.ty<;>rw[n1,n2,n3]at hok<;>rw[n3]at hA
   all_goals repeat'(first|rw[ej]|(apply Zb (hA);kernel_rfl;(iterate 4 exact Z))|(apply Zg Za;exact Z)|(apply Zf Za;exact Z)|refine ZW ?_|refine Ze Z Z Z Qt ?_|refine Zt Z Z Z Qt ?_|refine Zo Z Z Z Qt ?_|refine I6 Z Z Z ?_|refine Zk Z Qt Z Z ?_|refine Zi Z Qt Z Z ?_|refine Zd Z Qt ?_|refine YO ?_|(apply Zx Za;(iterate 6 exact Z);(first|exact Qt|rotate_left);(first|with_reducible assumption|decide +kernel|exact Z);(first|exact Zj rfl|with_reducible assumption|decide +kernel|rotate_left)))
   all_goals refine Lands.mk' (m:=f2-1) (by omega) (key _ (by rw[hok])) ?_ rfl rfl rfl rfl rfl rfl
   all_goals exact .cons rfl (.cons rfl (.cons rfl (.cons rfl (.cons rfl (.cons rfl (.cons rfl (.cons rfl (.cons rfl .nil))))))))
  ·have hdl2:decide ((j:Int)<((YJ p).length:Int))=false:=decide_eq_false (by omega)
   rw[List.take_of_length_le hjg]
   generalize (r&&p.all (VR b))=ok at *
   cases ok with
   | true=>
    repeat'(first|rw[ei]|(apply Zf Za;exact Z)|refine ZW ?_|refine Zh Z Qt ?_|refine YO ?_)
    refine Lands.mk' (m:=f-1) (by omega) ⟨i+1,by omega,by simpa using hq,rfl,rfl,rfl⟩ ?_ rfl rfl rfl rfl rfl rfl
    exact .cons rfl (.cons rfl (.cons rfl (.cons rfl (.cons rfl .nil))))
   | false=>
    rw[Bool.false_and]at hq
    subst hq
    repeat'(first|(apply Zf Za;exact Z)|refine ZW ?_|refine Zd Z Qt ?_|refine Zh Z Qt ?_)
    all_goals exact Qe
 ·have hdl:decide ((i:Int)<((YJ l).length:Int))=false:=decide_eq_false (by omega)
  rw[List.drop_eq_nil_of_le hge,Kh]at hq
  subst hq
  repeat'(first|(apply Zf Za;exact Z)|refine ZW ?_|refine Zh Z Qt ?_)
  all_goals exact Qe
abbrev bnC (b:BunV):List D:=[.int .u64 (b.p.fl:Int),.int .i64 b.p.sum,.bool b.p.dest.i,.int .u64 (b.p.dest.n:Int),.int .u64 (b.p.dest.s:Int),.str b.p.dest.h,.str b.p.dest.d,.bool b.p.rep.i,.int .u64 (b.p.rep.n:Int),.int .u64 (b.p.rep.s:Int),.str b.p.rep.h,.str b.p.rep.d,.bool b.p.src.i,.int .u64 (b.p.src.n:Int),.int .u64 (b.p.src.s:Int),.str b.p.src.h,.str b.p.src.d,.int .u64 (b.p.t:Int),.int .u64 (b.p.q:Int),.int .u64 (b.p.life:Int),.sl .ext (YJ b.bl)]
structure BunOk (b:BunV):Prop where
 fl:b.p.fl<18446744073709551616
 len:b.bl.length<=1000000
 bl:∀ c ∈ b.bl,c.fl<18446744073709551616/\c.data.length<=3000
theorem JW {l:List It}{a:Int}{x:It}(h:Vk l a=(x,0)):(ZG x).length<=(ZJ l).length+40:=by
 rcases O2 h with rfl|⟨s,hs,rfl⟩
 ·have:=Z5 4 0 [] l
  simp at this ⊢;omega
 ·have h0:=Z5 4 0 [] (l++[.mk 2 0 (UI s (ZG (Yc s l))) []])
  have h1:=Z5 2 0 (UI s (ZG (Yc s l))) []
  have h2:=JP s (ZG (Yc s l)) hs
  rw[QM]at h0
  simp only[ZJ,List.length_append,List.length_nil,Nat.add_zero,Nat.zero_add]at h0 h1
  show(ZG (.mk 4 0 [] (l++[.mk 2 0 (UI s (ZG (Yc s l))) []]))).length<=_
  omega
theorem Tb {b:BlkV}{x:It}(h:YU b=(x,0))(hd:b.data.length<=3000):(ZG x).length<=4000:=by
 obtain⟨_,hs⟩:=Ur h
 have h0:=JW hs
 have n1:=Z7 b.ty
 have n2:=Z7 b.num
 have n3:=Z7 b.fl
 have n4:=Z7 b.sum.toNat
 have n5:=Z5 2 0 b.data []
 simp only[Vr,ZJ,List.length_append,List.length_nil,Nat.add_zero,Nat.zero_add]at h0 n5
 omega
theorem Tc {p:PriV}{x:It}(h:WE p=(x,0)):(ZG x).length<=4000:=by
 obtain⟨hr,hs⟩:=W1 h
 have h0:=JW hs
 obtain⟨h1,h2,h3,h4,h5,h6⟩:=Qq hr
 obtain⟨i1,_,_⟩:=Y8.1 h5
 have n1:=Z7 7
 have n2:=Z7 p.fl
 have n3:=Z7 p.sum.toNat
 have n4:=VP h3
 have n5:=VP i1
 have n6:=VP h4
 have n7:=V2 p.t p.q
 have n8:=Z7 p.life
 have e7:Oj p.t p.q=.mk 4 0 [] [.mk 0 p.t [] [],.mk 0 p.q [] []]:=rfl
 rw[e7]at n7
 simp only[Vo,ZJ,List.length_append,List.length_nil,Nat.add_zero,Nat.zero_add]at h0
 omega
abbrev wB1 (c:BlkV):It:=(YU c).1
abbrev O6 (b:BunV):D:=match Ja b with
 | true=>.tup [byE (ZJ (V4 b)),.bool true]
 | false=>.tup [.sl .ext [],.bool false]
theorem Us:∀(l:List BlkV),(∀ c ∈ l,(YU c).2=0/\c.data.length<=3000)->(ZJ (l.map wB1)).length<=4000*l.length
 | [],_=>by simp[ZJ]
 | c::l,h=>by
  have h1:(ZG (wB1 c)).length<=4000:=Tb (x:=(YU c).1) (Prod.ext rfl (h c (List.mem_cons_self ..)).1) (h c (List.mem_cons_self ..)).2
  have h2:=Us l fun y hy=>h y (List.mem_cons_of_mem _ hy)
  rw[List.map_cons,ZJ,List.length_append,List.length_cons]
  omega
theorem Td [Known][KnownU8](b:BunV)(hb:BunOk b):AP Tryd.prog 20 [.agg (bnC b)] (O6 b) []:=by
 have hW:=O4 b.p hb.fl
 have hlen:=Qs b.bl
 have hUb:=GF b.bl
 have hl:=hb.len
 unfold O6 Ja
 rcases hwp:WE b.p with⟨x,e⟩
 rw[hwp]at hW
 have hx:=XO (p:=b.p) hb.fl
 rw[hwp]at hx
 dsimp only[Qo]at hW hx
 by_cases he:e=0
 case neg=>
  have te:((e:Int) != 0)=true:=by simpa using he
  have te2:((e:Int)==0)=false:=by simpa using he
  dsimp only
  rw[te2]
  obtain⟨k,n,bb,l⟩:=x
  obtain⟨⟨fl,sum,⟨di,dn,ds,dh,dd⟩,⟨ri,rn,rs,rh,rd⟩,⟨xi,xn,xs,xh,xd⟩,t,q,life⟩,bl⟩:=b
  dsimp only at *
  refine AP.ofA (Zl Tryd.func20 Z Tryd.ntmps20 Z Z ?_)
  repeat'(first|(apply Zb (hW);kernel_rfl;(iterate 4 exact Z))|(apply Zg Za;exact Z)|(apply Zf Za;exact Z)|(apply Zs Za;exact Z)|refine Zd Z Qt ?_)
  all_goals exact Qe
 subst he
 obtain⟨hrP,hsP⟩:=W1 hwp
 have hxr:=UZ hsP
 have hxl:=Tc hwp
 obtain⟨c0,t0,hp0⟩:=Ke x hx hxr
 have hC:=Gu x hx hxr (by omega)
 dsimp only
 rw[show((0:Int)==0)=true from rfl,Bool.true_and]
 have hit:V4 b=x::b.bl.map wB1:=by unfold V4;rw[hwp]
 rw[hit,ZJ]
 generalize hall:(b.bl.all fun c=>(YU c).2==0)=A
 rw[hp0]at hC hxl ⊢
 clear hwp hsP hrP hit
 have hxw:=hx
 obtain⟨k,n,bb,l⟩:=x
 clear hx hxw hxr hp0
 obtain⟨⟨fl,sum,⟨di,dn,ds,dh,dd⟩,⟨ri,rn,rs,rh,rd⟩,⟨xi,xn,xs,xh,xd⟩,t,q,life⟩,bl⟩:=b
 obtain⟨_,_,hbl⟩:=hb
 dsimp only at *
 refine AP.ofA (Zl Tryd.func20 Z Tryd.ntmps20 Z Z ?_)
 repeat'(first|(apply Zb (hW);kernel_rfl;(iterate 4 exact Z))|(apply Yo [] [] (hC);kernel_rfl;(iterate 10 exact Z))|(apply Zg Za;exact Z)|(apply Zf Za;exact Z)|refine Zh Z Qt ?_|refine Zn Za Z Z Z Z ?_)
 show AW _ _ _ _
 refine Z4 (fun f tm bx fr=>∃(i c:Nat) (L:List E),f+i=bl.length/\c=L.length/\L=(c0::t0++ZJ ((bl.take i).map wB1)).map E.byte/\(∀ c ∈ bl.take i,(YU c).2=0/\c.data.length<=3000)/\((bl.drop i).all fun c=>(YU c).2==0)=A/\tm=[(6,.sl (.own 0) L),(28,.sl .ext (YJ bl)),(29,.int .i64 ((YJ bl).length:Int)),(30,.int .i64 (i:Int))]/\bx=[]/\fr=[⟨c,1,5⟩]) (bl.length+1) (Lands.mk' (m:=bl.length) (Nat.lt_succ_self _) ⟨0,(c0::t0).length,(c0::t0).map E.byte,by omega,by rw[List.length_map],by simp[ZJ],by simp,hall,rfl,rfl,rfl⟩ ?_ rfl rfl rfl rfl rfl rfl) ?_
 ·exact .cons rfl (.cons rfl (.cons rfl (.cons rfl .nil)))
 rintro f tm bx fr ⟨i,c,L,hf,hc,hL,hpre,hA,rfl,rfl,rfl⟩
 subst hc
 have hUL:Uni 1 L:=by rw[hL];exact YK _
 have hLl:L.length=(c0::t0).length+(ZJ ((bl.take i).map wB1)).length:=by rw[hL,List.length_map,List.length_append]
 have hpl:=Us _ hpre
 have hti:(bl.take i).length<=1000000:=by rw[List.length_take];omega
 rcases Nat.lt_or_ge i bl.length with hlt|hge
 ·have hdl:decide ((i:Int)<((YJ bl).length:Int))=true:=decide_eq_true (by omega)
  obtain⟨y,hy⟩:∃ y,bl[i]?=some y:=⟨_,List.getElem?_eq_getElem hlt⟩
  have hv:=UE hy
  obtain⟨hyf,hyd⟩:=hbl y (List.mem_of_getElem? hy)
  have hB:=GE y hyf hyd
  have hdr:bl.drop i=y::bl.drop (i+1):=by
   rw[List.drop_eq_getElem_cons hlt];congr 1
   exact(List.getElem?_eq_some_iff.1 hy).2
  rw[hdr,List.all_cons]at hA
  have ht1:bl.take (i+1)=bl.take i++[y]:=by rw[List.take_add_one,hy];rfl
  have ei:IntKind.i64.wrap ((i:Int)+1)=((i+1:Nat):Int):=by rw[IntWalk.i64_in _ (by omega)];omega
  rcases hwy:YU y with⟨z,e⟩
  have hz:=H3 hyf hyd
  rw[hwy]at hB hA hz
  dsimp only[Qo]at hB hA hz
  by_cases he:e=0
  case neg=>
   have te:((e:Int) != 0)=true:=by simpa using he
   have te2:((e:Int)==0)=false:=by simpa using he
   rw[te2,Bool.false_and]at hA
   subst hA
   obtain⟨k2,n2,b2,l2⟩:=z
   repeat'(first|(apply Zb (hB);kernel_rfl;(iterate 4 exact Z))|(apply Zg Za;exact Z)|(apply Zf Za;exact Z)|(apply Zs Za;exact Z)|refine Zd Z Qt ?_|(apply Zx Za;(iterate 6 exact Z);(first|exact Qt|rotate_left);(first|with_reducible assumption|decide +kernel|exact Z);(first|exact Zj rfl|with_reducible assumption|decide +kernel|rotate_left)))
   all_goals exact Qe
  subst he
  obtain⟨_,hsy⟩:=Ur hwy
  have hzr:=UZ hsy
  have hzl:=Tb hwy hyd
  have hD:=Q1 z hz (by omega) hzr
  obtain⟨c1,t1,hp1⟩:=Ke z hz hzr
  rw[show((0:Int)==0)=true from rfl,Bool.true_and]at hA
  have hLn:L++(c1::t1).map E.byte=(c0::t0++ZJ ((bl.take (i+1)).map wB1)).map E.byte:=by
   have e2:(bl.take (i+1)).map wB1=(bl.take i).map wB1++[z]:=by
    rw[ht1,List.map_append]
    show _++[(YU y).1]=_
    rw[hwy]
   rw[hL,e2,QM]
   simp[ZJ,hp1]
  have hpre2:∀ c ∈ bl.take (i+1),(YU c).2=0/\c.data.length<=3000:=fun c hc=>by
   rw[ht1]at hc
   rcases List.mem_append.1 hc with hc|hc
   ·exact hpre c hc
   ·simp at hc;subst hc;exact⟨by rw[hwy],hyd⟩
  rw[hp1]at hD hzl
  have hU1:=YK (c1::t1)
  clear hwy hsy hzr hp1
  obtain⟨k2,n2,b2,l2⟩:=z
  repeat'(first|(apply Zb (hB);kernel_rfl;(iterate 4 exact Z))|(apply Zb (hD);kernel_rfl;(iterate 4 exact Z))|rw[ei]|(apply Zg Za;exact Z)|(apply Zf Za;exact Z)|refine Zd Z Qt ?_|refine Zh Z Qt ?_|(apply ZY Za;(iterate 6 exact Z);(first|with_reducible assumption|decide +kernel|exact Z|rotate_left);exact Z;exact Z;(first|exact Zj rfl|with_reducible assumption|decide +kernel|rotate_left);(first|exact Zj rfl|with_reducible assumption|decide +kernel|rotate_left);(first|exact Qt|rotate_left);(first|exact Qt|rotate_left);(first|exact Qt|rotate_left);exact Z;exact Z)|(apply Zx Za;(iterate 6 exact Z);(first|exact Qt|rotate_left);(first|with_reducible assumption|decide +kernel|exact Z);(first|exact Zj rfl|with_reducible assumption|decide +kernel|rotate_left)))
  ·refine Lands.mk' (m:=f-1) (by omega) ⟨i+1,L.length+((c1::t1).map E.byte).length,L++(c1::t1).map E.byte,by omega,by rw[List.length_append],hLn,hpre2,hA,rfl,rfl,rfl⟩ ?_ rfl rfl rfl rfl rfl rfl
   exact .cons rfl (.cons rfl (.cons rfl (.cons rfl .nil)))
  all_goals(first|rfl|(simp only[List.length_append,List.length_cons,List.length_nil,List.length_map,Zw];done)|(simp only[List.length_append,List.length_cons,List.length_nil,List.length_map,Zw]at *;(try unfold maxLen);(try simp only[Nat.add_mul]);omega))
 ·have hdl:decide ((i:Int)<((YJ bl).length:Int))=false:=decide_eq_false (by omega)
  rw[List.drop_eq_nil_of_le hge]at hA
  rw[List.take_of_length_le hge]at hL
  subst hA
  subst hL
  repeat'(first|(apply Zf Za;exact Z)|refine Zh Z Qt ?_)
  all_goals exact Qe
theorem Nb {b:BunV}(hb:BunOk b)(h:Ja b=true):∃ c t,ZJ (V4 b)=c::t:=by
 unfold Ja at h
 rw[Bool.and_eq_true,beq_iff_eq]at h
 obtain⟨_,hs⟩:=W1 (p:=b.p) (x:=(WE b.p).1) (Prod.ext rfl h.1)
 obtain⟨c,t,e⟩:=Ke _ (XO (p:=b.p) hb.fl) (UZ hs)
 exact⟨c,t++ZJ (b.bl.map fun c=>(YU c).1),by unfold V4;rw[ZJ,e];rfl⟩
theorem GH {b:BunV}(hb:BunOk b)(h:Ja b=true):(ZJ (V4 b)).length<=4000+4000*b.bl.length:=by
 unfold Ja at h
 simp only[Bool.and_eq_true,beq_iff_eq,List.all_eq_true]at h
 have h1:=Tc (p:=b.p) (x:=(WE b.p).1) (Prod.ext rfl h.1)
 have h2:=Us b.bl fun c hc=>⟨h.2 c hc,(hb.bl c hc).2⟩
 unfold V4
 rw[ZJ,List.length_append]
 have:(ZJ (b.bl.map fun c=>(YU c).1)).length<=4000*b.bl.length:=h2
 omega
abbrev JX (b:BunV):D:=match Wc b with
 | true=>.tup [byE (H8 b),.int .i64 0]
 | false=>.tup [.sl .ext [],.int .i64 3]
theorem O7 [Known][KnownU8](b:BunV)(hb:BunOk b):AP Tryd.prog 11 [.agg (bnC b)] (JX b) []:=by
 have hF:=Mi b.bl hb.len fun c hc=>Nat.le_trans (hb.bl c hc).2 (by omega)
 have hI:=Td b hb
 unfold JX Wc
 cases t1:H7 b.bl with
 | false=>
  rw[t1]at hF
  obtain⟨⟨fl,sum,⟨di,dn,ds,dh,dd⟩,⟨ri,rn,rs,rh,rd⟩,⟨xi,xn,xs,xh,xd⟩,t,q,life⟩,bl⟩:=b
  dsimp only at *
  refine AP.ofA (Zl Tryd.func11 Z Tryd.ntmps11 Z Z ?_)
  repeat'(first|(apply Zb (hF);kernel_rfl;(iterate 4 exact Z))|(apply Zg Za;exact Z)|(apply Zf Za;exact Z)|(apply Zs Za;exact Z)|refine Zd Z Qt ?_)
  all_goals exact Qe
 | true=>
 rw[t1]at hF
 unfold O6 at hI
 cases t2:Ja b with
 | false=>
  rw[t2]at hI
  obtain⟨⟨fl,sum,⟨di,dn,ds,dh,dd⟩,⟨ri,rn,rs,rh,rd⟩,⟨xi,xn,xs,xh,xd⟩,t,q,life⟩,bl⟩:=b
  dsimp only at *
  refine AP.ofA (Zl Tryd.func11 Z Tryd.ntmps11 Z Z ?_)
  repeat'(first|(apply Zb (hF);kernel_rfl;(iterate 4 exact Z))|(apply Zb (hI);kernel_rfl;(iterate 4 exact Z))|(apply Zg Za;exact Z)|(apply Zf Za;exact Z)|(apply Zs Za;exact Z)|refine Zo Z Z Z Qt ?_|refine Zk Z Qt Z Z ?_|refine Zd Z Qt ?_|refine Zh Z Qt ?_)
  all_goals exact Qe
 | true=>
 rw[t2]at hI
 obtain⟨c0,t0,hp⟩:=Nb hb t2
 have hl:=GH hb t2
 have hl2:=hb.len
 unfold H8
 rw[hp]at hI hl ⊢
 have hU:=YK (c0::t0)
 have hlm:((c0::t0).map E.byte).length=(c0::t0).length:=List.length_map ..
 cases t3:decide (((c0::t0).length:Int)<=598) with
 | false=>
  have t4:decide ((((c0::t0).map E.byte).length:Int)>598)=true:=by rw[hlm];simp at t3 ⊢;omega
  obtain⟨⟨fl,sum,⟨di,dn,ds,dh,dd⟩,⟨ri,rn,rs,rh,rd⟩,⟨xi,xn,xs,xh,xd⟩,t,q,life⟩,bl⟩:=b
  dsimp only at *
  refine AP.ofA (Zl Tryd.func11 Z Tryd.ntmps11 Z Z ?_)
  repeat'(first|(apply Zb (hF);kernel_rfl;(iterate 4 exact Z))|(apply Zb (hI);kernel_rfl;(iterate 4 exact Z))|(apply Zg Za;exact Z)|(apply Zf Za;exact Z)|(apply Zs Za;exact Z)|refine Ze Z Z Z Qt ?_|refine Zi Z Qt Z Z ?_|refine Zd Z Qt ?_|refine Zh Z Qt ?_|refine Zn Za Z Z Z Z ?_)
  all_goals exact Qe
 | true=>
  have t4:decide ((((c0::t0).map E.byte).length:Int)>598)=false:=by rw[hlm];simp at t3 ⊢;omega
  have t5:=of_decide_eq_true t3
  have hE:[E.int .u8 159]++(c0::t0).map E.byte++[E.int .u8 255]=(159::(c0::t0++[255])).map E.byte:=by simp
  have hU1:Uni 1 ([E.int .u8 159]++(c0::t0).map E.byte):=(YK [159]).append hU
  obtain⟨⟨fl,sum,⟨di,dn,ds,dh,dd⟩,⟨ri,rn,rs,rh,rd⟩,⟨xi,xn,xs,xh,xd⟩,t,q,life⟩,bl⟩:=b
  dsimp only at *
  refine AP.ofA (Zl Tryd.func11 Z Tryd.ntmps11 Z Z ?_)
  repeat'(first|(apply Zb (hF);kernel_rfl;(iterate 4 exact Z))|(apply Zb (hI);kernel_rfl;(iterate 4 exact Z))|(apply Zg Za;exact Z)|(apply Zf Za;exact Z)|(apply Zs Za;exact Z)|refine Ze Z Z Z Qt ?_|refine Zi Z Qt Z Z ?_|refine Zh Z Qt ?_|refine Zn Za Z Z Z Z ?_|refine ZX Za Z Z Z Z Z Z Z Z Z Z Z Z ?_|(apply ZY Za;(iterate 6 exact Z);(first|with_reducible assumption|decide +kernel|exact Z|rotate_left);exact Z;exact Z;(first|exact Zj rfl|with_reducible assumption|decide +kernel|rotate_left);(first|exact Zj rfl|with_reducible assumption|decide +kernel|rotate_left);(first|exact Qt|rotate_left);(first|exact Qt|rotate_left);(first|exact Qt|rotate_left);exact Z;exact Z))
  all_goals first|((apply Zr [];(apply Zc Za;exact Z);(iterate 4 exact Z)))|skip
  all_goals first|rfl|(exact congrArg (fun l=>D.tup [.sl .ext l,.int .i64 0]) hE)|(first|rfl|(simp only[List.length_append,List.length_cons,List.length_nil,List.length_map,Zw];done)|(simp only[List.length_append,List.length_cons,List.length_nil,List.length_map,Zw]at *;(try unfold maxLen);(try simp only[Nat.add_mul]);omega))
theorem JY [Known][KnownU8](b:BunV)(hb:BunOk b):AP Tryd.prog 9 [.agg (bnC b)] (.bool (Wc b)) []:=by
 have hW:=O7 b hb
 unfold JX at hW
 cases h:Wc b with
 | false=>
  rw[h]at hW
  obtain⟨⟨fl,sum,⟨di,dn,ds,dh,dd⟩,⟨ri,rn,rs,rh,rd⟩,⟨xi,xn,xs,xh,xd⟩,t,q,life⟩,bl⟩:=b
  dsimp only at *
  refine AP.ofA (Zl Tryd.func9 Z Tryd.ntmps9 Z Z ?_)
  repeat'(first|(apply Zb (hW);kernel_rfl;(iterate 4 exact Z))|(apply Zg Za;exact Z)|(apply Zf Za;exact Z))
  all_goals exact Qe
 | true=>
  rw[h]at hW
  generalize H8 b=pb at *
  obtain⟨⟨fl,sum,⟨di,dn,ds,dh,dd⟩,⟨ri,rn,rs,rh,rd⟩,⟨xi,xn,xs,xh,xd⟩,t,q,life⟩,bl⟩:=b
  dsimp only at *
  refine AP.ofA (Zl Tryd.func9 Z Tryd.ntmps9 Z Z ?_)
  repeat'(first|(apply Zb (hW);kernel_rfl;(iterate 4 exact Z))|(apply Zg Za;exact Z)|(apply Zf Za;exact Z))
  all_goals exact Qe
abbrev bnR (r:BunV × Int):D:=.tup [.agg (bnC r.1),.int .i64 r.2]
def Ki (p:PriV):Bool:=decide (IntKind.i64.wrap (IntKind.i64.wrap (IntKind.i64.wrap ((p.dest.h.length:Int)+(p.dest.d.length:Int))+(p.rep.h.length:Int))+(p.rep.d.length:Int))>300)||decide (IntKind.i64.wrap ((p.src.h.length:Int)+(p.src.d.length:Int))>300)
theorem GI [Known](p:PriV):AP Tryd.prog 15 [.agg (prC p)] (.bool (Ki p)) []:=by
 have hI:=Gq p.src p.t p.q
 unfold Ki
 obtain⟨fl,sum,⟨di,dn,ds,dh,dd⟩,⟨ri,rn,rs,rh,rd⟩,⟨xi,xn,xs,xh,xd⟩,t,q,life⟩:=p
 try dsimp only at *
 generalize (IntKind.i64.wrap ((xh.length:Int)+(xd.length:Int)))=w2 at *
 cases t1:decide (IntKind.i64.wrap (IntKind.i64.wrap (IntKind.i64.wrap ((dh.length:Int)+(dd.length:Int))+(rh.length:Int))+(rd.length:Int))>300)<;>cases t2:decide (w2>300)
 all_goals
  rw[t2]at hI
  refine AP.ofA (Zl Tryd.func15 Z Tryd.ntmps15 Z Z ?_)
  repeat'(first|(apply Zb (hI);kernel_rfl;(iterate 4 exact Z))|(apply Zg Za;exact Z)|(apply Zf Za;exact Z)|refine Ze Z Z Z Qt ?_|refine Zo Z Z Z Qt ?_|refine Zk Z Qt Z Z ?_|refine Zi Z Qt Z Z ?_|refine W5 Za Z Z Z Z ?_)
  all_goals exact Qe
def Te (l:List BlkV):Bool:=l.any fun c=>decide ((c.data.length:Int)>400)
def Qu (b:BunV):Bool:=decide ((b.bl.length:Int)>20)||(Ki b.p||Te b.bl)
theorem Om {b:BunV}(h:Qu b=false):b.bl.length<=20/\∀ c ∈ b.bl,c.data.length<=400:=by
 unfold Qu Te at h
 simp only[Bool.or_eq_false_iff,decide_eq_false_iff_not,List.any_eq_false,decide_eq_true_eq]at h
 refine⟨by omega,fun c hc=>?_⟩
 have:=h.2.2 c hc
 omega
theorem GJ [Known](b:BunV):AP Tryd.prog 6 [.agg (bnC b)] (.bool (Qu b)) []:=by
 have hG:=GI b.p
 have hlen:=Qs b.bl
 unfold Qu
 cases t0:decide ((b.bl.length:Int)>20) with
 | true=>
  have t1:decide (((YJ b.bl).length:Int)>20)=true:=by rw[hlen];exact t0
  obtain⟨⟨fl,sum,⟨di,dn,ds,dh,dd⟩,⟨ri,rn,rs,rh,rd⟩,⟨xi,xn,xs,xh,xd⟩,t,q,life⟩,bl⟩:=b
  try dsimp only at *
  refine AP.ofA (Zl Tryd.func6 Z Tryd.ntmps6 Z Z ?_)
  repeat'(first|(apply Zg Za;exact Z)|(apply Zf Za;exact Z)|(apply Zs Za;exact Z)|refine Zo Z Z Z Qt ?_|refine Zk Z Qt Z Z ?_|refine Zd Z Qt ?_|refine Zn Za Z Z Z Z ?_)
  all_goals exact Qe
 | false=>
 have h20:=of_decide_eq_false t0
 have t1:decide (((YJ b.bl).length:Int)>20)=false:=by rw[hlen];exact t0
 generalize Ki b.p=gp at *
 cases gp with
 | true=>
  obtain⟨⟨fl,sum,⟨di,dn,ds,dh,dd⟩,⟨ri,rn,rs,rh,rd⟩,⟨xi,xn,xs,xh,xd⟩,t,q,life⟩,bl⟩:=b
  try dsimp only at *
  refine AP.ofA (Zl Tryd.func6 Z Tryd.ntmps6 Z Z ?_)
  repeat'(first|(apply Zb (hG);kernel_rfl;(iterate 4 exact Z))|(apply Zg Za;exact Z)|(apply Zf Za;exact Z)|(apply Zs Za;exact Z)|refine Ze Z Z Z Qt ?_|refine Zi Z Qt Z Z ?_|refine Zd Z Qt ?_|refine Zn Za Z Z Z Z ?_)
  all_goals exact Qe
 | false=>
 rw[Bool.false_or,Bool.false_or]
 obtain⟨⟨fl,sum,⟨di,dn,ds,dh,dd⟩,⟨ri,rn,rs,rh,rd⟩,⟨xi,xn,xs,xh,xd⟩,t,q,life⟩,bl⟩:=b
 try dsimp only at *
 have hU:=GF bl
 generalize hF:Te bl=F
 refine AP.ofA (Zl Tryd.func6 Z Tryd.ntmps6 Z Z ?_)
 repeat'(first|(apply Zb (hG);kernel_rfl;(iterate 4 exact Z))|(apply Zg Za;exact Z)|(apply Zf Za;exact Z)|(apply Zs Za;exact Z)|refine Ze Z Z Z Qt ?_|refine Zi Z Qt Z Z ?_|refine Zh Z Qt ?_|refine Zn Za Z Z Z Z ?_)
 show AW _ _ _ _
 refine Z4 (fun f tm bx fr=>∃(i:Nat),f+i=bl.length/\Te (bl.drop i)=F/\tm=[(1,.ptr 0 0),(3,.int .i64 (i:Int))]/\bx=[[.int .u64 (fl:Int),.int .i64 sum,.bool di,.int .u64 (dn:Int),.int .u64 (ds:Int),.str dh,.str dd,.bool ri,.int .u64 (rn:Int),.int .u64 (rs:Int),.str rh,.str rd,.bool xi,.int .u64 (xn:Int),.int .u64 (xs:Int),.str xh,.str xd,.int .u64 (t:Int),.int .u64 (q:Int),.int .u64 (life:Int),.sl .ext (YJ bl)]]/\fr=[]) (bl.length+1) (Lands.mk' (m:=bl.length) (Nat.lt_succ_self _) ⟨0,by omega,hF,rfl,rfl,rfl⟩ ?_ rfl rfl rfl rfl rfl rfl) ?_
 ·exact .cons rfl (.cons rfl .nil)
 rintro f tm bx fr ⟨i,hf,hq,rfl,rfl,rfl⟩
 rcases Nat.lt_or_ge i bl.length with hlt|hge
 ·have hdl:decide ((i:Int)<((YJ bl).length:Int))=true:=decide_eq_true (by omega)
  obtain⟨c,hy⟩:∃ y,bl[i]?=some y:=⟨_,List.getElem?_eq_getElem hlt⟩
  have hv:=UE hy
  have hdr:bl.drop i=c::bl.drop (i+1):=by
   rw[List.drop_eq_getElem_cons hlt];congr 1
   exact(List.getElem?_eq_some_iff.1 hy).2
  rw[hdr]at hq
  replace hq:(decide ((c.data.length:Int)>400)||Te (bl.drop (i+1)))=F:=hq
  have hcl:((c.data.map E.byte).length:Int)=(c.data.length:Int):=by rw[List.length_map]
  have ei:IntKind.i64.wrap ((i:Int)+1)=((i+1:Nat):Int):=by rw[IntWalk.i64_in _ (by omega)];omega
  rw[<- hcl]at hq
  cases hb:decide (((c.data.map E.byte).length:Int)>400) with
  | true=>
   rw[hb,Bool.true_or]at hq
   subst hq
   repeat'(first|(apply Zg Za;exact Z)|(apply Zf Za;exact Z)|(apply Zs Za;exact Z)|refine Zd Z Qt ?_|refine VA ?_|refine Zn Za Z Z Z Z ?_|(apply Zx Za;(iterate 6 exact Z);(first|exact Qt|rotate_left);(first|with_reducible assumption|decide +kernel|exact Z);(first|exact Zj rfl|with_reducible assumption|decide +kernel|rotate_left)))
   all_goals exact Qe
  | false=>
   rw[hb,Bool.false_or]at hq
   repeat'(first|rw[ei]|(apply Zg Za;exact Z)|(apply Zf Za;exact Z)|(apply Zs Za;exact Z)|refine Zd Z Qt ?_|refine Zh Z Qt ?_|refine Zn Za Z Z Z Z ?_|(apply Zx Za;(iterate 6 exact Z);(first|exact Qt|rotate_left);(first|with_reducible assumption|decide +kernel|exact Z);(first|exact Zj rfl|with_reducible assumption|decide +kernel|rotate_left)))
   refine Lands.mk' (m:=f-1) (by omega) ⟨i+1,by omega,hq,rfl,rfl,rfl⟩ ?_ rfl rfl rfl rfl rfl rfl
   exact .cons rfl (.cons rfl .nil)
 ·have hdl:decide ((i:Int)<((YJ bl).length:Int))=false:=decide_eq_false (by omega)
  rw[List.drop_eq_nil_of_le hge]at hq
  replace hq:false=F:=hq
  subst hq
  repeat'(first|(apply Zg Za;exact Z)|(apply Zf Za;exact Z)|(apply Zs Za;exact Z)|refine Zh Z Qt ?_|refine Zn Za Z Z Z Z ?_)
  all_goals exact Qe
end Go.Proofs.YtmljabhmajehnaaDoor
end
