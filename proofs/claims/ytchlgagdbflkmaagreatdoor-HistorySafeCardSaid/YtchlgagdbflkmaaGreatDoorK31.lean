/- Package bundle: which blocks go together. -/
import Derived.Test.YtchlgagdbflkmaaGreatDoorK30
import Derived.Test.YtchlgagdbflkmaaGreatDoorK28
import Derived.Test.YtchlgagdbflkmaaGreatDoorK18
import Derived.Test.YtchlgagdbflkmaaGreatDoorK22
set_option linter.unusedVariables false
set_option linter.unusedSimpArgs false
section
open Go.RowKit Go.Pl Go.Av
namespace Go.Proofs.YtchlgagdbflkmaaGreatDoor
set_option maxHeartbeats 4000000
abbrev bkE (b:BlkV):E:=.agg [.int .u64 (b.ty:Int),.int .u64 (b.num:Int),.int .u64 (b.fl:Int),.int .i64 b.sum,.sl (b.data.map E.byte)]
abbrev Y5 (l:List BlkV):List E:=l.map bkE
theorem My (l:List BlkV):Uni 5 (Y5 l):=Uni.map (f:=bkE) (fun _=>rfl) l
theorem XG (l:List BlkV):(Y5 l).length=l.length:=List.length_map ..
theorem XH {l:List BlkV}{i:Nat}{b:BlkV}(h:l[i]?=some b):(Y5 l)[((i:Nat):Int).toNat]?=some (.agg [.int .u64 (b.ty:Int),.int .u64 (b.num:Int),.int .u64 (b.fl:Int),.int .i64 b.sum,.sl (b.data.map E.byte)]):=by
 rw[Int.toNat_natCast,List.getElem?_map,h];rfl
theorem Mz (k:Nat):Xn k=(((k:Int)==1)||(((k:Int)==6)||(((k:Int)==7)||((k:Int)==10)))):=by
 unfold Xn
 rw[Bool.eq_iff_iff]
 simp only[Bool.or_eq_true,beq_iff_eq]
 omega
theorem MA [Known](k:Nat):AP Tryz.prog 179 [.int .u64 (k:Int)] (.bool (Xn k)) []:=by
 rw[Mz]
 refine AP.ofA (Zl Tryz.func179 Z Tryz.ntmps179 Z Z ?_)
 repeat'(first|(apply Zg Za;exact Z)|(apply Zh Za;exact Z)|refine Z7 ?_|refine Zd Z Z Z Qt ?_|refine Zo Z Z Z Qt ?_|(apply Ym;exact Z;exact Z;all_goals intro hb)|refine Zj Z Qt Z Z ?_|refine Zi Z Qt Z Z ?_)
 all_goals(apply Zt [];(apply Zc Za;exact Z);(iterate 4 exact Z))
 all_goals first|rfl|(simp only[*];done)|(simp only[*];rfl)|(simp[*];done)
def Ux (b c:BlkV):Bool:=c.num != b.num&&(c.ty != b.ty || !Xn b.ty)
theorem Sq (b c:BlkV):Ux b c=(((c.num:Int) != (b.num:Int))&&(((c.ty:Int) != (b.ty:Int)) || !Xn b.ty)):=by
 have e:∀ a b:Nat,(a != b)=(((a:Nat):Int) != (b:Int)):=fun a b=>by rw[Bool.eq_iff_iff,bne_iff_ne,bne_iff_ne];omega
 unfold Ux
 rw[e,e]
theorem T3 (pre:List BlkV)(b:BlkV)(r:List BlkV):Ky pre (b::r)=(YW b&&pre.all (Ux b)&&Ky (pre++[b]) r):=by
 rw[Ky,Bool.and_assoc];rfl
theorem Sr (l:List BlkV):Hg l=match l[l.length-1]? with
  | none=>false
  | some b=>decide (l.length<=8)&&((b.ty:Int)==1&&((b.num:Int)==1&&Ky [] l)):=by
 unfold Hg
 rw[List.getLast?_eq_getElem?]
 cases h:l[l.length-1]? with
 | none=>rfl
 | some b=>
  have e:∀ a:Nat,(a==1)=(((a:Nat):Int)==1):=fun a=>by rw[Bool.eq_iff_iff,beq_iff_eq,beq_iff_eq];omega
  dsimp only
  rw[e,e]
theorem Ss [Known][KnownU8](l:List BlkV)(hl:l.length<=1000000)(hd:∀ c ∈ l,c.data.length<=140737488351232):AP Tryz.prog 150 [.sl .ext (Y5 l)] (.bool (Hg l)) []:=by
 have hlen:=XG l
 have hU:=My l
 have en:IntKind.i64.wrap (((Y5 l).length:Int)-1)=(l.length:Int)-1:=by rw[IntWalk.i64_in _ (by omega)];omega
 rw[Sr]
 cases hlast:l[l.length-1]? with
 | none=>
  have h0:l.length=0:=by have:=List.getElem?_eq_none_iff.1 hlast;omega
  have t1:decide ((l.length:Int)-1<0)=true:=decide_eq_true (by omega)
  refine AP.ofA (Zl Tryz.func150 Z Tryz.ntmps150 Z Z ?_)
  repeat'(first|refine Ut ?_|rw[en]|(apply Zg Za;exact Z)|(apply Zh Za;exact Z)|(apply Zs Za;exact Z)|refine Z7 ?_|refine Zo Z Z Z Qt ?_|refine Zj Z Qt Z Z ?_|refine Ze Z Qt ?_|refine Zn Za Z Z Z Z ?_)
  all_goals exact Qe
 | some b=>
 have hlt:=(List.getElem?_eq_some_iff.1 hlast).1
 have hv0:=XH hlast
 rw[show((l.length-1:Nat):Int)=(l.length:Int)-1 from by omega]at hv0
 have t1:decide ((l.length:Int)-1<0)=false:=decide_eq_false (by omega)
 dsimp only
 rcases Nat.lt_or_ge 8 l.length with h8|h8
 ·have t2:decide ((l.length:Int)-1 ≥ 8)=true:=decide_eq_true (by omega)
  rw[decide_eq_false (by omega:¬ l.length<=8)]
  refine AP.ofA (Zl Tryz.func150 Z Tryz.ntmps150 Z Z ?_)
  repeat'(first|refine Ut ?_|rw[en]|(apply Zg Za;exact Z)|(apply Zh Za;exact Z)|(apply Zs Za;exact Z)|refine Z7 ?_|refine Zd Z Z Z Qt ?_|refine Zo Z Z Z Qt ?_|refine Zj Z Qt Z Z ?_|refine Zi Z Qt Z Z ?_|refine Ze Z Qt ?_|refine Zn Za Z Z Z Z ?_)
  all_goals exact Qe
 have t2:decide ((l.length:Int)-1 ≥ 8)=false:=decide_eq_false (by omega)
 rw[decide_eq_true h8]
 have i0:(0:Int)<=(l.length:Int)-1:=by omega
 cases t3:((b.ty:Int)==1) with
 | false=>
  have t5:((b.ty:Int) != 1)=true:=by rw[bne,t3];rfl
  refine AP.ofA (Zl Tryz.func150 Z Tryz.ntmps150 Z Z ?_)
  repeat'(first|refine Ut ?_|rw[en]|(apply Zg Za;exact Z)|(apply Zh Za;exact Z)|(apply Zs Za;exact Z)|refine Z7 ?_|refine Zd Z Z Z Qt ?_|refine Zo Z Z Z Qt ?_|refine Zj Z Qt Z Z ?_|refine Zi Z Qt Z Z ?_|refine Ze Z Qt ?_|refine Zn Za Z Z Z Z ?_|(apply Zw Za;(iterate 6 exact Z);(first|exact Qt|rotate_left);(first|with_reducible assumption|decide +kernel|exact Z);(first|exact Zk rfl|with_reducible assumption|decide +kernel|rotate_left)))
  all_goals exact Qe
 | true=>
 have t5:((b.ty:Int) != 1)=false:=by rw[bne,t3];rfl
 cases t4:((b.num:Int)==1) with
 | false=>
  have t6:((b.num:Int) != 1)=true:=by rw[bne,t4];rfl
  refine AP.ofA (Zl Tryz.func150 Z Tryz.ntmps150 Z Z ?_)
  repeat'(first|refine Ut ?_|rw[en]|(apply Zg Za;exact Z)|(apply Zh Za;exact Z)|(apply Zs Za;exact Z)|refine Z7 ?_|refine Zd Z Z Z Qt ?_|refine Zi Z Qt Z Z ?_|refine Ze Z Qt ?_|refine Zn Za Z Z Z Z ?_|(apply Zw Za;(iterate 6 exact Z);(first|exact Qt|rotate_left);(first|with_reducible assumption|decide +kernel|exact Z);(first|exact Zk rfl|with_reducible assumption|decide +kernel|rotate_left)))
  all_goals exact Qe
 | true=>
 have t6:((b.num:Int) != 1)=false:=by rw[bne,t4];rfl
 rw[Bool.true_and,Bool.true_and,Bool.true_and]
 generalize hF:Ky [] l=F
 refine AP.ofA (Zl Tryz.func150 Z Tryz.ntmps150 Z Z ?_)
 repeat'(first|refine Ut ?_|rw[en]|(apply Zg Za;exact Z)|(apply Zh Za;exact Z)|(apply Zs Za;exact Z)|refine Zd Z Z Z Qt ?_|refine Zi Z Qt Z Z ?_|refine Zf Z Qt ?_|refine Zn Za Z Z Z Z ?_|(apply Zw Za;(iterate 6 exact Z);(first|exact Qt|rotate_left);(first|with_reducible assumption|decide +kernel|exact Z);(first|exact Zk rfl|with_reducible assumption|decide +kernel|rotate_left)))
 refine Yf (fun f tm bx fr=>∃(i:Nat),f+i=l.length/\Ky (l.take i) (l.drop i)=F/\tm=[(0,.sl .ext (Y5 l)),(4,.bool true),(34,.sl .ext (Y5 l)),(35,.int .i64 ((Y5 l).length:Int)),(36,.int .i64 (i:Int))]/\bx=[]/\fr=[]) (l.length+1) (Lands.mk' (m:=l.length) (Nat.lt_succ_self _) ⟨0,by omega,hF,rfl,rfl,rfl⟩ ?_ rfl rfl rfl rfl rfl rfl) ?_
 ·exact .cons rfl (.cons rfl (.cons rfl (.cons rfl (.cons rfl .nil))))
 rintro f tm bx fr ⟨i,hf,hq,rfl,rfl,rfl⟩
 rcases Nat.lt_or_ge i l.length with hlt|hge
 ·have hdl:decide ((i:Int)<((Y5 l).length:Int))=true:=decide_eq_true (by omega)
  obtain⟨b,hy⟩:∃ y,l[i]?=some y:=⟨_,List.getElem?_eq_getElem hlt⟩
  have hv:=XH hy
  have hR:=OB b (hd b (List.mem_of_getElem? hy))
  have hA:=MA b.ty
  have hdr:l.drop i=b::l.drop (i+1):=by
   rw[List.drop_eq_getElem_cons hlt];congr 1
   exact(List.getElem?_eq_some_iff.1 hy).2
  rw[hdr,T3]at hq
  have ht1:l.take (i+1)=l.take i++[b]:=by rw[List.take_add_one,hy];rfl
  rw[<- ht1]at hq
  have ei:IntKind.i64.wrap ((i:Int)+1)=((i+1:Nat):Int):=by rw[IntWalk.i64_in _ (by omega)];omega
  generalize hr:YW b=r at hR hq
  have hle:((i:Nat):Int).toNat<=(Y5 l).length:=by rw[Int.toNat_natCast];omega
  have hI:(Y5 l).take ((i:Nat):Int).toNat=Y5 (l.take i):=by rw[Int.toNat_natCast];exact List.map_take.symm
  have hli:(l.take i).length=i:=by rw[List.length_take];omega
  have hlb:=XG (l.take i)
  have hU2:=My (l.take i)
  generalize hlt2:l.take i=p at *
  repeat'(first|(apply Zb (hR);kernel_rfl;(iterate 4 exact Z))|refine Jq Za Z Z Z Z Z Z hU (Int.natCast_nonneg _) hle hI ?_|(apply Zg Za;exact Z)|(apply Zh Za;exact Z)|refine Ze Z Qt ?_|refine Zn Za Z Z Z Z ?_|(apply Zw Za;(iterate 6 exact Z);(first|exact Qt|rotate_left);(first|with_reducible assumption|decide +kernel|exact Z);(first|exact Zk rfl|with_reducible assumption|decide +kernel|rotate_left)))
  refine Yf (fun f tm bx fr=>∃(j:Nat),f+j=p.length/\tm=[(0,.sl .ext (Y5 l)),(4,.bool (r&&(p.take j).all (Ux b))),(6,.ptr 0 0),(34,.sl .ext (Y5 l)),(35,.int .i64 ((Y5 l).length:Int)),(36,.int .i64 (i:Int)),(45,.sl .ext (Y5 p)),(46,.int .i64 ((Y5 p).length:Int)),(47,.int .i64 (j:Int))]/\bx=[bkC b]/\fr=[]) (p.length+1) (Lands.mk' (m:=p.length) (Nat.lt_succ_self _) ⟨0,by omega,by rw[List.take_zero,List.all_nil,Bool.and_true],rfl,rfl⟩ ?_ rfl rfl rfl rfl rfl rfl) ?_
  ·exact .cons rfl (.cons rfl (.cons rfl (.cons rfl (.cons rfl (.cons rfl (.cons rfl (.cons rfl (.cons rfl .nil))))))))
  rintro f2 tm bx fr ⟨j,hj,rfl,rfl,rfl⟩
  rcases Nat.lt_or_ge j p.length with hjl|hjg
  ·have hdl2:decide ((j:Int)<((Y5 p).length:Int))=true:=decide_eq_true (by omega)
   obtain⟨c,hc⟩:∃ y,p[j]?=some y:=⟨_,List.getElem?_eq_getElem hjl⟩
   have hv2:=XH hc
   have ej:IntKind.i64.wrap ((j:Int)+1)=((j+1:Nat):Int):=by rw[IntWalk.i64_in _ (by omega)];omega
   have ht2:(p.take (j+1)).all (Ux b)=((p.take j).all (Ux b)&&Ux b c):=by rw[List.take_add_one,hc,List.all_append];simp
   have hok:(r&&(p.take (j+1)).all (Ux b))=((r&&(p.take j).all (Ux b))&&(((c.num:Int) != (b.num:Int))&&(((c.ty:Int) != (b.ty:Int)) || !Xn b.ty))):=by rw[ht2,Sq,Bool.and_assoc]
   generalize (r&&(p.take j).all (Ux b))=ok at *
   have key:∀ v:Bool,v=(r&&(p.take (j+1)).all (Ux b))->∃(j':Nat),f2-1+j'=p.length/\[(0,D.sl .ext (Y5 l)),(4,.bool v),(6,.ptr 0 0),(34,.sl .ext (Y5 l)),(35,.int .i64 ((Y5 l).length:Int)),(36,.int .i64 (i:Int)),(45,.sl .ext (Y5 p)),(46,.int .i64 ((Y5 p).length:Int)),(47,.int .i64 ((j+1:Nat):Int))]=[(0,.sl .ext (Y5 l)),(4,.bool (r&&(p.take j').all (Ux b))),(6,.ptr 0 0),(34,.sl .ext (Y5 l)),(35,.int .i64 ((Y5 l).length:Int)),(36,.int .i64 (i:Int)),(45,.sl .ext (Y5 p)),(46,.int .i64 ((Y5 p).length:Int)),(47,.int .i64 (j':Int))]/\[bkC b]=[bkC b]/\([]:List Fr)=[]:=fun v hv=>⟨j+1,by omega,by rw[hv],rfl,rfl⟩
   cases ok<;>cases n1:((c.num:Int) != (b.num:Int))<;>cases n2:((c.ty:Int) != (b.ty:Int))<;>cases n3:Xn b.ty<;>rw[n1,n2,n3]at hok<;>rw[n3]at hA
   all_goals repeat'(first|rw[ej]|(apply Zb (hA);kernel_rfl;(iterate 4 exact Z))|(apply Zg Za;exact Z)|(apply Zh Za;exact Z)|refine Z7 ?_|refine Zd Z Z Z Qt ?_|refine Zr Z Z Z Qt ?_|refine Zo Z Z Z Qt ?_|refine Tw Z Z Z ?_|refine Zj Z Qt Z Z ?_|refine Zi Z Qt Z Z ?_|refine Ze Z Qt ?_|refine ZD ?_|(apply Zw Za;(iterate 6 exact Z);(first|exact Qt|rotate_left);(first|with_reducible assumption|decide +kernel|exact Z);(first|exact Zk rfl|with_reducible assumption|decide +kernel|rotate_left)))
   all_goals refine Lands.mk' (m:=f2-1) (by omega) (key _ (by rw[hok])) ?_ rfl rfl rfl rfl rfl rfl
   all_goals exact .cons rfl (.cons rfl (.cons rfl (.cons rfl (.cons rfl (.cons rfl (.cons rfl (.cons rfl (.cons rfl .nil))))))))
  ·have hdl2:decide ((j:Int)<((Y5 p).length:Int))=false:=decide_eq_false (by omega)
   rw[List.take_of_length_le hjg]
   generalize (r&&p.all (Ux b))=ok at *
   cases ok with
   | true=>
    repeat'(first|rw[ei]|(apply Zh Za;exact Z)|refine Z7 ?_|refine Zf Z Qt ?_|refine ZD ?_)
    refine Lands.mk' (m:=f-1) (by omega) ⟨i+1,by omega,by simpa using hq,rfl,rfl,rfl⟩ ?_ rfl rfl rfl rfl rfl rfl
    exact .cons rfl (.cons rfl (.cons rfl (.cons rfl (.cons rfl .nil))))
   | false=>
    rw[Bool.false_and]at hq
    subst hq
    repeat'(first|(apply Zh Za;exact Z)|refine Z7 ?_|refine Ze Z Qt ?_|refine Zf Z Qt ?_)
    all_goals exact Qe
 ·have hdl:decide ((i:Int)<((Y5 l).length:Int))=false:=decide_eq_false (by omega)
  rw[List.drop_eq_nil_of_le hge,Ky]at hq
  subst hq
  repeat'(first|(apply Zh Za;exact Z)|refine Z7 ?_|refine Zf Z Qt ?_)
  all_goals exact Qe
abbrev bnC (b:BunV):List D:=[.int .u64 (b.p.fl:Int),.int .i64 b.p.sum,.bool b.p.dest.i,.int .u64 (b.p.dest.n:Int),.int .u64 (b.p.dest.s:Int),.str b.p.dest.h,.str b.p.dest.d,.bool b.p.rep.i,.int .u64 (b.p.rep.n:Int),.int .u64 (b.p.rep.s:Int),.str b.p.rep.h,.str b.p.rep.d,.bool b.p.src.i,.int .u64 (b.p.src.n:Int),.int .u64 (b.p.src.s:Int),.str b.p.src.h,.str b.p.src.d,.int .u64 (b.p.t:Int),.int .u64 (b.p.q:Int),.int .u64 (b.p.life:Int),.sl .ext (Y5 b.bl)]
structure BunOk (b:BunV):Prop where
 fl:b.p.fl<18446744073709551616
 len:b.bl.length<=1000000
 bl:∀ c ∈ b.bl,c.fl<18446744073709551616/\c.data.length<=3000
theorem KB {l:List It}{a:Int}{x:It}(h:VX l a=(x,0)):(ZU x).length<=(ZQ l).length+40:=by
 rcases He h with rfl|⟨s,hs,rfl⟩
 ·have:=YO 4 0 [] l
  simp at this ⊢;omega
 ·have h0:=YO 4 0 [] (l++[.mk 2 0 (U2 s (ZU (Yh s l))) []])
  have h1:=YO 2 0 (U2 s (ZU (Yh s l))) []
  have h2:=Km s (ZU (Yh s l)) hs
  rw[QL]at h0
  simp only[ZQ,List.length_append,List.length_nil,Nat.add_zero,Nat.zero_add]at h0 h1
  show(ZU (.mk 4 0 [] (l++[.mk 2 0 (U2 s (ZU (Yh s l))) []]))).length<=_
  omega
theorem MB {b:BlkV}{x:It}(h:YL b=(x,0))(hd:b.data.length<=3000):(ZU x).length<=4000:=by
 obtain⟨_,hs⟩:=Qr h
 have h0:=KB hs
 have n1:=Y0 b.ty
 have n2:=Y0 b.num
 have n3:=Y0 b.fl
 have n4:=Y0 b.sum.toNat
 have n5:=YO 2 0 b.data []
 simp only[Uf,ZQ,List.length_append,List.length_nil,Nat.add_zero,Nat.zero_add]at h0 n5
 omega
theorem MC {p:PriV}{x:It}(h:Wm p=(x,0)):(ZU x).length<=4000:=by
 obtain⟨hr,hs⟩:=Vz h
 have h0:=KB hs
 obtain⟨h1,h2,h3,h4,h5,h6⟩:=JG hr
 obtain⟨i1,_,_⟩:=V1.1 h5
 have n1:=Y0 7
 have n2:=Y0 p.fl
 have n3:=Y0 p.sum.toNat
 have n4:=Uw h3
 have n5:=Uw i1
 have n6:=Uw h4
 have n7:=XD p.t p.q
 have n8:=Y0 p.life
 have e7:Mp p.t p.q=.mk 4 0 [] [.mk 0 p.t [] [],.mk 0 p.q [] []]:=rfl
 rw[e7]at n7
 simp only[Ug,ZQ,List.length_append,List.length_nil,Nat.add_zero,Nat.zero_add]at h0
 omega
abbrev wB1 (c:BlkV):It:=(YL c).1
abbrev Hh (b:BunV):D:=match Xo b with
 | true=>.tup [byE (ZQ (UP b)),.bool true]
 | false=>.tup [.sl .ext [],.bool false]
theorem Qu:∀(l:List BlkV),(∀ c ∈ l,(YL c).2=0/\c.data.length<=3000)->(ZQ (l.map wB1)).length<=4000*l.length
 | [],_=>by simp[ZQ]
 | c::l,h=>by
  have h1:(ZU (wB1 c)).length<=4000:=MB (x:=(YL c).1) (Prod.ext rfl (h c (List.mem_cons_self ..)).1) (h c (List.mem_cons_self ..)).2
  have h2:=Qu l fun y hy=>h y (List.mem_cons_of_mem _ hy)
  rw[List.map_cons,ZQ,List.length_append,List.length_cons]
  omega
theorem MD [Known][KnownU8](b:BunV)(hb:BunOk b):AP Tryz.prog 151 [.agg (bnC b)] (Hh b) []:=by
 have hW:=Kx b.p hb.fl
 have hlen:=XG b.bl
 have hUb:=My b.bl
 have hl:=hb.len
 unfold Hh Xo
 rcases hwp:Wm b.p with⟨x,e⟩
 rw[hwp]at hW
 have hx:=J6 (p:=b.p) hb.fl
 rw[hwp]at hx
 dsimp only[JC]at hW hx
 by_cases he:e=0
 case neg=>
  have te:((e:Int) != 0)=true:=by simpa using he
  have te2:((e:Int)==0)=false:=by simpa using he
  dsimp only
  rw[te2]
  obtain⟨k,n,bb,l⟩:=x
  obtain⟨⟨fl,sum,⟨di,dn,ds,dh,dd⟩,⟨ri,rn,rs,rh,rd⟩,⟨xi,xn,xs,xh,xd⟩,t,q,life⟩,bl⟩:=b
  dsimp only at *
  refine AP.ofA (Zl Tryz.func151 Z Tryz.ntmps151 Z Z ?_)
  repeat'(first|(apply Zb (hW);kernel_rfl;(iterate 4 exact Z))|(apply Zg Za;exact Z)|(apply Zh Za;exact Z)|(apply Zs Za;exact Z)|refine Ze Z Qt ?_)
  all_goals exact Qe
 subst he
 obtain⟨hrP,hsP⟩:=Vz hwp
 have hxr:=Q9 hsP
 have hxl:=MC hwp
 obtain⟨c0,t0,hp0⟩:=G3 x hx hxr
 have hC:=TP x hx hxr (by omega)
 dsimp only
 rw[show((0:Int)==0)=true from rfl,Bool.true_and]
 have hit:UP b=x::b.bl.map wB1:=by unfold UP;rw[hwp]
 rw[hit,ZQ]
 generalize hall:(b.bl.all fun c=>(YL c).2==0)=A
 rw[hp0]at hC hxl ⊢
 clear hwp hsP hrP hit
 have hxw:=hx
 obtain⟨k,n,bb,l⟩:=x
 clear hx hxw hxr hp0
 obtain⟨⟨fl,sum,⟨di,dn,ds,dh,dd⟩,⟨ri,rn,rs,rh,rd⟩,⟨xi,xn,xs,xh,xd⟩,t,q,life⟩,bl⟩:=b
 obtain⟨_,_,hbl⟩:=hb
 dsimp only at *
 refine AP.ofA (Zl Tryz.func151 Z Tryz.ntmps151 Z Z ?_)
 repeat'(first|(apply Zb (hW);kernel_rfl;(iterate 4 exact Z))|(apply Zx [] [] (hC);kernel_rfl;(iterate 10 exact Z))|(apply Zg Za;exact Z)|(apply Zh Za;exact Z)|refine Zf Z Qt ?_|refine Zn Za Z Z Z Z ?_)
 show AW _ _ _ _
 refine Yf (fun f tm bx fr=>∃(i c:Nat) (L:List E),f+i=bl.length/\c=L.length/\L=(c0::t0++ZQ ((bl.take i).map wB1)).map E.byte/\(∀ c ∈ bl.take i,(YL c).2=0/\c.data.length<=3000)/\((bl.drop i).all fun c=>(YL c).2==0)=A/\tm=[(6,.sl (.own 0) L),(28,.sl .ext (Y5 bl)),(29,.int .i64 ((Y5 bl).length:Int)),(30,.int .i64 (i:Int))]/\bx=[]/\fr=[⟨c,1,5⟩]) (bl.length+1) (Lands.mk' (m:=bl.length) (Nat.lt_succ_self _) ⟨0,(c0::t0).length,(c0::t0).map E.byte,by omega,by rw[List.length_map],by simp[ZQ],by simp,hall,rfl,rfl,rfl⟩ ?_ rfl rfl rfl rfl rfl rfl) ?_
 ·exact .cons rfl (.cons rfl (.cons rfl (.cons rfl .nil)))
 rintro f tm bx fr ⟨i,c,L,hf,hc,hL,hpre,hA,rfl,rfl,rfl⟩
 subst hc
 have hUL:Uni 1 L:=by rw[hL];exact Y7 _
 have hLl:L.length=(c0::t0).length+(ZQ ((bl.take i).map wB1)).length:=by rw[hL,List.length_map,List.length_append]
 have hpl:=Qu _ hpre
 have hti:(bl.take i).length<=1000000:=by rw[List.length_take];omega
 rcases Nat.lt_or_ge i bl.length with hlt|hge
 ·have hdl:decide ((i:Int)<((Y5 bl).length:Int))=true:=decide_eq_true (by omega)
  obtain⟨y,hy⟩:∃ y,bl[i]?=some y:=⟨_,List.getElem?_eq_getElem hlt⟩
  have hv:=XH hy
  obtain⟨hyf,hyd⟩:=hbl y (List.mem_of_getElem? hy)
  have hB:=OC y hyf hyd
  have hdr:bl.drop i=y::bl.drop (i+1):=by
   rw[List.drop_eq_getElem_cons hlt];congr 1
   exact(List.getElem?_eq_some_iff.1 hy).2
  rw[hdr,List.all_cons]at hA
  have ht1:bl.take (i+1)=bl.take i++[y]:=by rw[List.take_add_one,hy];rfl
  have ei:IntKind.i64.wrap ((i:Int)+1)=((i+1:Nat):Int):=by rw[IntWalk.i64_in _ (by omega)];omega
  rcases hwy:YL y with⟨z,e⟩
  have hz:=Gn hyf hyd
  rw[hwy]at hB hA hz
  dsimp only[JC]at hB hA hz
  by_cases he:e=0
  case neg=>
   have te:((e:Int) != 0)=true:=by simpa using he
   have te2:((e:Int)==0)=false:=by simpa using he
   rw[te2,Bool.false_and]at hA
   subst hA
   obtain⟨k2,n2,b2,l2⟩:=z
   repeat'(first|(apply Zb (hB);kernel_rfl;(iterate 4 exact Z))|(apply Zg Za;exact Z)|(apply Zh Za;exact Z)|(apply Zs Za;exact Z)|refine Ze Z Qt ?_|(apply Zw Za;(iterate 6 exact Z);(first|exact Qt|rotate_left);(first|with_reducible assumption|decide +kernel|exact Z);(first|exact Zk rfl|with_reducible assumption|decide +kernel|rotate_left)))
   all_goals exact Qe
  subst he
  obtain⟨_,hsy⟩:=Qr hwy
  have hzr:=Q9 hsy
  have hzl:=MB hwy hyd
  have hD:=Gb z hz (by omega) hzr
  obtain⟨c1,t1,hp1⟩:=G3 z hz hzr
  rw[show((0:Int)==0)=true from rfl,Bool.true_and]at hA
  have hLn:L++(c1::t1).map E.byte=(c0::t0++ZQ ((bl.take (i+1)).map wB1)).map E.byte:=by
   have e2:(bl.take (i+1)).map wB1=(bl.take i).map wB1++[z]:=by
    rw[ht1,List.map_append]
    show _++[(YL y).1]=_
    rw[hwy]
   rw[hL,e2,QL]
   simp[ZQ,hp1]
  have hpre2:∀ c ∈ bl.take (i+1),(YL c).2=0/\c.data.length<=3000:=fun c hc=>by
   rw[ht1]at hc
   rcases List.mem_append.1 hc with hc|hc
   ·exact hpre c hc
   ·simp at hc;subst hc;exact⟨by rw[hwy],hyd⟩
  rw[hp1]at hD hzl
  have hU1:=Y7 (c1::t1)
  clear hwy hsy hzr hp1
  obtain⟨k2,n2,b2,l2⟩:=z
  repeat'(first|(apply Zb (hB);kernel_rfl;(iterate 4 exact Z))|(apply Zb (hD);kernel_rfl;(iterate 4 exact Z))|rw[ei]|(apply Zg Za;exact Z)|(apply Zh Za;exact Z)|refine Ze Z Qt ?_|refine Zf Z Qt ?_|(apply Z3 Za;(iterate 6 exact Z);(first|with_reducible assumption|decide +kernel|exact Z|rotate_left);exact Z;exact Z;(first|exact Zk rfl|with_reducible assumption|decide +kernel|rotate_left);(first|exact Zk rfl|with_reducible assumption|decide +kernel|rotate_left);(first|exact Qt|rotate_left);(first|exact Qt|rotate_left);(first|exact Qt|rotate_left);exact Z;exact Z)|(apply Zw Za;(iterate 6 exact Z);(first|exact Qt|rotate_left);(first|with_reducible assumption|decide +kernel|exact Z);(first|exact Zk rfl|with_reducible assumption|decide +kernel|rotate_left)))
  ·refine Lands.mk' (m:=f-1) (by omega) ⟨i+1,L.length+((c1::t1).map E.byte).length,L++(c1::t1).map E.byte,by omega,by rw[List.length_append],hLn,hpre2,hA,rfl,rfl,rfl⟩ ?_ rfl rfl rfl rfl rfl rfl
   exact .cons rfl (.cons rfl (.cons rfl (.cons rfl .nil)))
  all_goals(first|rfl|(simp only[List.length_append,List.length_cons,List.length_nil,List.length_map,Zz];done)|(simp only[List.length_append,List.length_cons,List.length_nil,List.length_map,Zz]at *;(try unfold maxLen);(try simp only[Nat.add_mul]);omega))
 ·have hdl:decide ((i:Int)<((Y5 bl).length:Int))=false:=decide_eq_false (by omega)
  rw[List.drop_eq_nil_of_le hge]at hA
  rw[List.take_of_length_le hge]at hL
  subst hA
  subst hL
  repeat'(first|(apply Zh Za;exact Z)|refine Zf Z Qt ?_)
  all_goals exact Qe
theorem LV {b:BunV}(hb:BunOk b)(h:Xo b=true):∃ c t,ZQ (UP b)=c::t:=by
 unfold Xo at h
 rw[Bool.and_eq_true,beq_iff_eq]at h
 obtain⟨_,hs⟩:=Vz (p:=b.p) (x:=(Wm b.p).1) (Prod.ext rfl h.1)
 obtain⟨c,t,e⟩:=G3 _ (J6 (p:=b.p) hb.fl) (Q9 hs)
 exact⟨c,t++ZQ (b.bl.map fun c=>(YL c).1),by unfold UP;rw[ZQ,e];rfl⟩
theorem T4 {b:BunV}(hb:BunOk b)(h:Xo b=true):(ZQ (UP b)).length<=4000+4000*b.bl.length:=by
 unfold Xo at h
 simp only[Bool.and_eq_true,beq_iff_eq,List.all_eq_true]at h
 have h1:=MC (p:=b.p) (x:=(Wm b.p).1) (Prod.ext rfl h.1)
 have h2:=Qu b.bl fun c hc=>⟨h.2 c hc,(hb.bl c hc).2⟩
 unfold UP
 rw[ZQ,List.length_append]
 have:(ZQ (b.bl.map fun c=>(YL c).1)).length<=4000*b.bl.length:=h2
 omega
abbrev JI (b:BunV):D:=match VD b with
 | true=>.tup [byE (OI b),.int .i64 0]
 | false=>.tup [.sl .ext [],.int .i64 3]
theorem KC [Known][KnownU8](b:BunV)(hb:BunOk b):AP Tryz.prog 126 [.agg (bnC b)] (JI b) []:=by
 have hF:=Ss b.bl hb.len fun c hc=>Nat.le_trans (hb.bl c hc).2 (by omega)
 have hI:=MD b hb
 unfold JI VD
 cases t1:Hg b.bl with
 | false=>
  rw[t1]at hF
  obtain⟨⟨fl,sum,⟨di,dn,ds,dh,dd⟩,⟨ri,rn,rs,rh,rd⟩,⟨xi,xn,xs,xh,xd⟩,t,q,life⟩,bl⟩:=b
  dsimp only at *
  refine AP.ofA (Zl Tryz.func126 Z Tryz.ntmps126 Z Z ?_)
  repeat'(first|(apply Zb (hF);kernel_rfl;(iterate 4 exact Z))|(apply Zg Za;exact Z)|(apply Zh Za;exact Z)|(apply Zs Za;exact Z)|refine Ze Z Qt ?_)
  all_goals exact Qe
 | true=>
 rw[t1]at hF
 unfold Hh at hI
 cases t2:Xo b with
 | false=>
  rw[t2]at hI
  obtain⟨⟨fl,sum,⟨di,dn,ds,dh,dd⟩,⟨ri,rn,rs,rh,rd⟩,⟨xi,xn,xs,xh,xd⟩,t,q,life⟩,bl⟩:=b
  dsimp only at *
  refine AP.ofA (Zl Tryz.func126 Z Tryz.ntmps126 Z Z ?_)
  repeat'(first|(apply Zb (hF);kernel_rfl;(iterate 4 exact Z))|(apply Zb (hI);kernel_rfl;(iterate 4 exact Z))|(apply Zg Za;exact Z)|(apply Zh Za;exact Z)|(apply Zs Za;exact Z)|refine Zo Z Z Z Qt ?_|refine Zj Z Qt Z Z ?_|refine Ze Z Qt ?_|refine Zf Z Qt ?_)
  all_goals exact Qe
 | true=>
 rw[t2]at hI
 obtain⟨c0,t0,hp⟩:=LV hb t2
 have hl:=T4 hb t2
 have hl2:=hb.len
 unfold OI
 rw[hp]at hI hl ⊢
 have hU:=Y7 (c0::t0)
 have hlm:((c0::t0).map E.byte).length=(c0::t0).length:=List.length_map ..
 cases t3:decide (((c0::t0).length:Int)<=598) with
 | false=>
  have t4:decide ((((c0::t0).map E.byte).length:Int)>598)=true:=by rw[hlm];simp at t3 ⊢;omega
  obtain⟨⟨fl,sum,⟨di,dn,ds,dh,dd⟩,⟨ri,rn,rs,rh,rd⟩,⟨xi,xn,xs,xh,xd⟩,t,q,life⟩,bl⟩:=b
  dsimp only at *
  refine AP.ofA (Zl Tryz.func126 Z Tryz.ntmps126 Z Z ?_)
  repeat'(first|(apply Zb (hF);kernel_rfl;(iterate 4 exact Z))|(apply Zb (hI);kernel_rfl;(iterate 4 exact Z))|(apply Zg Za;exact Z)|(apply Zh Za;exact Z)|(apply Zs Za;exact Z)|refine Zd Z Z Z Qt ?_|refine Zi Z Qt Z Z ?_|refine Ze Z Qt ?_|refine Zf Z Qt ?_|refine Zn Za Z Z Z Z ?_)
  all_goals exact Qe
 | true=>
  have t4:decide ((((c0::t0).map E.byte).length:Int)>598)=false:=by rw[hlm];simp at t3 ⊢;omega
  have t5:=of_decide_eq_true t3
  have hE:[E.int .u8 159]++(c0::t0).map E.byte++[E.int .u8 255]=(159::(c0::t0++[255])).map E.byte:=by simp
  have hU1:Uni 1 ([E.int .u8 159]++(c0::t0).map E.byte):=(Y7 [159]).append hU
  obtain⟨⟨fl,sum,⟨di,dn,ds,dh,dd⟩,⟨ri,rn,rs,rh,rd⟩,⟨xi,xn,xs,xh,xd⟩,t,q,life⟩,bl⟩:=b
  dsimp only at *
  refine AP.ofA (Zl Tryz.func126 Z Tryz.ntmps126 Z Z ?_)
  repeat'(first|(apply Zb (hF);kernel_rfl;(iterate 4 exact Z))|(apply Zb (hI);kernel_rfl;(iterate 4 exact Z))|(apply Zg Za;exact Z)|(apply Zh Za;exact Z)|(apply Zs Za;exact Z)|refine Zd Z Z Z Qt ?_|refine Zi Z Qt Z Z ?_|refine Zf Z Qt ?_|refine Zn Za Z Z Z Z ?_|refine ZO Za Z Z Z Z Z Z Z Z Z Z Z Z ?_|(apply Z3 Za;(iterate 6 exact Z);(first|with_reducible assumption|decide +kernel|exact Z|rotate_left);exact Z;exact Z;(first|exact Zk rfl|with_reducible assumption|decide +kernel|rotate_left);(first|exact Zk rfl|with_reducible assumption|decide +kernel|rotate_left);(first|exact Qt|rotate_left);(first|exact Qt|rotate_left);(first|exact Qt|rotate_left);exact Z;exact Z))
  all_goals first|((apply Zt [];(apply Zc Za;exact Z);(iterate 4 exact Z)))|skip
  all_goals first|rfl|(exact congrArg (fun l=>D.tup [.sl .ext l,.int .i64 0]) hE)|(first|rfl|(simp only[List.length_append,List.length_cons,List.length_nil,List.length_map,Zz];done)|(simp only[List.length_append,List.length_cons,List.length_nil,List.length_map,Zz]at *;(try unfold maxLen);(try simp only[Nat.add_mul]);omega))
theorem Hi [Known][KnownU8](b:BunV)(hb:BunOk b):AP Tryz.prog 149 [.agg (bnC b)] (.bool (VD b)) []:=by
 have hW:=KC b hb
 unfold JI at hW
 cases h:VD b with
 | false=>
  rw[h]at hW
  obtain⟨⟨fl,sum,⟨di,dn,ds,dh,dd⟩,⟨ri,rn,rs,rh,rd⟩,⟨xi,xn,xs,xh,xd⟩,t,q,life⟩,bl⟩:=b
  dsimp only at *
  refine AP.ofA (Zl Tryz.func149 Z Tryz.ntmps149 Z Z ?_)
  repeat'(first|(apply Zb (hW);kernel_rfl;(iterate 4 exact Z))|(apply Zg Za;exact Z)|(apply Zh Za;exact Z))
  all_goals exact Qe
 | true=>
  rw[h]at hW
  generalize OI b=pb at *
  obtain⟨⟨fl,sum,⟨di,dn,ds,dh,dd⟩,⟨ri,rn,rs,rh,rd⟩,⟨xi,xn,xs,xh,xd⟩,t,q,life⟩,bl⟩:=b
  dsimp only at *
  refine AP.ofA (Zl Tryz.func149 Z Tryz.ntmps149 Z Z ?_)
  repeat'(first|(apply Zb (hW);kernel_rfl;(iterate 4 exact Z))|(apply Zg Za;exact Z)|(apply Zh Za;exact Z))
  all_goals exact Qe
end Go.Proofs.YtchlgagdbflkmaaGreatDoor
end
