/- Package bundle: which blocks go together. -/
import Derived.Test.YtmljabhmajehnaaGreatDoorO27
import Derived.Test.YtmljabhmajehnaaGreatDoorO26
import Derived.Test.YtmljabhmajehnaaGreatDoorO16
import Derived.Test.YtmljabhmajehnaaGreatDoorO20
import Derived.Test.YtmljabhmajehnaaGreatDoorO22
import Derived.Laws.BitsAllLaws
import Derived.Test.YtmljabhmajehnaaGreatDoorO17
set_option linter.unusedVariables false
set_option linter.unusedSimpArgs false
section
open Go.RowKit Go.Pl Go.Av
namespace Go.Proofs.YtmljabhmajehnaaGreatDoor
set_option maxHeartbeats 4000000
abbrev bkE (b:BlkV):E:=.agg [.int .u64 (b.ty:Int),.int .u64 (b.num:Int),.int .u64 (b.fl:Int),.int .i64 b.sum,.sl (b.data.map E.byte)]
abbrev ZP (l:List BlkV):List E:=l.map bkE
theorem Vl (l:List BlkV):Uni 5 (ZP l):=Uni.map (f:=bkE) (fun _=>rfl) l
theorem Yx (l:List BlkV):(ZP l).length=l.length:=List.length_map ..
theorem Yy {l:List BlkV}{i:Nat}{b:BlkV}(h:l[i]?=some b):(ZP l)[((i:Nat):Int).toNat]?=some (.agg [.int .u64 (b.ty:Int),.int .u64 (b.num:Int),.int .u64 (b.fl:Int),.int .i64 b.sum,.sl (b.data.map E.byte)]):=by
 rw[Int.toNat_natCast,List.getElem?_map,h];rfl
theorem Ra (k:Nat):Uu k=(((k:Int)==1)||(((k:Int)==6)||(((k:Int)==7)||((k:Int)==10)))):=by
 unfold Uu
 rw[Bool.eq_iff_iff]
 simp only[Bool.or_eq_true,beq_iff_eq]
 omega
theorem Rb [Known](k:Nat):AP Tryz.prog 106 [.int .u64 (k:Int)] (.bool (Uu k)) []:=by
 rw[Ra]
 refine AP.ofA (Zl Tryz.func106 U Tryz.ntmps106 U U ?_)
 repeat'(first|(apply Zh Za;exact U)|(apply Zg Za;exact U)|refine Ya ?_|refine Ze U U U Qt ?_|refine Zn U U U Qt ?_|(apply Ys;exact U;exact U;all_goals intro hb)|refine Zk U Qt U U ?_|refine Zi U Qt U U ?_)
 all_goals(apply Zp [];(apply Zc Za;exact U);(iterate 4 exact U))
 all_goals first|rfl|(simp only[*];done)|(simp only[*];rfl)|(simp[*];done)
def UV (b c:BlkV):Bool:=c.num != b.num&&(c.ty != b.ty || !Uu b.ty)
theorem BY (b c:BlkV):UV b c=(((c.num:Int) != (b.num:Int))&&(((c.ty:Int) != (b.ty:Int)) || !Uu b.ty)):=by
 have e:∀ a b:Nat,(a != b)=(((a:Nat):Int) != (b:Int)):=fun a b=>by rw[Bool.eq_iff_iff,bne_iff_ne,bne_iff_ne];omega
 unfold UV
 rw[e,e]
theorem Mq (pre:List BlkV)(b:BlkV)(r:List BlkV):Kc pre (b::r)=(ZH b&&pre.all (UV b)&&Kc (pre++[b]) r):=by
 rw[Kc,Bool.and_assoc];rfl
theorem BZ (l:List BlkV):Tq l=match l[l.length-1]? with
  | none=>false
  | some b=>decide (l.length<=8)&&((b.ty:Int)==1&&((b.num:Int)==1&&Kc [] l)):=by
 unfold Tq
 rw[List.getLast?_eq_getElem?]
 cases h:l[l.length-1]? with
 | none=>rfl
 | some b=>
  have e:∀ a:Nat,(a==1)=(((a:Nat):Int)==1):=fun a=>by rw[Bool.eq_iff_iff,beq_iff_eq,beq_iff_eq];omega
  dsimp only
  rw[e,e]
theorem B0 [Known][KnownU8](l:List BlkV)(hl:l.length<=1000000)(hd:∀ c ∈ l,c.data.length<=100000):AP Tryz.prog 56 [.sl .ext (ZP l)] (.bool (Tq l)) []:=by
 have hlen:=Yx l
 have hU:=Vl l
 have en:IntKind.i64.wrap (((ZP l).length:Int)-1)=(l.length:Int)-1:=by rw[IntWalk.i64_in _ (by omega)];omega
 rw[BZ]
 cases hlast:l[l.length-1]? with
 | none=>
  have h0:l.length=0:=by have:=List.getElem?_eq_none_iff.1 hlast;omega
  have t1:decide ((l.length:Int)-1<0)=true:=decide_eq_true (by omega)
  refine AP.ofA (Zl Tryz.func56 U Tryz.ntmps56 U U ?_)
  repeat'(first|refine UM ?_|rw[en]|(apply Zh Za;exact U)|(apply Zg Za;exact U)|(apply Zo Za;exact U)|refine Ya ?_|refine Zn U U U Qt ?_|refine Zk U Qt U U ?_|refine Zd U Qt ?_|refine Zm Za U U U U ?_)
  all_goals exact Qe
 | some b=>
 have hlt:=(List.getElem?_eq_some_iff.1 hlast).1
 have hv0:=Yy hlast
 rw[show((l.length-1:Nat):Int)=(l.length:Int)-1 from by omega]at hv0
 have t1:decide ((l.length:Int)-1<0)=false:=decide_eq_false (by omega)
 dsimp only
 rcases Nat.lt_or_ge 8 l.length with h8|h8
 ·have t2:decide ((l.length:Int)-1 ≥ 8)=true:=decide_eq_true (by omega)
  rw[decide_eq_false (by omega:¬ l.length<=8)]
  refine AP.ofA (Zl Tryz.func56 U Tryz.ntmps56 U U ?_)
  repeat'(first|refine UM ?_|rw[en]|(apply Zh Za;exact U)|(apply Zg Za;exact U)|(apply Zo Za;exact U)|refine Ya ?_|refine Ze U U U Qt ?_|refine Zn U U U Qt ?_|refine Zk U Qt U U ?_|refine Zi U Qt U U ?_|refine Zd U Qt ?_|refine Zm Za U U U U ?_)
  all_goals exact Qe
 have t2:decide ((l.length:Int)-1 ≥ 8)=false:=decide_eq_false (by omega)
 rw[decide_eq_true h8]
 have i0:(0:Int)<=(l.length:Int)-1:=by omega
 cases t3:((b.ty:Int)==1) with
 | false=>
  have t5:((b.ty:Int) != 1)=true:=by rw[bne,t3];rfl
  refine AP.ofA (Zl Tryz.func56 U Tryz.ntmps56 U U ?_)
  repeat'(first|refine UM ?_|rw[en]|(apply Zh Za;exact U)|(apply Zg Za;exact U)|(apply Zo Za;exact U)|refine Ya ?_|refine Ze U U U Qt ?_|refine Zn U U U Qt ?_|refine Zk U Qt U U ?_|refine Zi U Qt U U ?_|refine Zd U Qt ?_|refine Zm Za U U U U ?_|(apply Zu Za;(iterate 6 exact U);(first|exact Qt|rotate_left);(first|with_reducible assumption|decide +kernel|exact U);(first|exact Zj rfl|with_reducible assumption|decide +kernel|rotate_left)))
  all_goals exact Qe
 | true=>
 have t5:((b.ty:Int) != 1)=false:=by rw[bne,t3];rfl
 cases t4:((b.num:Int)==1) with
 | false=>
  have t6:((b.num:Int) != 1)=true:=by rw[bne,t4];rfl
  refine AP.ofA (Zl Tryz.func56 U Tryz.ntmps56 U U ?_)
  repeat'(first|refine UM ?_|rw[en]|(apply Zh Za;exact U)|(apply Zg Za;exact U)|(apply Zo Za;exact U)|refine Ya ?_|refine Ze U U U Qt ?_|refine Zi U Qt U U ?_|refine Zd U Qt ?_|refine Zm Za U U U U ?_|(apply Zu Za;(iterate 6 exact U);(first|exact Qt|rotate_left);(first|with_reducible assumption|decide +kernel|exact U);(first|exact Zj rfl|with_reducible assumption|decide +kernel|rotate_left)))
  all_goals exact Qe
 | true=>
 have t6:((b.num:Int) != 1)=false:=by rw[bne,t4];rfl
 rw[Bool.true_and,Bool.true_and,Bool.true_and]
 generalize hF:Kc [] l=F
 refine AP.ofA (Zl Tryz.func56 U Tryz.ntmps56 U U ?_)
 repeat'(first|refine UM ?_|rw[en]|(apply Zh Za;exact U)|(apply Zg Za;exact U)|(apply Zo Za;exact U)|refine Ze U U U Qt ?_|refine Zi U Qt U U ?_|refine Zf U Qt ?_|refine Zm Za U U U U ?_|(apply Zu Za;(iterate 6 exact U);(first|exact Qt|rotate_left);(first|with_reducible assumption|decide +kernel|exact U);(first|exact Zj rfl|with_reducible assumption|decide +kernel|rotate_left)))
 refine ZJ (fun f tm bx fr=>∃(i:Nat),f+i=l.length/\Kc (l.take i) (l.drop i)=F/\tm=[(0,.sl .ext (ZP l)),(4,.bool true),(34,.sl .ext (ZP l)),(35,.int .i64 ((ZP l).length:Int)),(36,.int .i64 (i:Int))]/\bx=[]/\fr=[]) (l.length+1) (Lands.mk' (m:=l.length) (Nat.lt_succ_self _) ⟨0,by omega,hF,rfl,rfl,rfl⟩ ?_ rfl rfl rfl rfl rfl rfl) ?_
 ·exact .cons rfl (.cons rfl (.cons rfl (.cons rfl (.cons rfl .nil))))
 rintro f tm bx fr ⟨i,hf,hq,rfl,rfl,rfl⟩
 rcases Nat.lt_or_ge i l.length with hlt|hge
 ·have hdl:decide ((i:Int)<((ZP l).length:Int))=true:=decide_eq_true (by omega)
  obtain⟨b,hy⟩:∃ y,l[i]?=some y:=⟨_,List.getElem?_eq_getElem hlt⟩
  have hv:=Yy hy
  have hR:=US b (hd b (List.mem_of_getElem? hy))
  have hA:=Rb b.ty
  have hdr:l.drop i=b::l.drop (i+1):=by
   rw[List.drop_eq_getElem_cons hlt];congr 1
   exact(List.getElem?_eq_some_iff.1 hy).2
  rw[hdr,Mq]at hq
  have ht1:l.take (i+1)=l.take i++[b]:=by rw[List.take_add_one,hy];rfl
  rw[<- ht1]at hq
  have ei:IntKind.i64.wrap ((i:Int)+1)=((i+1:Nat):Int):=by rw[IntWalk.i64_in _ (by omega)];omega
  generalize hr:ZH b=r at hR hq
  have hle:((i:Nat):Int).toNat<=(ZP l).length:=by rw[Int.toNat_natCast];omega
  have hI:(ZP l).take ((i:Nat):Int).toNat=ZP (l.take i):=by rw[Int.toNat_natCast];exact List.map_take.symm
  have hli:(l.take i).length=i:=by rw[List.length_take];omega
  have hlb:=Yx (l.take i)
  have hU2:=Vl (l.take i)
  generalize hlt2:l.take i=p at *
  repeat'(first|(apply Zb (hR);kernel_rfl;(iterate 4 exact U))|refine Lr Za U U U U U U hU (Int.natCast_nonneg _) hle hI ?_|(apply Zh Za;exact U)|(apply Zg Za;exact U)|refine Zd U Qt ?_|refine Zm Za U U U U ?_|(apply Zu Za;(iterate 6 exact U);(first|exact Qt|rotate_left);(first|with_reducible assumption|decide +kernel|exact U);(first|exact Zj rfl|with_reducible assumption|decide +kernel|rotate_left)))
  refine ZJ (fun f tm bx fr=>∃(j:Nat),f+j=p.length/\tm=[(0,.sl .ext (ZP l)),(4,.bool (r&&(p.take j).all (UV b))),(6,.ptr 0 0),(34,.sl .ext (ZP l)),(35,.int .i64 ((ZP l).length:Int)),(36,.int .i64 (i:Int)),(45,.sl .ext (ZP p)),(46,.int .i64 ((ZP p).length:Int)),(47,.int .i64 (j:Int))]/\bx=[bkC b]/\fr=[]) (p.length+1) (Lands.mk' (m:=p.length) (Nat.lt_succ_self _) ⟨0,by omega,by rw[List.take_zero,List.all_nil,Bool.and_true],rfl,rfl⟩ ?_ rfl rfl rfl rfl rfl rfl) ?_
  ·exact .cons rfl (.cons rfl (.cons rfl (.cons rfl (.cons rfl (.cons rfl (.cons rfl (.cons rfl (.cons rfl .nil))))))))
  rintro f2 tm bx fr ⟨j,hj,rfl,rfl,rfl⟩
  rcases Nat.lt_or_ge j p.length with hjl|hjg
  ·have hdl2:decide ((j:Int)<((ZP p).length:Int))=true:=decide_eq_true (by omega)
   obtain⟨c,hc⟩:∃ y,p[j]?=some y:=⟨_,List.getElem?_eq_getElem hjl⟩
   have hv2:=Yy hc
   have ej:IntKind.i64.wrap ((j:Int)+1)=((j+1:Nat):Int):=by rw[IntWalk.i64_in _ (by omega)];omega
   have ht2:(p.take (j+1)).all (UV b)=((p.take j).all (UV b)&&UV b c):=by rw[List.take_add_one,hc,List.all_append];simp
   have hok:(r&&(p.take (j+1)).all (UV b))=((r&&(p.take j).all (UV b))&&(((c.num:Int) != (b.num:Int))&&(((c.ty:Int) != (b.ty:Int)) || !Uu b.ty))):=by rw[ht2,BY,Bool.and_assoc]
   generalize (r&&(p.take j).all (UV b))=ok at *
   have key:∀ v:Bool,v=(r&&(p.take (j+1)).all (UV b))->∃(j':Nat),f2-1+j'=p.length/\[(0,D.sl .ext (ZP l)),(4,.bool v),(6,.ptr 0 0),(34,.sl .ext (ZP l)),(35,.int .i64 ((ZP l).length:Int)),(36,.int .i64 (i:Int)),(45,.sl .ext (ZP p)),(46,.int .i64 ((ZP p).length:Int)),(47,.int .i64 ((j+1:Nat):Int))]=[(0,.sl .ext (ZP l)),(4,.bool (r&&(p.take j').all (UV b))),(6,.ptr 0 0),(34,.sl .ext (ZP l)),(35,.int .i64 ((ZP l).length:Int)),(36,.int .i64 (i:Int)),(45,.sl .ext (ZP p)),(46,.int .i64 ((ZP p).length:Int)),(47,.int .i64 (j':Int))]/\[bkC b]=[bkC b]/\([]:List Fr)=[]:=fun v hv=>⟨j+1,by omega,by rw[hv],rfl,rfl⟩
   cases ok<;>cases n1:((c.num:Int) != (b.num:Int))<;>cases n2:((c.ty:Int) != (b.ty:Int))<;>cases n3:Uu b.ty<;>rw[n1,n2,n3]at hok<;>rw[n3]at hA
   all_goals repeat'(first|rw[ej]|(apply Zb (hA);kernel_rfl;(iterate 4 exact U))|(apply Zh Za;exact U)|(apply Zg Za;exact U)|refine Ya ?_|refine Ze U U U Qt ?_|refine Zr U U U Qt ?_|refine Zn U U U Qt ?_|refine UE U U U ?_|refine Zk U Qt U U ?_|refine Zi U Qt U U ?_|refine Zd U Qt ?_|refine Z6 ?_|(apply Zu Za;(iterate 6 exact U);(first|exact Qt|rotate_left);(first|with_reducible assumption|decide +kernel|exact U);(first|exact Zj rfl|with_reducible assumption|decide +kernel|rotate_left)))
   all_goals refine Lands.mk' (m:=f2-1) (by omega) (key _ (by rw[hok])) ?_ rfl rfl rfl rfl rfl rfl
   all_goals exact .cons rfl (.cons rfl (.cons rfl (.cons rfl (.cons rfl (.cons rfl (.cons rfl (.cons rfl (.cons rfl .nil))))))))
  ·have hdl2:decide ((j:Int)<((ZP p).length:Int))=false:=decide_eq_false (by omega)
   rw[List.take_of_length_le hjg]
   generalize (r&&p.all (UV b))=ok at *
   cases ok with
   | true=>
    repeat'(first|rw[ei]|(apply Zg Za;exact U)|refine Ya ?_|refine Zf U Qt ?_|refine Z6 ?_)
    refine Lands.mk' (m:=f-1) (by omega) ⟨i+1,by omega,by simpa using hq,rfl,rfl,rfl⟩ ?_ rfl rfl rfl rfl rfl rfl
    exact .cons rfl (.cons rfl (.cons rfl (.cons rfl (.cons rfl .nil))))
   | false=>
    rw[Bool.false_and]at hq
    subst hq
    repeat'(first|(apply Zg Za;exact U)|refine Ya ?_|refine Zd U Qt ?_|refine Zf U Qt ?_)
    all_goals exact Qe
 ·have hdl:decide ((i:Int)<((ZP l).length:Int))=false:=decide_eq_false (by omega)
  rw[List.drop_eq_nil_of_le hge,Kc]at hq
  subst hq
  repeat'(first|(apply Zg Za;exact U)|refine Ya ?_|refine Zf U Qt ?_)
  all_goals exact Qe
abbrev bnC (b:BunV):List D:=[.int .u64 (b.p.fl:Int),.int .i64 b.p.sum,.bool b.p.dest.i,.int .u64 (b.p.dest.n:Int),.int .u64 (b.p.dest.s:Int),.str b.p.dest.h,.str b.p.dest.d,.bool b.p.rep.i,.int .u64 (b.p.rep.n:Int),.int .u64 (b.p.rep.s:Int),.str b.p.rep.h,.str b.p.rep.d,.bool b.p.src.i,.int .u64 (b.p.src.n:Int),.int .u64 (b.p.src.s:Int),.str b.p.src.h,.str b.p.src.d,.int .u64 (b.p.t:Int),.int .u64 (b.p.q:Int),.int .u64 (b.p.life:Int),.sl .ext (ZP b.bl)]
structure BunOk (b:BunV):Prop where
 fl:b.p.fl<18446744073709551616
 len:b.bl.length<=1000000
 bl:∀ c ∈ b.bl,c.fl<18446744073709551616/\c.data.length<=3000
theorem KW {l:List It}{a:Int}{x:It}(h:VU l a=(x,0)):(ZN x).length<=(ZV l).length+40:=by
 rcases Tn h with rfl|⟨s,hs,rfl⟩
 ·have:=Yz 4 0 [] l
  simp at this ⊢;omega
 ·have h0:=Yz 4 0 [] (l++[.mk 2 0 (Uy s (ZN (ZX s l))) []])
  have h1:=Yz 2 0 (Uy s (ZN (ZX s l))) []
  have h2:=KR s (ZN (ZX s l)) hs
  rw[UU]at h0
  simp only[ZV,List.length_append,List.length_nil,Nat.add_zero,Nat.zero_add]at h0 h1
  show(ZN (.mk 4 0 [] (l++[.mk 2 0 (Uy s (ZN (ZX s l))) []]))).length<=_
  omega
theorem Tr {b:BlkV}{x:It}(h:YM b=(x,0))(hd:b.data.length<=3000):(ZN x).length<=4000:=by
 obtain⟨_,hs⟩:=Ul h
 have h0:=KW hs
 have n1:=Yv b.ty
 have n2:=Yv b.num
 have n3:=Yv b.fl
 have n4:=Yv b.sum.toNat
 have n5:=Yz 2 0 b.data []
 simp only[YL,ZV,List.length_append,List.length_nil,Nat.add_zero,Nat.zero_add]at h0 n5
 omega
theorem Ts {p:PriV}{x:It}(h:Wz p=(x,0)):(ZN x).length<=4000:=by
 obtain⟨hr,hs⟩:=WE h
 have h0:=KW hs
 obtain⟨h1,h2,h3,h4,h5,h6⟩:=Vy hr
 obtain⟨i1,_,_⟩:=WS.1 h5
 have n1:=Yv 7
 have n2:=Yv p.fl
 have n3:=Yv p.sum.toNat
 have n4:=WD h3
 have n5:=WD i1
 have n6:=WD h4
 have n7:=V3 p.t p.q
 have n8:=Yv p.life
 have e7:VZ p.t p.q=.mk 4 0 [] [.mk 0 p.t [] [],.mk 0 p.q [] []]:=rfl
 rw[e7]at n7
 simp only[YG,ZV,List.length_append,List.length_nil,Nat.add_zero,Nat.zero_add]at h0
 omega
abbrev wB1 (c:BlkV):It:=(YM c).1
abbrev Tt (b:BunV):D:=match QP b with
 | true=>.tup [byE (ZV (Um b)),.bool true]
 | false=>.tup [.sl .ext [],.bool false]
theorem QQ:∀(l:List BlkV),(∀ c ∈ l,(YM c).2=0/\c.data.length<=3000)->(ZV (l.map wB1)).length<=4000*l.length
 | [],_=>by simp[ZV]
 | c::l,h=>by
  have h1:(ZN (wB1 c)).length<=4000:=Tr (x:=(YM c).1) (Prod.ext rfl (h c (List.mem_cons_self ..)).1) (h c (List.mem_cons_self ..)).2
  have h2:=QQ l fun y hy=>h y (List.mem_cons_of_mem _ hy)
  rw[List.map_cons,ZV,List.length_append,List.length_cons]
  omega
theorem Rc [Known][KnownU8](b:BunV)(hb:BunOk b):AP Tryz.prog 57 [.agg (bnC b)] (Tt b) []:=by
 have hW:=To b.p hb.fl
 have hlen:=Yx b.bl
 have hUb:=Vl b.bl
 have hl:=hb.len
 unfold Tt QP
 rcases hwp:Wz b.p with⟨x,e⟩
 rw[hwp]at hW
 have hx:=Xy (p:=b.p) hb.fl
 rw[hwp]at hx
 dsimp only[J4]at hW hx
 by_cases he:e=0
 case neg=>
  have te:((e:Int) != 0)=true:=by simpa using he
  have te2:((e:Int)==0)=false:=by simpa using he
  dsimp only
  rw[te2]
  obtain⟨k,n,bb,l⟩:=x
  obtain⟨⟨fl,sum,⟨di,dn,ds,dh,dd⟩,⟨ri,rn,rs,rh,rd⟩,⟨xi,xn,xs,xh,xd⟩,t,q,life⟩,bl⟩:=b
  dsimp only at *
  refine AP.ofA (Zl Tryz.func57 U Tryz.ntmps57 U U ?_)
  repeat'(first|(apply Zb (hW);kernel_rfl;(iterate 4 exact U))|(apply Zh Za;exact U)|(apply Zg Za;exact U)|(apply Zo Za;exact U)|refine Zd U Qt ?_)
  all_goals exact Qe
 subst he
 obtain⟨hrP,hsP⟩:=WE hwp
 have hxr:=Un hsP
 have hxl:=Ts hwp
 obtain⟨c0,t0,hp0⟩:=KL x hx hxr
 have hC:=Mc x hx hxr (by omega)
 dsimp only
 rw[show((0:Int)==0)=true from rfl,Bool.true_and]
 have hit:Um b=x::b.bl.map wB1:=by unfold Um;rw[hwp]
 rw[hit,ZV]
 generalize hall:(b.bl.all fun c=>(YM c).2==0)=A
 rw[hp0]at hC hxl ⊢
 clear hwp hsP hrP hit
 have hxw:=hx
 obtain⟨k,n,bb,l⟩:=x
 clear hx hxw hxr hp0
 obtain⟨⟨fl,sum,⟨di,dn,ds,dh,dd⟩,⟨ri,rn,rs,rh,rd⟩,⟨xi,xn,xs,xh,xd⟩,t,q,life⟩,bl⟩:=b
 obtain⟨_,_,hbl⟩:=hb
 dsimp only at *
 refine AP.ofA (Zl Tryz.func57 U Tryz.ntmps57 U U ?_)
 repeat'(first|(apply Zb (hW);kernel_rfl;(iterate 4 exact U))|(apply Yn [] [] (hC);kernel_rfl;(iterate 10 exact U))|(apply Zh Za;exact U)|(apply Zg Za;exact U)|refine Zf U Qt ?_|refine Zm Za U U U U ?_)
 show AW _ _ _ _
 refine ZJ (fun f tm bx fr=>∃(i c:Nat) (L:List E),f+i=bl.length/\c=L.length/\L=(c0::t0++ZV ((bl.take i).map wB1)).map E.byte/\(∀ c ∈ bl.take i,(YM c).2=0/\c.data.length<=3000)/\((bl.drop i).all fun c=>(YM c).2==0)=A/\tm=[(6,.sl (.own 0) L),(28,.sl .ext (ZP bl)),(29,.int .i64 ((ZP bl).length:Int)),(30,.int .i64 (i:Int))]/\bx=[]/\fr=[⟨c,1,5⟩]) (bl.length+1) (Lands.mk' (m:=bl.length) (Nat.lt_succ_self _) ⟨0,(c0::t0).length,(c0::t0).map E.byte,by omega,by rw[List.length_map],by simp[ZV],by simp,hall,rfl,rfl,rfl⟩ ?_ rfl rfl rfl rfl rfl rfl) ?_
 ·exact .cons rfl (.cons rfl (.cons rfl (.cons rfl .nil)))
 rintro f tm bx fr ⟨i,c,L,hf,hc,hL,hpre,hA,rfl,rfl,rfl⟩
 subst hc
 have hUL:Uni 1 L:=by rw[hL];exact Ym _
 have hLl:L.length=(c0::t0).length+(ZV ((bl.take i).map wB1)).length:=by rw[hL,List.length_map,List.length_append]
 have hpl:=QQ _ hpre
 have hti:(bl.take i).length<=1000000:=by rw[List.length_take];omega
 rcases Nat.lt_or_ge i bl.length with hlt|hge
 ·have hdl:decide ((i:Int)<((ZP bl).length:Int))=true:=decide_eq_true (by omega)
  obtain⟨y,hy⟩:∃ y,bl[i]?=some y:=⟨_,List.getElem?_eq_getElem hlt⟩
  have hv:=Yy hy
  obtain⟨hyf,hyd⟩:=hbl y (List.mem_of_getElem? hy)
  have hB:=Mk y hyf hyd
  have hdr:bl.drop i=y::bl.drop (i+1):=by
   rw[List.drop_eq_getElem_cons hlt];congr 1
   exact(List.getElem?_eq_some_iff.1 hy).2
  rw[hdr,List.all_cons]at hA
  have ht1:bl.take (i+1)=bl.take i++[y]:=by rw[List.take_add_one,hy];rfl
  have ei:IntKind.i64.wrap ((i:Int)+1)=((i+1:Nat):Int):=by rw[IntWalk.i64_in _ (by omega)];omega
  rcases hwy:YM y with⟨z,e⟩
  have hz:=G4 hyf hyd
  rw[hwy]at hB hA hz
  dsimp only[J4]at hB hA hz
  by_cases he:e=0
  case neg=>
   have te:((e:Int) != 0)=true:=by simpa using he
   have te2:((e:Int)==0)=false:=by simpa using he
   rw[te2,Bool.false_and]at hA
   subst hA
   obtain⟨k2,n2,b2,l2⟩:=z
   repeat'(first|(apply Zb (hB);kernel_rfl;(iterate 4 exact U))|(apply Zh Za;exact U)|(apply Zg Za;exact U)|(apply Zo Za;exact U)|refine Zd U Qt ?_|(apply Zu Za;(iterate 6 exact U);(first|exact Qt|rotate_left);(first|with_reducible assumption|decide +kernel|exact U);(first|exact Zj rfl|with_reducible assumption|decide +kernel|rotate_left)))
   all_goals exact Qe
  subst he
  obtain⟨_,hsy⟩:=Ul hwy
  have hzr:=Un hsy
  have hzl:=Tr hwy hyd
  have hD:=GS z hz (by omega) hzr
  obtain⟨c1,t1,hp1⟩:=KL z hz hzr
  rw[show((0:Int)==0)=true from rfl,Bool.true_and]at hA
  have hLn:L++(c1::t1).map E.byte=(c0::t0++ZV ((bl.take (i+1)).map wB1)).map E.byte:=by
   have e2:(bl.take (i+1)).map wB1=(bl.take i).map wB1++[z]:=by
    rw[ht1,List.map_append]
    show _++[(YM y).1]=_
    rw[hwy]
   rw[hL,e2,UU]
   simp[ZV,hp1]
  have hpre2:∀ c ∈ bl.take (i+1),(YM c).2=0/\c.data.length<=3000:=fun c hc=>by
   rw[ht1]at hc
   rcases List.mem_append.1 hc with hc|hc
   ·exact hpre c hc
   ·simp at hc;subst hc;exact⟨by rw[hwy],hyd⟩
  rw[hp1]at hD hzl
  have hU1:=Ym (c1::t1)
  clear hwy hsy hzr hp1
  obtain⟨k2,n2,b2,l2⟩:=z
  repeat'(first|(apply Zb (hB);kernel_rfl;(iterate 4 exact U))|(apply Zb (hD);kernel_rfl;(iterate 4 exact U))|rw[ei]|(apply Zh Za;exact U)|(apply Zg Za;exact U)|refine Zd U Qt ?_|refine Zf U Qt ?_|(apply ZR Za;(iterate 6 exact U);(first|with_reducible assumption|decide +kernel|exact U|rotate_left);exact U;exact U;(first|exact Zj rfl|with_reducible assumption|decide +kernel|rotate_left);(first|exact Zj rfl|with_reducible assumption|decide +kernel|rotate_left);(first|exact Qt|rotate_left);(first|exact Qt|rotate_left);(first|exact Qt|rotate_left);exact U;exact U)|(apply Zu Za;(iterate 6 exact U);(first|exact Qt|rotate_left);(first|with_reducible assumption|decide +kernel|exact U);(first|exact Zj rfl|with_reducible assumption|decide +kernel|rotate_left)))
  ·refine Lands.mk' (m:=f-1) (by omega) ⟨i+1,L.length+((c1::t1).map E.byte).length,L++(c1::t1).map E.byte,by omega,by rw[List.length_append],hLn,hpre2,hA,rfl,rfl,rfl⟩ ?_ rfl rfl rfl rfl rfl rfl
   exact .cons rfl (.cons rfl (.cons rfl (.cons rfl .nil)))
  all_goals(first|rfl|(simp only[List.length_append,List.length_cons,List.length_nil,List.length_map,Zv];done)|(simp only[List.length_append,List.length_cons,List.length_nil,List.length_map,Zv]at *;(try unfold maxLen);(try simp only[Nat.add_mul]);omega))
 ·have hdl:decide ((i:Int)<((ZP bl).length:Int))=false:=decide_eq_false (by omega)
  rw[List.drop_eq_nil_of_le hge]at hA
  rw[List.take_of_length_le hge]at hL
  subst hA
  subst hL
  repeat'(first|(apply Zg Za;exact U)|refine Zf U Qt ?_)
  all_goals exact Qe
def hN (p s:Nat):Nat:=(s >>> 1) ^^^ (if s.testBit 0 then p else 0)
def itN (p:Nat):Nat->Nat->Nat
 | 0,s=>s
 | k+1,s=>itN p k (hN p s)
def byN (p s c:Nat):Nat:=itN p 8 (s ^^^ c)
def ruN (p s:Nat)(b:List Nat):Nat:=b.foldl (byN p) s
theorem DV {p s:Nat}(hp:p<4294967296)(hs:s<4294967296):hN p s<4294967296:=by
 unfold hN
 refine Nat.xor_lt_two_pow (n:=32) ?_ ?_
 ·rw[Nat.shiftRight_eq_div_pow];omega
 ·split<;>omega
theorem Mr {p s:Nat}(hp:p<4294967296)(hs:s<4294967296):VJ (s:Int) (p:Int)=(hN p s:Int):=by
 have h1:bits .and .u32 (s:Int) 1=((s &&& 1:Nat):Int):=u32_and_nat s 1 hs (by decide)
 have h2:SF (s:Int)=((s >>> 1:Nat):Int):=by
  unfold SF
  rw[Nat.shiftRight_eq_div_pow,show min (Int.toNat 1) IntKind.u32.bits=1 from rfl,Int.fdiv_eq_ediv_of_nonneg _ (by decide)]
  rfl
 unfold VJ hN
 rw[h1,h2,Nat.testBit_zero,Nat.and_one_is_mod]
 by_cases e:s % 2=1
 ·rw[e]
  show bits .xor .u32 _ _=_
  rw[u32_xor_nat _ _ (by rw[Nat.shiftRight_eq_div_pow];omega) hp]
  simp
 ·have e0:s % 2=0:=by omega
  rw[e0]
  show((s >>> 1:Nat):Int)=_
  simp
theorem Rd {p s:Nat}(c:UInt8)(hp:p<4294967296)(hs:s<4294967296):GV (s:Int) c (p:Int)=(byN p s c.toNat:Int)/\byN p s c.toNat<4294967296:=by
 have hc:=c.toNat_lt
 have h1:bits .xor .u32 (s:Int) (IntKind.u32.wrap (c.toNat:Int))=((s ^^^ c.toNat:Nat):Int):=by
  rw[IntWalk.u32_in _ (by omega)]
  exact u32_xor_nat s c.toNat hs (by omega)
 have h2:s ^^^ c.toNat<4294967296:=Nat.xor_lt_two_pow (n:=32) hs (by omega)
 unfold GV byN
 rw[h1]
 generalize s ^^^ c.toNat=x at *
 have key:∀ y:Nat,y<4294967296->VJ (y:Int) (p:Int)=(hN p y:Int)/\hN p y<4294967296:=fun y hy=>⟨Mr hp hy,DV hp hy⟩
 obtain⟨k1,l1⟩:=key x h2
 obtain⟨k2,l2⟩:=key _ l1
 obtain⟨k3,l3⟩:=key _ l2
 obtain⟨k4,l4⟩:=key _ l3
 obtain⟨k5,l5⟩:=key _ l4
 obtain⟨k6,l6⟩:=key _ l5
 obtain⟨k7,l7⟩:=key _ l6
 obtain⟨k8,l8⟩:=key _ l7
 rw[k1,k2,k3,k4,k5,k6,k7,k8]
 exact⟨rfl,l8⟩
theorem IR {p:Nat}(hp:p<4294967296):∀(b:List UInt8) (s:Nat),s<4294967296->IN (s:Int) (p:Int) b=(ruN p s (b.map UInt8.toNat):Int)/\ruN p s (b.map UInt8.toNat)<4294967296
 | [],s,h=>⟨rfl,h⟩
 | c::b,s,h=>by
  obtain⟨h1,h2⟩:=Rd c hp h
  have ih:=IR hp b (byN p s c.toNat) h2
  rw[<- h1]at ih
  exact ih
theorem IS {p W:Nat}(hp2:p<2 ^ (W+1)):∀(k s:Nat),s<2 ^ (W+1)->itN p k s<2 ^ (W+1)
 | 0,s,h=>h
 | k+1,s,h=>IS hp2 k _ (by
  unfold hN
  refine Nat.xor_lt_two_pow ?_ ?_
  ·rw[Nat.shiftRight_eq_div_pow]
   exact Nat.lt_of_le_of_lt (Nat.div_le_self ..) h
  ·split
   ·exact hp2
   ·exact Nat.two_pow_pos _)
theorem G9 {p W:Nat}(hp2:p<2 ^ (W+1))(hW:7<=W):∀(b:List UInt8) (s:Nat),s<2 ^ (W+1)->ruN p s (b.map UInt8.toNat)<2 ^ (W+1)
 | [],s,h=>h
 | c::b,s,h=>by
  have hc:=c.toNat_lt
  have:2 ^ 8<=2 ^ (W+1):=Nat.pow_le_pow_right (by omega) (by omega)
  exact G9 hp2 hW b _ (IS hp2 8 _ (Nat.xor_lt_two_pow h (by omega)))
theorem O5 (b:List UInt8):Qi b=((65535 ^^^ ruN 33800 65535 (b.map UInt8.toNat):Nat):Int)/\65535 ^^^ ruN 33800 65535 (b.map UInt8.toNat)<65536:=by
 have h1:=(IR (p:=33800) (by decide) b 65535 (by decide)).1
 have h2:=G9 (p:=33800) (W:=15) (by decide) (by decide) b 65535 (by decide)
 unfold Qi
 rw[show IN 65535 33800 b=_ from h1,IntWalk.u16_in _ (by omega)]
 exact⟨u16_xor_nat 65535 _ (by decide) h2,Nat.xor_lt_two_pow (n:=16) (by decide) h2⟩
theorem Ha (b:List UInt8):UO b=((4294967295 ^^^ ruN 2197175160 4294967295 (b.map UInt8.toNat):Nat):Int)/\4294967295 ^^^ ruN 2197175160 4294967295 (b.map UInt8.toNat)<4294967296:=by
 have h1:=(IR (p:=2197175160) (by decide) b 4294967295 (by decide)).1
 have h2:=G9 (p:=2197175160) (W:=31) (by decide) (by decide) b 4294967295 (by decide)
 unfold UO
 rw[show IN 4294967295 2197175160 b=_ from h1]
 exact⟨u32_xor_nat 4294967295 _ (by decide) h2,Nat.xor_lt_two_pow (n:=32) (by decide) h2⟩
theorem Hb {n x:Nat}(h:x<2 ^ n):(2 ^ n-1) ^^^ x=2 ^ n-1-x:=by
 apply Nat.eq_of_testBit_eq
 intro i
 rw[Nat.testBit_xor,Nat.testBit_two_pow_sub_one,show 2 ^ n-1-x=2 ^ n-(x+1) from by omega,Nat.testBit_two_pow_sub_succ h]
 by_cases hi:i<n
 ·simp[hi]
 ·have:x.testBit i=false:=Nat.testBit_lt_two_pow (Nat.lt_of_lt_of_le h (Nat.pow_le_pow_right (by omega) (by omega)))
  simp[hi,this]
theorem Ny [Known](b:List UInt8)(hb:b.length<=1099511627776)(f p W:Nat)(hp:p<2 ^ (W+1))(hf:f+1=2 ^ (W+1))(hW:7<=W)(hM:2 ^ (W+1)<=4294967296):AP Tryz.prog 183 [byE b,.int .u64 (f:Int),.int .u64 (p:Int)] (.int .u64 ((f-ruN p f (b.map UInt8.toNat):Nat):Int)) []:=by
 have hl:(b.map E.byte).length=b.length:=List.length_map ..
 have hU:=Ym b
 have h256:2 ^ 8<=2 ^ (W+1):=Nat.pow_le_pow_right (by omega) (by omega)
 have hf':f<2 ^ (W+1):=by omega
 have hx:∀ s c:Nat,s<2 ^ (W+1)->c<256->s ^^^ c<2 ^ (W+1):=fun s c h1 h2=>Nat.xor_lt_two_pow h1 (by omega)
 have hH:∀ s,s<2 ^ (W+1)->hN p s<2 ^ (W+1):=fun s h=>IS hp 1 s h
 have hBy:∀ s c:Nat,s<2 ^ (W+1)->c<256->byN p s c<2 ^ (W+1):=fun s c h1 h2=>IS hp 8 _ (hx s c h1 h2)
 generalize hfin:ruN p f (b.map UInt8.toNat)=fin
 refine AP.ofA (Zl Tryz.func183 U Tryz.ntmps183 U U ?_)
 repeat'(first|(apply Zg Za;exact U))
 refine ZJ (fun k tm bx fr=>∃(i s:Nat),k+i=b.length/\s<2 ^ (W+1)/\ruN p s ((b.drop i).map UInt8.toNat)=fin/\tm=[(0,byE b),(1,.int .u64 (f:Int)),(2,.int .u64 (p:Int)),(7,.int .u64 (s:Int)),(8,.int .i64 (i:Int))]/\bx=[]/\fr=[]) (b.length+1) (Lands.mk' (m:=b.length) (Nat.lt_succ_self _) ⟨0,f,by omega,hf',hfin,rfl,rfl,rfl⟩ ?_ rfl rfl rfl rfl rfl rfl) ?_
 ·exact .cons rfl (.cons rfl (.cons rfl (.cons rfl (.cons rfl .nil))))
 rintro k tm bx fr ⟨i,s,hk,hs,hq,rfl,rfl,rfl⟩
 rcases Nat.lt_or_ge i b.length with hlt|hge
 ·have hd:decide ((i:Int)<((b.map E.byte).length:Int))=true:=decide_eq_true (by omega)
  obtain⟨c,t,hdr,hv,ht⟩:=IK hlt
  have hc:=c.toNat_lt
  rw[hdr,ht]at hq
  have hq2:ruN p (byN p s c.toNat) ((b.drop (i+1)).map UInt8.toNat)=fin:=hq
  have ei:IntKind.i64.wrap ((i:Int)+1)=((i+1:Nat):Int):=by rw[IntWalk.i64_in _ (by omega)];omega
  have e1:IntKind.u64.wrap (c.toNat:Int)=(c.toNat:Int):=by rw[IntKind.wrap_u64];omega
  have ex:bits .xor .u64 (s:Int) (c.toNat:Int)=((s ^^^ c.toNat:Nat):Int):=u64_xor_nat s c.toNat (by omega) (by omega)
  have hxc:=hx s c.toNat hs hc
  have hbs:=hBy s c.toNat hs hc
  have hb8:itN p 8 (s ^^^ c.toNat)=byN p s c.toNat:=rfl
  generalize s ^^^ c.toNat=x0 at *
  generalize byN p s c.toNat=y0 at *
  repeat'(first|rw[e1]|rw[ex]|(apply Zh Za;exact U)|(apply Zg Za;exact U)|(apply Zo Za;exact U)|refine Zd U Qt ?_|refine Zm Za U U U U ?_|(apply Zu Za;(iterate 6 exact U);(first|exact Qt|rotate_left);(first|with_reducible assumption|decide +kernel|exact U);(first|exact Zj rfl|with_reducible assumption|decide +kernel|rotate_left)))
  refine ZJ (fun k2 tm bx fr=>∃(j s':Nat),k2+j=8/\s'<2 ^ (W+1)/\itN p (8-j) s'=y0/\tm=[(0,byE b),(1,.int .u64 (f:Int)),(2,.int .u64 (p:Int)),(7,.int .u64 (s':Int)),(8,.int .i64 (i:Int)),(9,.int .i64 (j:Int))]/\bx=[]/\fr=[]) 9 (Lands.mk' (m:=8) (Nat.lt_succ_self _) ⟨0,x0,rfl,hxc,hb8,rfl,rfl,rfl⟩ ?_ rfl rfl rfl rfl rfl rfl) ?_
  ·exact .cons rfl (.cons rfl (.cons rfl (.cons rfl (.cons rfl (.cons rfl .nil)))))
  rintro k2 tm bx fr ⟨j,s',hj,hs',hit,rfl,rfl,rfl⟩
  rcases Nat.lt_or_ge j 8 with h8|h8
  ·have hd8:decide ((j:Int)<8)=true:=decide_eq_true (by omega)
   have ej:IntKind.i64.wrap ((j:Int)+1)=((j+1:Nat):Int):=by rw[IntWalk.i64_in _ (by omega)];omega
   have er:((s':Nat):Int).tmod 2=((s' % 2:Nat):Int):=by rw[Int.tmod_eq_emod_of_nonneg (Int.natCast_nonneg _)];omega
   have eq:IntKind.u64.wrap (((s':Nat):Int).tdiv 2)=((s'/2:Nat):Int):=by rw[Int.tdiv_eq_ediv_of_nonneg (Int.natCast_nonneg _),IntKind.wrap_u64];omega
   have hh:=hH s' hs'
   have hit2:itN p (8-(j+1)) (hN p s')=y0:=by rw[<- hit,show 8-j=(8-(j+1))+1 from by omega];rfl
   have hdef:hN p s'=(s'/2) ^^^ (if s' % 2=1 then p else 0):=by
    unfold hN
    rw[Nat.shiftRight_eq_div_pow,Nat.testBit_zero]
    simp
   have exx:bits .xor .u64 ((s'/2:Nat):Int) (p:Int)=(((s'/2) ^^^ p:Nat):Int):=u64_xor_nat _ _ (by omega) (by omega)
   rcases Nat.mod_two_eq_zero_or_one s' with h2|h2
   ·rw[h2,if_neg (by omega),Nat.xor_zero]at hdef
    rw[h2]at er
    rw[hdef]at hit2 hh
    repeat'(first|rw[er]|rw[eq]|rw[ej]|(apply Zh Za;exact U)|(apply Zg Za;exact U)|refine Zd U Qt ?_|refine Zf U Qt ?_|(apply U4;exact U;exact U;(first|exact Qt|rotate_left);exact U)|(apply U5;exact U;exact U;(first|exact Qt|rotate_left);exact U))
    refine Lands.mk' (m:=k2-1) (by omega) ⟨j+1,s'/2,by omega,hh,hit2,rfl,rfl,rfl⟩ ?_ rfl rfl rfl rfl rfl rfl
    exact .cons rfl (.cons rfl (.cons rfl (.cons rfl (.cons rfl (.cons rfl .nil)))))
   ·rw[h2,if_pos rfl]at hdef
    rw[h2]at er
    rw[hdef]at hit2 hh
    repeat'(first|rw[er]|rw[eq]|rw[exx]|rw[ej]|(apply Zh Za;exact U)|(apply Zg Za;exact U)|refine Zd U Qt ?_|(apply U4;exact U;exact U;(first|exact Qt|rotate_left);exact U)|(apply U5;exact U;exact U;(first|exact Qt|rotate_left);exact U))
    refine Lands.mk' (m:=k2-1) (by omega) ⟨j+1,(s'/2) ^^^ p,by omega,hh,hit2,rfl,rfl,rfl⟩ ?_ rfl rfl rfl rfl rfl rfl
    exact .cons rfl (.cons rfl (.cons rfl (.cons rfl (.cons rfl (.cons rfl .nil)))))
  ·obtain rfl:j=8:=by omega
   have hd8:decide (((8:Nat):Int)<8)=false:=rfl
   have hy:s'=y0:=hit
   subst hy
   repeat'(first|rw[ei]|(apply Zg Za;exact U)|refine Zf U Qt ?_)
   refine Lands.mk' (m:=k-1) (by omega) ⟨i+1,s',by omega,hs',hq2,rfl,rfl,rfl⟩ ?_ rfl rfl rfl rfl rfl rfl
   exact .cons rfl (.cons rfl (.cons rfl (.cons rfl (.cons rfl .nil))))
 ·have hd:decide ((i:Int)<((b.map E.byte).length:Int))=false:=decide_eq_false (by omega)
  rw[List.drop_eq_nil_of_le hge]at hq
  have hq:s=fin:=hq
  subst hq
  have es:IntKind.u64.wrap ((f:Int)-(s:Int))=((f-s:Nat):Int):=by rw[IntKind.wrap_u64];omega
  repeat'(first|rw[es]|(apply Zh Za;exact U)|(apply Zg Za;exact U)|(apply Zo Za;exact U)|refine Zf U Qt ?_|refine Zm Za U U U U ?_)
  all_goals exact Qe
theorem Ms [Known](b:List UInt8)(hb:b.length<=1099511627776):AP Tryz.prog 157 [byE b] (.int .u16 (Qi b)) []:=by
 have h:=Ny b hb 65535 33800 15 (by decide) (by decide) (by decide) (by decide)
 obtain⟨h1,h2⟩:=O5 b
 have hr:=G9 (p:=33800) (W:=15) (by decide) (by decide) b 65535 (by decide)
 have hx:65535 ^^^ ruN 33800 65535 (b.map UInt8.toNat)=65535-ruN 33800 65535 (b.map UInt8.toNat):=Hb (n:=16) hr
 rw[hx]at h1 h2
 rw[h1]
 generalize 65535-ruN 33800 65535 (b.map UInt8.toNat)=z at *
 have e:IntKind.u16.wrap (z:Int)=(z:Int):=IntWalk.u16_in _ (by omega)
 refine AP.ofA (Zl Tryz.func157 U Tryz.ntmps157 U U ?_)
 repeat'(first|rw[e]|(apply Zb (h);kernel_rfl;(iterate 4 exact U))|(apply Zh Za;exact U)|(apply Zg Za;exact U))
 all_goals exact Qe
theorem Re [Known](b:List UInt8)(hb:b.length<=1099511627776):AP Tryz.prog 158 [byE b] (.int .u32 (UO b)) []:=by
 have h:=Ny b hb 4294967295 2197175160 31 (by decide) (by decide) (by decide) (by decide)
 obtain⟨h1,h2⟩:=Ha b
 have hr:=G9 (p:=2197175160) (W:=31) (by decide) (by decide) b 4294967295 (by decide)
 have hx:4294967295 ^^^ ruN 2197175160 4294967295 (b.map UInt8.toNat)=4294967295-ruN 2197175160 4294967295 (b.map UInt8.toNat):=Hb (n:=32) hr
 rw[hx]at h1 h2
 rw[h1]
 generalize 4294967295-ruN 2197175160 4294967295 (b.map UInt8.toNat)=z at *
 have e:IntKind.u32.wrap (z:Int)=(z:Int):=IntWalk.u32_in _ (by omega)
 refine AP.ofA (Zl Tryz.func158 U Tryz.ntmps158 U U ?_)
 repeat'(first|rw[e]|(apply Zb (h);kernel_rfl;(iterate 4 exact U))|(apply Zh Za;exact U)|(apply Zg Za;exact U))
 all_goals exact Qe
end Go.Proofs.YtmljabhmajehnaaGreatDoor
end
