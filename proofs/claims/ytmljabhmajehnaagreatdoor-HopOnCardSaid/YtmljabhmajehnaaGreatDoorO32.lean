/- The document's first blocks: its answers are the program's, plain. -/
import Derived.Test.YtmljabhmajehnaaGreatDoorO31
import Derived.Test.YtmljabhmajehnaaGreatDoorO27
import Derived.Test.YtmljabhmajehnaaGreatDoorO17
import Derived.Test.YtmljabhmajehnaaGreatDoorO16
import Derived.Test.YtmljabhmajehnaaGreatDoorO18
import Derived.Test.YtmljabhmajehnaaGreatDoorO29
set_option linter.unusedVariables false
set_option linter.unusedSimpArgs false
section
open Go.RowKit Go.Pl Go.Av
namespace Go.Proofs.YtmljabhmajehnaaGreatDoor
set_option maxHeartbeats 4000000
theorem QR {x:EidV}(h:ZE x=true):YC (ZW x)<=5/\YV (ZW x) 5=true/\Yw (ZW x)=true:=by
 refine⟨?_,?_,?_⟩
 ·unfold ZW
  repeat' split
  all_goals simp[YC,Yk]
 ·unfold ZW
  repeat' split
  all_goals simp[YV,YO]
 ·have:=Vh h
  rw[Ws]at this
  simp only[Bool.and_eq_true]at this
  exact this.2.2
theorem Ic (p:PriV):(YG p).length=8:=rfl
theorem X1 {p:PriV}(h:Yr p=true):Yk (YG p)<=25/\YO (YG p) 5=true/\Y4 (YG p)=true:=by
 obtain⟨h1,h2,h3,h4,h5,h6⟩:=Vy h
 obtain⟨i1,_,_⟩:=WS.1 h5
 obtain⟨a1,a2,a3⟩:=QR h3
 obtain⟨b1,b2,b3⟩:=QR h4
 obtain⟨c1,c2,c3⟩:=QR i1
 refine⟨?_,?_,?_⟩
 ·simp only[YG,Yk,YC]
  omega
 ·simp only[YG,YO,a2,b2,c2,YV,Bool.and_self]
 ·simp only[YG,Y4,a3,b3,c3]
  simp[Yw,Y4,Wb]
theorem X2 {p:PriV}(h:Yr p=true)(x:List It)(hx:Yk x<=4/\YO x 5=true/\Y4 x=true):ZB (.mk 4 0 [] (YG p++x))=true:=by
 obtain⟨h1,h2,h3⟩:=X1 h
 rw[Ws,YV,YC,Yw,UX,UY,UZ,hx.2.1,hx.2.2,h2,h3]
 have h4:Wb 4 0 [] (YG p++x)=true:=by simp[Wb]
 rw[h4]
 simp
 omega
def Va (p:PriV):It:=(Y7 (YG p) p.sum.toNat).1
theorem Hi {p:PriV}(h0:0<=p.sum)(h2:p.sum<=2):Wn (YG p) 2=p.sum:=by
 unfold Wn YG
 rw[if_neg (by omega)]
 show(match decide (((p.sum.toNat:Nat):Int)>2) with|true=>(-1:Int)|false=>match It.beq (.mk 0 p.sum.toNat [] []) (.mk 0 p.sum.toNat [] []) with|true=>((p.sum.toNat:Nat):Int)|false => -1)=p.sum
 rw[show decide (((p.sum.toNat:Nat):Int)>2)=false from decide_eq_false (by omega),It.beq_iff.2 rfl]
 dsimp only
 exact Int.toNat_of_nonneg h0
theorem Tv {p:PriV}(h:Yr p=true)(s:Nat):(Y7 (YG p) s).2=true:=by
 cases s with
 | zero=>
  unfold Y7
  have:=X2 h [] ⟨by simp[Yk],rfl,rfl⟩
  rw[List.append_nil]at this
  exact this
 | succ s=>
  unfold Y7
  dsimp only
  have:ZB (ZX (s+1) (YG p))=true:=X2 h [.mk 2 0 (List.replicate (2*(s+1)) 0) []] ⟨by simp[Yk,YC],by simp[YO,YV],by simp[Y4,Yw,Wb]⟩
  rw[this]
theorem XG {p:PriV}(h:Yr p=true):Wz p=(Va p,0):=by
 obtain⟨h3,h4,_⟩:=Vy h
 unfold Wz
 rw[h]
 dsimp only
 rw[NB]
 unfold NA Va
 rw[Hi h3 h4,Ic]
 rw[show(decide ((2:Int)<0)||decide ((2:Int) ≥ ((8:Nat):Int)))=false from by decide]
 dsimp only
 rw[decide_eq_true (show p.sum ≥ 0 from h3),Tv h]
theorem B3 {p:PriV}(h:Yr p=true)(s:Nat)(hs:s<=2):(ZN (ZX s (YG p))).length<=1000000000:=by
 have h1:=Tp h
 have h0:=Yz 4 0 [] (YG p++[.mk 2 0 (List.replicate (2*s) 0) []])
 have hb:=Yz 2 0 (List.replicate (2*s) 0) []
 rw[UU]at h0
 simp only[ZV,List.length_append,List.length_nil,List.length_replicate,Nat.add_zero,Nat.zero_add]at h0 hb
 show(ZN (.mk 4 0 [] (YG p++[.mk 2 0 (List.replicate (2*s) 0) []]))).length<=1000000000
 omega
theorem Hj [Known](h:Hd):AP Tryz.prog 191 [hd h] (.bool (Z3 h)) []:=by
 obtain⟨m,n,o⟩:=h
 refine Zl Tryz.func191 rfl Tryz.ntmps191 rfl rfl ?_
 repeat'(first|(apply Zh Za;exact U)|(apply Zg Za;exact U)|(apply Ze;(iterate 3 exact U);(first|with_reducible assumption|(solve|simp only[bn])))|(apply Zr;(iterate 3 exact U);(first|with_reducible assumption|(solve|simp only[bn])))|(apply Zn;(iterate 3 exact U);(first|with_reducible assumption|(solve|simp only[bn])))|refine UE U U U ?_|(apply Ys;exact U;exact U;all_goals intro hb)|(apply Zk;exact U;(first|with_reducible assumption|(solve|simp only[bn]));exact U;exact U)|(apply Zi;exact U;(first|with_reducible assumption|(solve|simp only[bn]));exact U;exact U)|(apply YJ;exact U;all_goals intro hb))
 all_goals(apply Ud (ts:=[]);(apply Zc Za;exact U);exact ZD _;exact U;rotate_left;exact U)
 all_goals congr 1
 all_goals(rw[Bool.eq_iff_iff];simp_all [Z3,Jj];try omega)
set_option maxRecDepth 20000 in
theorem K1 [Known](b:List UInt8)(p:Int)(hb:b.length<=4611686018427387904):AP Tryz.prog 175 [byE b,.int .i64 p] (rdD (Qs b p)) []:=by
 have HB:=hid hb
 clear hb
 have HU:=Ym b
 refine Zl Tryz.func175 rfl Tryz.ntmps175 rfl rfl ?_
 repeat'(first|(apply Zh Za;exact U)|(apply Zg Za;exact U)|(apply Zo Za;exact U)|(apply Ze;(iterate 3 exact U);(first|with_reducible assumption|(solve|simp only[bn])))|(apply Zn;(iterate 3 exact U);(first|with_reducible assumption|(solve|simp only[bn])))|(apply Ys;exact U;exact U;all_goals intro hb)|(apply Zk;exact U;(first|with_reducible assumption|(solve|simp only[bn]));exact U;exact U)|(apply Zi;exact U;(first|with_reducible assumption|(solve|simp only[bn]));exact U;exact U)|(apply Zd;exact U;(first|with_reducible assumption|(solve|simp only[bn])))|(apply YJ;exact U;all_goals intro hb)|refine Zm Za U U U U ?_)
 ·(apply Ud (ts:=[]);(apply Zc Za;exact U);exact ZD _;exact U;rotate_left;exact U)
  have:p<0:=of_decide_eq_true hb
  rw[show Qs b p=_ from if_pos (.inl this)];rfl
 ·(apply Ud (ts:=[]);(apply Zc Za;exact U);exact ZD _;exact U;rotate_left;exact U)
  have:p>((b.map E.byte).length:Int):=of_decide_eq_true hb
  rw[List.length_map]at this
  rw[show Qs b p=_ from if_pos (.inr this)];rfl
 ·(apply Ud (ts:=[]);(apply Zc Za;exact U);exact ZD _;exact U;rotate_left;exact U)
  have:p=((b.map E.byte).length:Int):=by simpa using hb
  rw[List.length_map]at this
  have hd:b.drop p.toNat=[]:=by rw[List.drop_eq_nil_iff];omega
  rw[show Qs b p=YF b p.toNat from if_neg (by omega)]
  unfold YF
  rw[hd];rfl
 rename_i g1 g2
 have h0:0<=p:=by have:=of_decide_eq_false g1;omega
 have h1:p<(b.length:Int):=by
  have a1:=of_decide_eq_false g2
  rw[List.length_map]at a1 hb
  have a2:p ≠ (b.length:Int):=by simpa using hb
  omega
 obtain⟨c,r,hd,hl,hv,hr⟩:=GL b p h0 h1
 have HH:=hid (show Qs b p=YF b p.toNat from if_neg (by omega))
 have HD:=hid hd
 have HL:=hid hl
 have HR:=hid hr
 have hc:=c.toNat_lt
 have e1:IntKind.i64.wrap ((c.toNat:Nat):Int)=((c.toNat:Nat):Int):=IntWalk.i64_in _ (by omega)
 have e4:IntKind.i64.wrap (((c.toNat:Nat):Int).tdiv 32)=((c.toNat/32:Nat):Int):=by
  rw[Int.tdiv_eq_ediv_of_nonneg (Int.natCast_nonneg _),IntWalk.i64_in _ (by omega)];omega
 have e5:((c.toNat:Nat):Int).tmod 32=((c.toNat % 32:Nat):Int):=by
  rw[Int.tmod_eq_emod_of_nonneg (Int.natCast_nonneg _)];omega
 have e2:IntKind.u64.wrap ((c.toNat % 32:Nat):Int)=((c.toNat % 32:Nat):Int):=by rw[IntKind.wrap_u64];omega
 have e3:IntKind.i64.wrap (p+1)=((p.toNat+1:Nat):Int):=by have:=HB.out;rw[IntWalk.i64_in _ (by omega)];omega
 clear hb g1 g2 hd hl hr hc
 have hv4:¬ c.toNat % 32<24->¬ 27<c.toNat % 32->[E.int .i64 1,E.int .i64 2,E.int .i64 4,E.int .i64 8][(IntKind.i64.wrap (((c.toNat % 32:Nat):Int)-24)).toNat]?=some (E.int .i64 ((2 ^ (c.toNat % 32-24):Nat):Int))/\0<=IntKind.i64.wrap (((c.toNat % 32:Nat):Int)-24):=by
  generalize c.toNat % 32=v
  intro g1 g2
  obtain rfl|rfl|rfl|rfl:v=24\/v=25\/v=26\/v=27:=by omega
  all_goals exact⟨rfl,by decide⟩
 repeat'(first|rw[e1]|rw[e2]|rw[e3]|rw[e4]|rw[e5]|(apply VP (Hj (((c.toNat/32:Nat):Int),0,true));kernel_rfl;(iterate 4 exact U))|(apply Zh Za;exact U)|(apply Zg Za;exact U)|(apply Zo Za;exact U)|(apply YJ;exact U;all_goals intro hb)|refine QE Za U U U U U U U U U U U U ?_|(apply Zu Za;(iterate 6 exact U);(first|exact Qb|rotate_left);(first|with_reducible assumption|exact U);(first|exact Zj rfl|with_reducible assumption|rotate_left))|(apply U4;exact U;exact U;(first|exact Qb|rotate_left);exact U)|(apply U5;exact U;exact U;(first|exact Qb|rotate_left);exact U))
 ·(apply Ud (ts:=[]);(apply Zc Za;exact U);exact ZD _;exact U;rotate_left;exact U)
  rw[HH.out,J3 HD.out (by have:=of_decide_eq_true hb;omega)];rfl
 ·(apply Ud (ts:=[]);(apply Zc Za;exact U);exact ZD _;exact U;rotate_left;exact U)
  have g31 : c.toNat % 32 = 31 := by have : ((c.toNat % 32 : Nat) : Int) = 31 := by simpa using (‹(((c.toNat % 32 : Nat) : Int) == 31) = true›)
                                     omega
  have gm:Jj ((c.toNat/32:Nat):Int)=false:=by simpa[Z3]using hb
  rw[HH.out,Xt HD.out (by omega) (fun _=>gm)];rfl
 ·(apply Ud (ts:=[]);(apply Zc Za;exact U);exact ZD _;exact U;rotate_left;exact U)
  have g31 : c.toNat % 32 = 31 := by have : ((c.toNat % 32 : Nat) : Int) = 31 := by simpa using (‹(((c.toNat % 32 : Nat) : Int) == 31) = true›)
                                     omega
  have gm:Jj ((c.toNat/32:Nat):Int)=true:=by simpa[Z3]using hb
  rw[HH.out,KH HD.out g31 gm];rfl
 ·(apply Ud (ts:=[]);(apply Zc Za;exact U);exact ZD _;exact U;rotate_left;exact U)
  have g31 : c.toNat % 32 ≠ 31 := by have : ((c.toNat % 32 : Nat) : Int) ≠ 31 := by simpa using (‹(((c.toNat % 32 : Nat) : Int) == 31) = false›)
                                     omega
  rw[HH.out,Xt HD.out (by have:=of_decide_eq_true hb;omega) (fun e=>(g31 e).elim)];rfl
 have g2:=of_decide_eq_false hb
 have g3:=of_decide_eq_false (‹decide (((c.toNat % 32:Nat):Int)<24)=false›)
 have q1:=Tb (c.toNat % 32) (by omega) (by omega)
 have q2:=hv4 (by omega) (by omega)
 have hvi:=q2.1
 have hvp:=q2.2
 have g5:=HL.out
 have g6:=HB.out
 have q3:∀ h:r.length<2 ^ (c.toNat % 32-24),_:=fun h=>HH.out.trans (XV HD.out (by omega) (by omega) h)
 have q4:∀ h:¬ r.length<2 ^ (c.toNat % 32-24),_:=fun h=>HH.out.trans (KI HD.out (by omega) (by omega) h)
 have q5:=q1.2
 generalize 2 ^ (c.toNat % 32-24)=m at hvi q3 q4 q5 ⊢
 have Q3:=hid q3
 have Q4:=hid q4
 clear q3 q4 q1 q2 hv4
 repeat'(first|(apply Zh Za;exact U)|(apply Zg Za;exact U)|(apply Zo Za;exact U)|(apply YJ;exact U;all_goals intro hb)|refine Zm Za U U U U ?_|(apply Zu Za;(iterate 6 exact U);(first|exact Qb|rotate_left);(first|with_reducible assumption|exact U);(first|exact Zj rfl|with_reducible assumption|rotate_left)))
 ·(apply Ud (ts:=[]);(apply Zc Za;exact U);exact ZD _;exact U;rotate_left;exact U)
  have g1:=of_decide_eq_true hb
  rw[List.length_map,IntWalk.i64_in ((b.length:Int)-p) (by omega),IntWalk.i64_in _ (by omega)]at g1
  rw[Q3.out (by omega)];rfl
 have g1:=of_decide_eq_false hb
 rw[List.length_map,IntWalk.i64_in ((b.length:Int)-p) (by omega),IntWalk.i64_in _ (by omega)]at g1
 have G7:=hid (Q4.out (by omega))
 clear hb g2 g3
 refine ZJ (fun k tm bx fr=>∃ i,k+i=m/\tm=[(10,.int .i64 (i:Int)),(9,.int .i64 (m:Int)),(7,.ptr 1 0),(1,.int .i64 p),(0,byE b),(4,.ptr 0 0)]/\bx=[[.int .i64 0,.int .u64 0,.bool false],[.int .i64 ((c.toNat/32:Nat):Int),.int .u64 (WK (r.take i):Nat),.bool false]]/\fr=[]) (m+1) (Lands.mk' (m:=m) (Nat.lt_succ_self _) ⟨0,rfl,rfl,rfl,rfl⟩ ?_ rfl rfl rfl rfl rfl rfl) ?_
 ·repeat'(first|exact Av.Sub.nil|refine Av.Sub.cons rfl ?_)
 rintro k tm bx fr ⟨i,hk,rfl,rfl,rfl⟩
 rcases Nat.lt_or_ge i m with hlt|hge
 ·have hd:decide ((i:Int)<(m:Int))=true:=by simp;omega
  have hir:i<r.length:=by omega
  have hv':(b.map E.byte)[((p.toNat+1+i:Nat):Int).toNat]?=some (E.byte r[i]):=by
   rw[Int.toNat_natCast,HR.out i hir];simp[hir]
  have e4:IntKind.i64.wrap (((p.toNat+1:Nat):Int)+(i:Int))=((p.toNat+1+i:Nat):Int):=by rw[IntWalk.i64_in _ (by omega)];omega
  have e7:IntKind.i64.wrap ((i:Int)+1)=((i+1:Nat):Int):=by rw[IntWalk.i64_in _ (by omega)];omega
  have e6:IntKind.u64.wrap ((r[i].toNat:Nat):Int)=((r[i].toNat:Nat):Int):=by have:=r[i].toNat_lt;rw[IntKind.wrap_u64];omega
  have e5:IntKind.u64.wrap (IntKind.u64.wrap (256*((WK (r.take i):Nat):Int))+((r[i].toNat:Nat):Int))=((WK (r.take (i+1)):Nat):Int):=by
   have h9:=Jq r i (by omega)
   have h8:=r[i].toNat_lt
   rw[OJ r i hir,IntKind.wrap_u64,IntKind.wrap_u64]
   omega
  repeat'(first|rw[e3]|rw[e4]|rw[e5]|rw[e6]|rw[e7]|(apply Zh Za;exact U)|(apply Zg Za;exact U)|(apply Zd;exact U;(first|with_reducible assumption|(solve|simp only[bn])))|(apply ZY 11 ZF;decide +kernel;kernel_rfl;kernel_rfl;exact U;exact U)|(apply Z8;(iterate 3 exact U))|refine AD.nil _|exact Yu rfl|(apply Zu Za;(iterate 6 exact U);(first|exact Qb|rotate_left);(first|with_reducible assumption|exact U);(first|exact Zj rfl|with_reducible assumption|rotate_left)))
  refine Lands.mk' (m:=k-1) (by omega) ⟨i+1,by omega,rfl,rfl,rfl⟩ ?_ rfl rfl rfl rfl rfl rfl
  repeat'(first|exact Av.Sub.nil|refine Av.Sub.cons rfl ?_)
 ·have hd:decide ((i:Int)<(m:Int))=false:=by simp;omega
  repeat'(first|rw[e3]|(apply Zg Za;exact U)|(apply Zf;exact U;(first|with_reducible assumption|(solve|simp only[bn]))))
  (apply Ud (ts:=[]);(apply Zc Za;exact U);exact ZD _;exact U;rotate_left;exact U)
  have h9:i=m:=by omega
  subst h9
  rw[G7.out,IntWalk.i64_in _ (by omega)]
  rfl
abbrev pcD (b:List UInt8)(r:Res (List UInt8 × List UInt8)):D:=match r with
 | .error e=>.tup [.sl .ext [],.int .i64 0,.int .i64 (e:Int)]
 | .ok (c,r)=>.tup [byE c,.int .i64 ((b.length-r.length:Nat):Int),.int .i64 0]
theorem Id [Known](h:Hd)(b:List UInt8)(p:Nat)(hb:b.length<=1099511627776)(hp:p<=b.length)(hn:h.2.1<18446744073709551616):AP Tryz.prog 192 [byE b,.int .i64 (p:Int),hd h] (pcD b (Y3 h (b.drop p))) []:=by
 obtain⟨k,n,o⟩:=h
 dsimp only at hn
 show AP Tryz.prog _ [byE b,.int .i64 (p:Int),.agg [.int .i64 k,.int .u64 (n:Int),.bool o]] _ _
 have e1:IntKind.i64.wrap (((b.map E.byte).length:Int)-(p:Int))=((b.length-p:Nat):Int):=by rw[List.length_map,IntWalk.i64_in _ (by omega)];omega
 have e2:IntKind.u64.wrap ((b.length-p:Nat):Int)=((b.length-p:Nat):Int):=by rw[IntKind.wrap_u64];omega
 unfold Y3
 dsimp only
 have hl:(b.drop p).length=b.length-p:=List.length_drop ..
 rw[hl]
 by_cases hle:n<=b.length-p
 ·rw[if_pos hle]
  have d1:decide ((n:Int)>((b.length-p:Nat):Int))=false:=decide_eq_false (by omega)
  have e3:IntKind.i64.wrap (n:Int)=(n:Int):=IntWalk.i64_in _ (by omega)
  have e4:IntKind.i64.wrap ((p:Int)+(n:Int))=((p+n:Nat):Int):=by rw[IntWalk.i64_in _ (by omega)];omega
  have hs:(b.take (((p+n:Nat):Int)).toNat).drop ((p:Nat):Int).toNat=(b.drop p).take n:=by
   rw[Int.toNat_natCast,Int.toNat_natCast,List.drop_take];congr 1;omega
  have hij:((p:Nat):Int)<=((p+n:Nat):Int):=by omega
  have hj:(((p+n:Nat):Int)).toNat<=b.length:=by omega
  have hcl:((b.drop p).take n).length<=140737488351232:=by rw[List.length_take,hl];omega
  have hU:=Ym b
  have c2:=XZ _ hcl
  have eR:b.length-((b.drop p).drop n).length=p+n:=by rw[List.length_drop,hl];omega
  by_cases h3:k=3
  ·subst h3
   cases hv:ZM ((b.drop p).take n) with
   | true=>
    rw[hv]at c2
    rw[if_neg (by simp)]
    dsimp only[pcD]
    rw[eR]
    refine AP.ofA (Zl Tryz.func192 U Tryz.ntmps192 U U ?_)
    repeat'(first|rw[d1]|rw[e1]|rw[e2]|rw[e3]|rw[e4]|(apply Zb (c2);kernel_rfl;(iterate 4 exact U))|(apply QZ Za;(iterate 9 exact U);exact Qb;(first|with_reducible assumption|decide|(simp only[List.length_cons,List.length_drop,List.length_take,List.length_append,Int.toNat_natCast]at *;omega));(first|with_reducible assumption|decide|(simp only[List.length_cons,List.length_drop,List.length_take,List.length_append,Int.toNat_natCast]at *;omega));(first|with_reducible assumption|exact U))|(apply Zh Za;exact U)|(apply Zg Za;exact U)|(apply Zo Za;exact U)|refine Ya ?_|refine Ze U U U Qt ?_|refine Zk U Qt U U ?_|refine Zf U Qt ?_|refine Zm Za U U U U ?_)
    all_goals exact Qe
   | false=>
    rw[hv]at c2
    rw[if_pos ⟨rfl,rfl⟩]
    dsimp only[pcD]
    refine AP.ofA (Zl Tryz.func192 U Tryz.ntmps192 U U ?_)
    repeat'(first|rw[d1]|rw[e1]|rw[e2]|rw[e3]|rw[e4]|(apply Zb (c2);kernel_rfl;(iterate 4 exact U))|(apply QZ Za;(iterate 9 exact U);exact Qb;(first|with_reducible assumption|decide|(simp only[List.length_cons,List.length_drop,List.length_take,List.length_append,Int.toNat_natCast]at *;omega));(first|with_reducible assumption|decide|(simp only[List.length_cons,List.length_drop,List.length_take,List.length_append,Int.toNat_natCast]at *;omega));(first|with_reducible assumption|exact U))|(apply Zh Za;exact U)|(apply Zg Za;exact U)|(apply Zo Za;exact U)|refine Ya ?_|refine Ze U U U Qt ?_|refine Zk U Qt U U ?_|refine Zd U Qt ?_|refine Zf U Qt ?_|refine Zm Za U U U U ?_)
    all_goals exact Qe
  ·have k3:(k==3)=false:=by simpa using h3
   rw[if_neg (by rintro⟨h,_⟩;exact h3 h)]
   dsimp only[pcD]
   rw[eR]
   refine AP.ofA (Zl Tryz.func192 U Tryz.ntmps192 U U ?_)
   repeat'(first|rw[d1]|rw[e1]|rw[e2]|rw[e3]|rw[e4]|(apply QZ Za;(iterate 9 exact U);exact Qb;(first|with_reducible assumption|decide|(simp only[List.length_cons,List.length_drop,List.length_take,List.length_append,Int.toNat_natCast]at *;omega));(first|with_reducible assumption|decide|(simp only[List.length_cons,List.length_drop,List.length_take,List.length_append,Int.toNat_natCast]at *;omega));(first|with_reducible assumption|exact U))|(apply Zh Za;exact U)|(apply Zg Za;exact U)|(apply Zo Za;exact U)|refine Ya ?_|refine Zr U U U Qt ?_|refine Zi U Qt U U ?_|refine Zf U Qt ?_|refine Zm Za U U U U ?_)
   all_goals exact Qe
 ·rw[if_neg hle]
  dsimp only[pcD]
  have d1:decide ((n:Int)>((b.length-p:Nat):Int))=true:=decide_eq_true (by omega)
  refine AP.ofA (Zl Tryz.func192 U Tryz.ntmps192 U U ?_)
  repeat'(first|rw[d1]|rw[e1]|rw[e2]|(apply Zh Za;exact U)|(apply Zg Za;exact U)|(apply Zo Za;exact U)|refine Zd U Qt ?_|refine Zm Za U U U U ?_)
  all_goals exact Qe
end Go.Proofs.YtmljabhmajehnaaGreatDoor
end
