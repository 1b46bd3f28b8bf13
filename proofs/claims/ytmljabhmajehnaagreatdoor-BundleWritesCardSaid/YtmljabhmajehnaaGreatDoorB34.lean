/- The document's first blocks: its answers are the program's, plain. -/
import Derived.Test.YtmljabhmajehnaaGreatDoorB33
import Derived.Test.YtmljabhmajehnaaGreatDoorB29
import Derived.Test.YtmljabhmajehnaaGreatDoorB17
import Derived.Test.YtmljabhmajehnaaGreatDoorB16
import Derived.Test.YtmljabhmajehnaaGreatDoorB18
import Derived.Test.YtmljabhmajehnaaGreatDoorB31
set_option linter.unusedVariables false
set_option linter.unusedSimpArgs false
section
open Go.RowKit Go.Pl Go.Av
namespace Go.Proofs.YtmljabhmajehnaaGreatDoor
set_option maxHeartbeats 4000000
theorem QP {x:EidV}(h:ZR x=true):Yf (Z5 x)<=5/\Yz (Z5 x) 5=true/\Yw (Z5 x)=true:=by
 refine⟨?_,?_,?_⟩
 ·unfold Z5
  repeat' split
  all_goals simp[Yf,Z2]
 ·unfold Z5
  repeat' split
  all_goals simp[Yz,YE]
 ·have:=VP h
  rw[Wc]at this
  simp only[Bool.and_eq_true]at this
  exact this.2.2
theorem Ib (p:PriV):(YA p).length=8:=rfl
theorem XV {p:PriV}(h:Yq p=true):Z2 (YA p)<=25/\YE (YA p) 5=true/\Y6 (YA p)=true:=by
 obtain⟨h1,h2,h3,h4,h5,h6⟩:=W1 h
 obtain⟨i1,_,_⟩:=WA.1 h5
 obtain⟨a1,a2,a3⟩:=QP h3
 obtain⟨b1,b2,b3⟩:=QP h4
 obtain⟨c1,c2,c3⟩:=QP i1
 refine⟨?_,?_,?_⟩
 ·simp only[YA,Z2,Yf]
  omega
 ·simp only[YA,YE,a2,b2,c2,Yz,Bool.and_self]
 ·simp only[YA,Y6,a3,b3,c3]
  simp[Yw,Y6,Wl]
theorem XW {p:PriV}(h:Yq p=true)(x:List It)(hx:Z2 x<=4/\YE x 5=true/\Y6 x=true):ZB (.mk 4 0 [] (YA p++x))=true:=by
 obtain⟨h1,h2,h3⟩:=XV h
 rw[Wc,Yz,Yf,Yw,UQ,UR,US,hx.2.1,hx.2.2,h2,h3]
 have h4:Wl 4 0 [] (YA p++x)=true:=by simp[Wl]
 rw[h4]
 simp
 omega
def W4 (p:PriV):It:=(Y7 (YA p) p.sum.toNat).1
theorem Hf {p:PriV}(h0:0<=p.sum)(h2:p.sum<=2):Z4 (YA p) 2=p.sum:=by
 unfold Z4 YA
 rw[if_neg (by omega)]
 show(match decide (((p.sum.toNat:Nat):Int)>2) with|true=>(-1:Int)|false=>match It.beq (.mk 0 p.sum.toNat [] []) (.mk 0 p.sum.toNat [] []) with|true=>((p.sum.toNat:Nat):Int)|false => -1)=p.sum
 rw[show decide (((p.sum.toNat:Nat):Int)>2)=false from decide_eq_false (by omega),It.beq_iff.2 rfl]
 dsimp only
 exact Int.toNat_of_nonneg h0
theorem Tm {p:PriV}(h:Yq p=true)(s:Nat):(Y7 (YA p) s).2=true:=by
 cases s with
 | zero=>
  unfold Y7
  have:=XW h [] ⟨by simp[Z2],rfl,rfl⟩
  rw[List.append_nil]at this
  exact this
 | succ s=>
  unfold Y7
  dsimp only
  have:ZB (ZP (s+1) (YA p))=true:=XW h [.mk 2 0 (List.replicate (2*(s+1)) 0) []] ⟨by simp[Z2,Yf],by simp[YE,Yz],by simp[Y6,Yw,Wl]⟩
  rw[this]
theorem Xz {p:PriV}(h:Yq p=true):YB p=(W4 p,0):=by
 obtain⟨h3,h4,_⟩:=W1 h
 unfold YB
 rw[h]
 dsimp only
 rw[Np]
 unfold No W4
 rw[Hf h3 h4,Ib]
 rw[show(decide ((2:Int)<0)||decide ((2:Int) ≥ ((8:Nat):Int)))=false from by decide]
 dsimp only
 rw[decide_eq_true (show p.sum ≥ 0 from h3),Tm h]
theorem BK {p:PriV}(h:Yq p=true)(s:Nat)(hs:s<=2):(ZM (ZP s (YA p))).length<=1000000000:=by
 have h1:=Tf h
 have h0:=YI 4 0 [] (YA p++[.mk 2 0 (List.replicate (2*s) 0) []])
 have hb:=YI 2 0 (List.replicate (2*s) 0) []
 rw[V2]at h0
 simp only[ZJ,List.length_append,List.length_nil,List.length_replicate,Nat.add_zero,Nat.zero_add]at h0 hb
 show(ZM (.mk 4 0 [] (YA p++[.mk 2 0 (List.replicate (2*s) 0) []]))).length<=1000000000
 omega
theorem Hg [Known](h:Hd):AP Tryz.prog 191 [hd h] (.bool (Z0 h)) []:=by
 obtain⟨m,n,o⟩:=h
 refine Zl Tryz.func191 rfl Tryz.ntmps191 rfl rfl ?_
 repeat'(first|(apply Zh Za;exact U)|(apply Zg Za;exact U)|(apply Ze;(iterate 3 exact U);(first|with_reducible assumption|(solve|simp only[bn])))|(apply Zu;(iterate 3 exact U);(first|with_reducible assumption|(solve|simp only[bn])))|(apply Zn;(iterate 3 exact U);(first|with_reducible assumption|(solve|simp only[bn])))|refine UB U U U ?_|(apply Yr;exact U;exact U;all_goals intro hb)|(apply Zj;exact U;(first|with_reducible assumption|(solve|simp only[bn]));exact U;exact U)|(apply Zi;exact U;(first|with_reducible assumption|(solve|simp only[bn]));exact U;exact U)|(apply YM;exact U;all_goals intro hb))
 all_goals(apply V6 (ts:=[]);(apply Zc Za;exact U);exact ZD _;exact U;rotate_left;exact U)
 all_goals congr 1
 all_goals(rw[Bool.eq_iff_iff];simp_all [Z0,U3];try omega)
set_option maxRecDepth 20000 in
theorem KV [Known](b:List UInt8)(p:Int)(hb:b.length<=4611686018427387904):AP Tryz.prog 175 [byE b,.int .i64 p] (rdD (Qn b p)) []:=by
 have HB:=hid hb
 clear hb
 have HU:=Ym b
 refine Zl Tryz.func175 rfl Tryz.ntmps175 rfl rfl ?_
 repeat'(first|(apply Zh Za;exact U)|(apply Zg Za;exact U)|(apply Zo Za;exact U)|(apply Ze;(iterate 3 exact U);(first|with_reducible assumption|(solve|simp only[bn])))|(apply Zn;(iterate 3 exact U);(first|with_reducible assumption|(solve|simp only[bn])))|(apply Yr;exact U;exact U;all_goals intro hb)|(apply Zj;exact U;(first|with_reducible assumption|(solve|simp only[bn]));exact U;exact U)|(apply Zi;exact U;(first|with_reducible assumption|(solve|simp only[bn]));exact U;exact U)|(apply Zd;exact U;(first|with_reducible assumption|(solve|simp only[bn])))|(apply YM;exact U;all_goals intro hb)|refine Zm Za U U U U ?_)
 ·(apply V6 (ts:=[]);(apply Zc Za;exact U);exact ZD _;exact U;rotate_left;exact U)
  have:p<0:=of_decide_eq_true hb
  rw[show Qn b p=_ from if_pos (.inl this)];rfl
 ·(apply V6 (ts:=[]);(apply Zc Za;exact U);exact ZD _;exact U;rotate_left;exact U)
  have:p>((b.map E.byte).length:Int):=of_decide_eq_true hb
  rw[List.length_map]at this
  rw[show Qn b p=_ from if_pos (.inr this)];rfl
 ·(apply V6 (ts:=[]);(apply Zc Za;exact U);exact ZD _;exact U;rotate_left;exact U)
  have:p=((b.map E.byte).length:Int):=by simpa using hb
  rw[List.length_map]at this
  have hd:b.drop p.toNat=[]:=by rw[List.drop_eq_nil_iff];omega
  rw[show Qn b p=YJ b p.toNat from if_neg (by omega)]
  unfold YJ
  rw[hd];rfl
 rename_i g1 g2
 have h0:0<=p:=by have:=of_decide_eq_false g1;omega
 have h1:p<(b.length:Int):=by
  have a1:=of_decide_eq_false g2
  rw[List.length_map]at a1 hb
  have a2:p ≠ (b.length:Int):=by simpa using hb
  omega
 obtain⟨c,r,hd,hl,hv,hr⟩:=GH b p h0 h1
 have HH:=hid (show Qn b p=YJ b p.toNat from if_neg (by omega))
 have HD:=hid hd
 have HL:=hid hl
 have HR:=hid hr
 have hc:=c.toNat_lt
 have e1:IntKind.i64.wrap ((c.toNat:Nat):Int)=((c.toNat:Nat):Int):=IntWalk.i64_in _ (by omega)
 have e4:IntKind.i64.wrap (((c.toNat:Nat):Int).tdiv 32)=((c.toNat/32:Nat):Int):=by
  rw[Int.tdiv_eq_ediv_of_nonneg (Int.natCast_nonneg _),IntWalk.i64_in _ (by omega)];omega
 have e5:((c.toNat:Nat):Int).tmod 32=((c.toNat % 32:Nat):Int):=by
  rw[Int.tmod_eq_emod_of_nonneg (Int.natCast_nonneg _)];omega
 have e2:IntKind.u64.wrap ((c.toNat % 32:Nat):Int)=((c.toNat % 32:Nat):Int):=by rw[IntKind.wrap_u64];omega
 have e3:IntKind.i64.wrap (p+1)=((p.toNat+1:Nat):Int):=by have:=HB.out;rw[IntWalk.i64_in _ (by omega)];omega
 clear hb g1 g2 hd hl hr hc
 have hv4:¬ c.toNat % 32<24->¬ 27<c.toNat % 32->[E.int .i64 1,E.int .i64 2,E.int .i64 4,E.int .i64 8][(IntKind.i64.wrap (((c.toNat % 32:Nat):Int)-24)).toNat]?=some (E.int .i64 ((2 ^ (c.toNat % 32-24):Nat):Int))/\0<=IntKind.i64.wrap (((c.toNat % 32:Nat):Int)-24):=by
  generalize c.toNat % 32=v
  intro g1 g2
  obtain rfl|rfl|rfl|rfl:v=24\/v=25\/v=26\/v=27:=by omega
  all_goals exact⟨rfl,by decide⟩
 repeat'(first|rw[e1]|rw[e2]|rw[e3]|rw[e4]|rw[e5]|(apply VH (Hg (((c.toNat/32:Nat):Int),0,true));kernel_rfl;(iterate 4 exact U))|(apply Zh Za;exact U)|(apply Zg Za;exact U)|(apply Zo Za;exact U)|(apply YM;exact U;all_goals intro hb)|refine QB Za U U U U U U U U U U U U ?_|(apply Zr Za;(iterate 6 exact U);(first|exact Qb|rotate_left);(first|with_reducible assumption|exact U);(first|exact Zk rfl|with_reducible assumption|rotate_left))|(apply UX;exact U;exact U;(first|exact Qb|rotate_left);exact U)|(apply UY;exact U;exact U;(first|exact Qb|rotate_left);exact U))
 ·(apply V6 (ts:=[]);(apply Zc Za;exact U);exact ZD _;exact U;rotate_left;exact U)
  rw[HH.out,JX HD.out (by have:=of_decide_eq_true hb;omega)];rfl
 ·(apply V6 (ts:=[]);(apply Zc Za;exact U);exact ZD _;exact U;rotate_left;exact U)
  have g31 : c.toNat % 32 = 31 := by have : ((c.toNat % 32 : Nat) : Int) = 31 := by simpa using (‹(((c.toNat % 32 : Nat) : Int) == 31) = true›)
                                     omega
  have gm:U3 ((c.toNat/32:Nat):Int)=false:=by simpa[Z0]using hb
  rw[HH.out,Xn HD.out (by omega) (fun _=>gm)];rfl
 ·(apply V6 (ts:=[]);(apply Zc Za;exact U);exact ZD _;exact U;rotate_left;exact U)
  have g31 : c.toNat % 32 = 31 := by have : ((c.toNat % 32 : Nat) : Int) = 31 := by simpa using (‹(((c.toNat % 32 : Nat) : Int) == 31) = true›)
                                     omega
  have gm:U3 ((c.toNat/32:Nat):Int)=true:=by simpa[Z0]using hb
  rw[HH.out,Kt HD.out g31 gm];rfl
 ·(apply V6 (ts:=[]);(apply Zc Za;exact U);exact ZD _;exact U;rotate_left;exact U)
  have g31 : c.toNat % 32 ≠ 31 := by have : ((c.toNat % 32 : Nat) : Int) ≠ 31 := by simpa using (‹(((c.toNat % 32 : Nat) : Int) == 31) = false›)
                                     omega
  rw[HH.out,Xn HD.out (by have:=of_decide_eq_true hb;omega) (fun e=>(g31 e).elim)];rfl
 have g2:=of_decide_eq_false hb
 have g3:=of_decide_eq_false (‹decide (((c.toNat % 32:Nat):Int)<24)=false›)
 have q1:=H5 (c.toNat % 32) (by omega) (by omega)
 have q2:=hv4 (by omega) (by omega)
 have hvi:=q2.1
 have hvp:=q2.2
 have g5:=HL.out
 have g6:=HB.out
 have q3:∀ h:r.length<2 ^ (c.toNat % 32-24),_:=fun h=>HH.out.trans (XP HD.out (by omega) (by omega) h)
 have q4:∀ h:¬ r.length<2 ^ (c.toNat % 32-24),_:=fun h=>HH.out.trans (Ku HD.out (by omega) (by omega) h)
 have q5:=q1.2
 generalize 2 ^ (c.toNat % 32-24)=m at hvi q3 q4 q5 ⊢
 have Q3:=hid q3
 have Q4:=hid q4
 clear q3 q4 q1 q2 hv4
 repeat'(first|(apply Zh Za;exact U)|(apply Zg Za;exact U)|(apply Zo Za;exact U)|(apply YM;exact U;all_goals intro hb)|refine Zm Za U U U U ?_|(apply Zr Za;(iterate 6 exact U);(first|exact Qb|rotate_left);(first|with_reducible assumption|exact U);(first|exact Zk rfl|with_reducible assumption|rotate_left)))
 ·(apply V6 (ts:=[]);(apply Zc Za;exact U);exact ZD _;exact U;rotate_left;exact U)
  have g1:=of_decide_eq_true hb
  rw[List.length_map,IntWalk.i64_in ((b.length:Int)-p) (by omega),IntWalk.i64_in _ (by omega)]at g1
  rw[Q3.out (by omega)];rfl
 have g1:=of_decide_eq_false hb
 rw[List.length_map,IntWalk.i64_in ((b.length:Int)-p) (by omega),IntWalk.i64_in _ (by omega)]at g1
 have G7:=hid (Q4.out (by omega))
 clear hb g2 g3
 refine ZI (fun k tm bx fr=>∃ i,k+i=m/\tm=[(10,.int .i64 (i:Int)),(9,.int .i64 (m:Int)),(7,.ptr 1 0),(1,.int .i64 p),(0,byE b),(4,.ptr 0 0)]/\bx=[[.int .i64 0,.int .u64 0,.bool false],[.int .i64 ((c.toNat/32:Nat):Int),.int .u64 (WF (r.take i):Nat),.bool false]]/\fr=[]) (m+1) (Lands.mk' (m:=m) (Nat.lt_succ_self _) ⟨0,rfl,rfl,rfl,rfl⟩ ?_ rfl rfl rfl rfl rfl rfl) ?_
 ·repeat'(first|exact Av.Sub.nil|refine Av.Sub.cons rfl ?_)
 rintro k tm bx fr ⟨i,hk,rfl,rfl,rfl⟩
 rcases Nat.lt_or_ge i m with hlt|hge
 ·have hd:decide ((i:Int)<(m:Int))=true:=by simp;omega
  have hir:i<r.length:=by omega
  have hv':(b.map E.byte)[((p.toNat+1+i:Nat):Int).toNat]?=some (E.byte r[i]):=by
   rw[Int.toNat_natCast,HR.out i hir];simp[hir]
  have e4:IntKind.i64.wrap (((p.toNat+1:Nat):Int)+(i:Int))=((p.toNat+1+i:Nat):Int):=by rw[IntWalk.i64_in _ (by omega)];omega
  have e7:IntKind.i64.wrap ((i:Int)+1)=((i+1:Nat):Int):=by rw[IntWalk.i64_in _ (by omega)];omega
  have e6:IntKind.u64.wrap ((r[i].toNat:Nat):Int)=((r[i].toNat:Nat):Int):=by have:=r[i].toNat_lt;rw[IntKind.wrap_u64];omega
  have e5:IntKind.u64.wrap (IntKind.u64.wrap (256*((WF (r.take i):Nat):Int))+((r[i].toNat:Nat):Int))=((WF (r.take (i+1)):Nat):Int):=by
   have h9:=Jk r i (by omega)
   have h8:=r[i].toNat_lt
   rw[OC r i hir,IntKind.wrap_u64,IntKind.wrap_u64]
   omega
  repeat'(first|rw[e3]|rw[e4]|rw[e5]|rw[e6]|rw[e7]|(apply Zh Za;exact U)|(apply Zg Za;exact U)|(apply Zd;exact U;(first|with_reducible assumption|(solve|simp only[bn])))|(apply ZV 11 ZE;decide +kernel;kernel_rfl;kernel_rfl;exact U;exact U)|(apply Z7;(iterate 3 exact U))|refine AD.nil _|exact Yy rfl|(apply Zr Za;(iterate 6 exact U);(first|exact Qb|rotate_left);(first|with_reducible assumption|exact U);(first|exact Zk rfl|with_reducible assumption|rotate_left)))
  refine Lands.mk' (m:=k-1) (by omega) ⟨i+1,by omega,rfl,rfl,rfl⟩ ?_ rfl rfl rfl rfl rfl rfl
  repeat'(first|exact Av.Sub.nil|refine Av.Sub.cons rfl ?_)
 ·have hd:decide ((i:Int)<(m:Int))=false:=by simp;omega
  repeat'(first|rw[e3]|(apply Zg Za;exact U)|(apply Zf;exact U;(first|with_reducible assumption|(solve|simp only[bn]))))
  (apply V6 (ts:=[]);(apply Zc Za;exact U);exact ZD _;exact U;rotate_left;exact U)
  have h9:i=m:=by omega
  subst h9
  rw[G7.out,IntWalk.i64_in _ (by omega)]
  rfl
abbrev pcD (b:List UInt8)(r:Res (List UInt8 × List UInt8)):D:=match r with
 | .error e=>.tup [.sl .ext [],.int .i64 0,.int .i64 (e:Int)]
 | .ok (c,r)=>.tup [byE c,.int .i64 ((b.length-r.length:Nat):Int),.int .i64 0]
theorem Ic [Known](h:Hd)(b:List UInt8)(p:Nat)(hb:b.length<=1099511627776)(hp:p<=b.length)(hn:h.2.1<18446744073709551616):AP Tryz.prog 192 [byE b,.int .i64 (p:Int),hd h] (pcD b (Y5 h (b.drop p))) []:=by
 obtain⟨k,n,o⟩:=h
 dsimp only at hn
 show AP Tryz.prog _ [byE b,.int .i64 (p:Int),.agg [.int .i64 k,.int .u64 (n:Int),.bool o]] _ _
 have e1:IntKind.i64.wrap (((b.map E.byte).length:Int)-(p:Int))=((b.length-p:Nat):Int):=by rw[List.length_map,IntWalk.i64_in _ (by omega)];omega
 have e2:IntKind.u64.wrap ((b.length-p:Nat):Int)=((b.length-p:Nat):Int):=by rw[IntKind.wrap_u64];omega
 unfold Y5
 dsimp only
 have hl:(b.drop p).length=b.length-p:=List.length_drop ..
 rw[hl]
 by_cases hle:n<=b.length-p
 ·rw[if_pos hle]
  have d1:decide ((n:Int)>((b.length-p:Nat):Int))=false:=decide_eq_false (by omega)
  have e3:IntKind.i64.wrap (n:Int)=(n:Int):=IntWalk.i64_in _ (by omega)
  have e4:IntKind.i64.wrap ((p:Int)+(n:Int))=((p+n:Nat):Int):=by rw[IntWalk.i64_in _ (by omega)];omega
  have hs:(b.take (((p+n:Nat):Int)).toNat).drop ((p:Nat):Int).toNat=(b.drop p).take n:=by
   rw[Int.toNat_natCast,Int.toNat_natCast,List.drop_take];congr 1;omega
  have hij:((p:Nat):Int)<=((p+n:Nat):Int):=by omega
  have hj:(((p+n:Nat):Int)).toNat<=b.length:=by omega
  have hcl:((b.drop p).take n).length<=140737488351232:=by rw[List.length_take,hl];omega
  have hU:=Ym b
  have c2:=XU _ hcl
  have eR:b.length-((b.drop p).drop n).length=p+n:=by rw[List.length_drop,hl];omega
  by_cases h3:k=3
  ·subst h3
   cases hv:ZH ((b.drop p).take n) with
   | true=>
    rw[hv]at c2
    rw[if_neg (by simp)]
    dsimp only[pcD]
    rw[eR]
    refine AP.ofA (Zl Tryz.func192 U Tryz.ntmps192 U U ?_)
    repeat'(first|rw[d1]|rw[e1]|rw[e2]|rw[e3]|rw[e4]|(apply Zb (c2);kernel_rfl;(iterate 4 exact U))|(apply QV Za;(iterate 9 exact U);exact Qb;(first|with_reducible assumption|decide|(simp only[List.length_cons,List.length_drop,List.length_take,List.length_append,Int.toNat_natCast]at *;omega));(first|with_reducible assumption|decide|(simp only[List.length_cons,List.length_drop,List.length_take,List.length_append,Int.toNat_natCast]at *;omega));(first|with_reducible assumption|exact U))|(apply Zh Za;exact U)|(apply Zg Za;exact U)|(apply Zo Za;exact U)|refine Yb ?_|refine Ze U U U Qt ?_|refine Zj U Qt U U ?_|refine Zf U Qt ?_|refine Zm Za U U U U ?_)
    all_goals exact Qe
   | false=>
    rw[hv]at c2
    rw[if_pos ⟨rfl,rfl⟩]
    dsimp only[pcD]
    refine AP.ofA (Zl Tryz.func192 U Tryz.ntmps192 U U ?_)
    repeat'(first|rw[d1]|rw[e1]|rw[e2]|rw[e3]|rw[e4]|(apply Zb (c2);kernel_rfl;(iterate 4 exact U))|(apply QV Za;(iterate 9 exact U);exact Qb;(first|with_reducible assumption|decide|(simp only[List.length_cons,List.length_drop,List.length_take,List.length_append,Int.toNat_natCast]at *;omega));(first|with_reducible assumption|decide|(simp only[List.length_cons,List.length_drop,List.length_take,List.length_append,Int.toNat_natCast]at *;omega));(first|with_reducible assumption|exact U))|(apply Zh Za;exact U)|(apply Zg Za;exact U)|(apply Zo Za;exact U)|refine Yb ?_|refine Ze U U U Qt ?_|refine Zj U Qt U U ?_|refine Zd U Qt ?_|refine Zf U Qt ?_|refine Zm Za U U U U ?_)
    all_goals exact Qe
  ·have k3:(k==3)=false:=by simpa using h3
   rw[if_neg (by rintro⟨h,_⟩;exact h3 h)]
   dsimp only[pcD]
   rw[eR]
   refine AP.ofA (Zl Tryz.func192 U Tryz.ntmps192 U U ?_)
   repeat'(first|rw[d1]|rw[e1]|rw[e2]|rw[e3]|rw[e4]|(apply QV Za;(iterate 9 exact U);exact Qb;(first|with_reducible assumption|decide|(simp only[List.length_cons,List.length_drop,List.length_take,List.length_append,Int.toNat_natCast]at *;omega));(first|with_reducible assumption|decide|(simp only[List.length_cons,List.length_drop,List.length_take,List.length_append,Int.toNat_natCast]at *;omega));(first|with_reducible assumption|exact U))|(apply Zh Za;exact U)|(apply Zg Za;exact U)|(apply Zo Za;exact U)|refine Yb ?_|refine Zu U U U Qt ?_|refine Zi U Qt U U ?_|refine Zf U Qt ?_|refine Zm Za U U U U ?_)
   all_goals exact Qe
 ·rw[if_neg hle]
  dsimp only[pcD]
  have d1:decide ((n:Int)>((b.length-p:Nat):Int))=true:=decide_eq_true (by omega)
  refine AP.ofA (Zl Tryz.func192 U Tryz.ntmps192 U U ?_)
  repeat'(first|rw[d1]|rw[e1]|rw[e2]|(apply Zh Za;exact U)|(apply Zg Za;exact U)|(apply Zo Za;exact U)|refine Zd U Qt ?_|refine Zm Za U U U U ?_)
  all_goals exact Qe
end Go.Proofs.YtmljabhmajehnaaGreatDoor
end
