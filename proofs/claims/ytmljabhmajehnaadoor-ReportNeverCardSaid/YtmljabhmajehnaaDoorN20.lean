/- head.Read and head.Shortest over abstract states. -/
import Derived.Test.YtmljabhmajehnaaDoorN19
import Derived.Test.YtmljabhmajehnaaDoorN11
import Derived.Test.YtmljabhmajehnaaDoorN12
import Derived.Test.YtmljabhmajehnaaDoorN16
set_option linter.unusedVariables false
set_option linter.unusedSimpArgs false
section
open Go.RowKit Go.Pl Go.Av
namespace Go.Proofs.YtmljabhmajehnaaDoor
set_option maxHeartbeats 4000000
def rdD (r:Hd × Nat × Nat):D:=.tup [hd r.1,.int .i64 (r.2.1:Int),.int .i64 (r.2.2:Int)]
theorem HI (b:List UInt8)(p:Int)(h0:0<=p)(h1:p<(b.length:Int)):∃ c r,b.drop p.toNat=c::r/\r.length+p.toNat+1=b.length/\(b.map E.byte)[p.toNat]?=some (E.byte c)/\∀ j:Nat,j<r.length->(b.map E.byte)[p.toNat+1+j]?=(r.map E.byte)[j]? := by
 have h:p.toNat<b.length:=by omega
 refine⟨b[p.toNat],b.drop (p.toNat+1),List.drop_eq_getElem_cons h,by rw[List.length_drop];omega,by simp[h],fun j hj=>by simp[List.getElem?_drop]⟩
theorem La (c:UInt8):((c.toNat:Int)).fdiv (2 ^ min (Int.toNat 5) IntKind.u8.bits)=((c.toNat/32:Nat):Int):=by
 rw[show min (Int.toNat 5) IntKind.u8.bits=5 from rfl,Int.fdiv_eq_ediv_of_nonneg _ (by decide)]
 omega
theorem Ka {b:List UInt8}{p:Nat}{c:UInt8}{r:List UInt8}(h:b.drop p=c::r)(h1:c.toNat % 32<24):Yx b p=((((c.toNat/32:Nat):Int),c.toNat % 32,false),p+1,0):=by
 unfold Yx;rw[h];simp only;rw[if_pos h1]
theorem OU {b:List UInt8}{p:Nat}{c:UInt8}{r:List UInt8}(h:b.drop p=c::r)(h1:c.toNat % 32=31)(h2:QF (c.toNat/32:Nat)=true):Yx b p=((((c.toNat/32:Nat):Int),0,true),p+1,0):=by
 unfold Yx;rw[h];simp only;rw[if_neg (by omega),if_pos ⟨h1,h2⟩]
theorem Gr {b:List UInt8}{p:Nat}{c:UInt8}{r:List UInt8}(h:b.drop p=c::r)(h1:27<c.toNat % 32)(h2:c.toNat % 32=31->QF (c.toNat/32:Nat)=false):Yx b p=((0,0,false),0,3):=by
 unfold Yx;rw[h];simp only;rw[if_neg (by omega),if_neg (fun hh=>by have:=h2 hh.1;rw[hh.2]at this;cases this),if_pos h1]
theorem K6 {b:List UInt8}{p:Nat}{c:UInt8}{r:List UInt8}(h:b.drop p=c::r)(h1:¬ c.toNat % 32<24)(h2:¬ 27<c.toNat % 32)(h3:r.length<2 ^ (c.toNat % 32-24)):Yx b p=((0,0,false),0,8):=by
 unfold Yx;rw[h];simp only;rw[if_neg h1,if_neg (by omega),if_neg h2,if_pos h3]
theorem OV {b:List UInt8}{p:Nat}{c:UInt8}{r:List UInt8}(h:b.drop p=c::r)(h1:¬ c.toNat % 32<24)(h2:¬ 27<c.toNat % 32)(h3:¬ r.length<2 ^ (c.toNat % 32-24)):Yx b p=((((c.toNat/32:Nat):Int),Wk (r.take (2 ^ (c.toNat % 32-24))),false),p+1+2 ^ (c.toNat % 32-24),0):=by
 unfold Yx;rw[h];simp only;rw[if_neg h1,if_neg (by omega),if_neg h2,if_neg h3]
theorem HJ (v:Nat)(h:¬ v<24)(h':¬ 27<v):IntKind.i64.wrap (1*2 ^ min (IntKind.u8.wrap ((v:Int)-24)).toNat IntKind.i64.bits)=((2 ^ (v-24):Nat):Int)/\2 ^ (v-24)<=8:=by
 obtain rfl|rfl|rfl|rfl:v=24\/v=25\/v=26\/v=27:=by omega
 all_goals decide
theorem TX [Known](b:List UInt8)(p:Int)(hb:b.length<=4611686018427387904):AP Tryd.prog 76 [byE b,.int .i64 p] (rdD (Jw b p)) []:=by
 have HB:=hid hb
 clear hb
 have HU:=YK b
 refine Zl Tryd.func76 rfl Tryd.ntmps76 rfl rfl ?_
 repeat'(first|(apply Zg Za;exact Z)|(apply Zf Za;exact Z)|(apply Zs Za;exact Z)|(apply Ze;(iterate 3 exact Z);(first|with_reducible assumption|(solve|simp only[bn])))|(apply Zo;(iterate 3 exact Z);(first|with_reducible assumption|(solve|simp only[bn])))|(apply YP;exact Z;exact Z;all_goals intro hb)|(apply Zk;exact Z;(first|with_reducible assumption|(solve|simp only[bn]));exact Z;exact Z)|(apply Zi;exact Z;(first|with_reducible assumption|(solve|simp only[bn]));exact Z;exact Z)|(apply Zd;exact Z;(first|with_reducible assumption|(solve|simp only[bn])))|(apply Wr;exact Z;all_goals intro hb)|refine Zn Za Z Z Z Z ?_)
 ·(apply Jc (ts:=[]);(apply Zc Za;exact Z);exact ZE _;exact Z;rotate_left;exact Z)
  have:p<0:=of_decide_eq_true hb
  rw[show Jw b p=_ from if_pos (.inl this)];rfl
 ·(apply Jc (ts:=[]);(apply Zc Za;exact Z);exact ZE _;exact Z;rotate_left;exact Z)
  have:p>((b.map E.byte).length:Int):=of_decide_eq_true hb
  rw[List.length_map]at this
  rw[show Jw b p=_ from if_pos (.inr this)];rfl
 ·(apply Jc (ts:=[]);(apply Zc Za;exact Z);exact ZE _;exact Z;rotate_left;exact Z)
  have:p=((b.map E.byte).length:Int):=by simpa using hb
  rw[List.length_map]at this
  have hd:b.drop p.toNat=[]:=by rw[List.drop_eq_nil_iff];omega
  rw[show Jw b p=Yx b p.toNat from if_neg (by omega)]
  unfold Yx
  rw[hd];rfl
 rename_i g1 g2
 have h0:0<=p:=by have:=of_decide_eq_false g1;omega
 have h1:p<(b.length:Int):=by
  have a1:=of_decide_eq_false g2
  rw[List.length_map]at a1 hb
  have a2:p ≠ (b.length:Int):=by simpa using hb
  omega
 obtain⟨c,r,hd,hl,hv,hr⟩:=HI b p h0 h1
 have HH:=hid (show Jw b p=Yx b p.toNat from if_neg (by omega))
 have HD:=hid hd
 have HL:=hid hl
 have HR:=hid hr
 have e1:IntKind.i64.wrap ((c.toNat/32:Nat):Int)=((c.toNat/32:Nat):Int):=IntWalk.i64_in _ (by have:=c.toNat_lt;omega)
 have e2:IntKind.u64.wrap ((c.toNat % 32:Nat):Int)=((c.toNat % 32:Nat):Int):=by rw[IntKind.wrap_u64];omega
 have e3:IntKind.i64.wrap (p+1)=((p.toNat+1:Nat):Int):=by have:=HB.out;rw[IntWalk.i64_in _ (by omega)];omega
 clear hb g1 g2 hd hl hr
 repeat'(first|rw[MB c]|rw[La c]|rw[e1]|rw[e2]|rw[e3]|(apply Vf (HF _);kernel_rfl;(iterate 4 exact Z))|(apply Zg Za;exact Z)|(apply Zf Za;exact Z)|(apply Zs Za;exact Z)|(apply Ze;(iterate 3 exact Z);(first|with_reducible assumption|(solve|simp only[bn])))|(apply Zt;(iterate 3 exact Z);(first|with_reducible assumption|(solve|simp only[bn])))|(apply YP;exact Z;exact Z;all_goals intro hb)|(apply Zk;exact Z;(first|with_reducible assumption|(solve|simp only[bn]));exact Z;exact Z)|(apply Zi;exact Z;(first|with_reducible assumption|(solve|simp only[bn]));exact Z;exact Z)|(apply Zh;exact Z;(first|with_reducible assumption|(solve|simp only[bn])))|(apply Wr;exact Z;all_goals intro hb)|refine Zn Za Z Z Z Z ?_|(apply Zx Za;(iterate 6 exact Z);(first|exact Qb|rotate_left);(first|with_reducible assumption|exact Z);(first|exact Zj rfl|with_reducible assumption|rotate_left))|(apply Yn;exact Z;exact Z;(first|exact Qb|rotate_left);exact Z)|(apply XV;exact Z;exact Z;(first|exact Qb|rotate_left);exact Z))
 ·(apply Jc (ts:=[]);(apply Zc Za;exact Z);exact ZE _;exact Z;rotate_left;exact Z)
  rw[HH.out,Ka HD.out (by have:=of_decide_eq_true hb;omega)];rfl
 ·(apply Jc (ts:=[]);(apply Zc Za;exact Z);exact ZE _;exact Z;rotate_left;exact Z)
  rw[HH.out,OU HD.out (by have:=of_decide_eq_false (‹decide _=false›);simp at *;omega) hb];rfl
 iterate 2
  ·(apply Jc (ts:=[]);(apply Zc Za;exact Z);exact ZE _;exact Z;rotate_left;exact Z)
   rw[HH.out,Gr HD.out (by have:=of_decide_eq_true hb;omega) (by intro hh;first|assumption|simp_all)];rfl
  ·(apply Jc (ts:=[]);(apply Zc Za;exact Z);exact ZE _;exact Z;rotate_left;exact Z)
   have g1:=of_decide_eq_true hb
   have g2:=of_decide_eq_false (‹decide (((c.toNat % 32:Nat):Int)>27)=false›)
   have g3:=of_decide_eq_false (‹decide (((c.toNat % 32:Nat):Int)<24)=false›)
   have g4:=HJ (c.toNat % 32) (by omega) (by omega)
   have g5:=HL.out
   have g6:=HB.out
   rw[g4.1,List.length_map,IntWalk.i64_in _ (by omega)]at g1
   rw[HH.out,K6 HD.out (by omega) (by omega) (by omega)];rfl
  ·have g1:=of_decide_eq_false hb
   have g2:=of_decide_eq_false (‹decide (((c.toNat % 32:Nat):Int)>27)=false›)
   have g3:=of_decide_eq_false (‹decide (((c.toNat % 32:Nat):Int)<24)=false›)
   have g4:=HJ (c.toNat % 32) (by omega) (by omega)
   have g5:=HL.out
   have g6:=HB.out
   rw[g4.1,List.length_map,IntWalk.i64_in _ (by omega)]at g1
   rw[g4.1]
   have g7:=HH.out.trans (OV HD.out (by omega) (by omega) (by omega))
   generalize 2 ^ (c.toNat % 32-24)=m at g1 g4 g7 ⊢
   have g8:=g4.2
   have G7:=hid g7
   clear hb g2 g3 g4 g7
   refine Z4 (fun k tm bx fr=>∃ i,k+i=m/\tm=[(75,.int .i64 (i:Int)),(74,.int .i64 (m:Int)),(9,.int .i64 (m:Int)),(7,.ptr 1 0),(1,.int .i64 ((p.toNat+1:Nat):Int)),(0,byE b),(4,.ptr 0 0)]/\bx=[[.int .i64 0,.int .u64 0,.bool false],[.int .i64 ((c.toNat/32:Nat):Int),.int .u64 (Wk (r.take i):Nat),.bool false]]/\fr=[]) (m+1) (Lands.mk' (m:=m) (Nat.lt_succ_self _) ⟨0,rfl,rfl,rfl,rfl⟩ ?_ rfl rfl rfl rfl rfl rfl) ?_
   ·repeat'(first|exact Av.Sub.nil|refine Av.Sub.cons rfl ?_)
   rintro k tm bx fr ⟨i,hk,rfl,rfl,rfl⟩
   rcases Nat.lt_or_ge i m with hlt|hge
   ·have hd:decide ((i:Int)<(m:Int))=true:=by simp;omega
    have hir:i<r.length:=by omega
    have hv':(b.map E.byte)[((p.toNat+1+i:Nat):Int).toNat]?=some (E.byte r[i]):=by
     rw[Int.toNat_natCast,HR.out i hir];simp[hir]
    have e4:IntKind.i64.wrap (((p.toNat+1:Nat):Int)+(i:Int))=((p.toNat+1+i:Nat):Int):=by rw[IntWalk.i64_in _ (by omega)];omega
    have e7:IntKind.i64.wrap ((i:Int)+1)=((i+1:Nat):Int):=by rw[IntWalk.i64_in _ (by omega)];omega
    have e6:IntKind.u64.wrap ((r[i].toNat:Nat):Int)=((r[i].toNat:Nat):Int):=by have:=r[i].toNat_lt;rw[IntKind.wrap_u64];omega
    have e5:bits .or .u64 (IntKind.u64.wrap (((Wk (r.take i):Nat):Int)*2 ^ min (Int.toNat 8) IntKind.u64.bits)) ((r[i].toNat:Nat):Int)=((Wk (r.take (i+1)):Nat):Int):=by
     have h9:=OK (Wk (r.take i)) r[i] (J8 r i (by omega))
     rw[show((2:Int) ^ min (Int.toNat 8) IntKind.u64.bits)=256 from rfl,h9.1,h9.2,Ge r i hir]
    repeat'(first|rw[e4]|rw[e5]|rw[e6]|rw[e7]|(apply Zg Za;exact Z)|(apply Zf Za;exact Z)|(apply Zd;exact Z;(first|with_reducible assumption|(solve|simp only[bn])))|(apply ZO 10 ZF;decide +kernel;kernel_rfl;kernel_rfl;exact Z;exact Z)|(apply ZU;(iterate 3 exact Z))|refine AD.nil _|exact Yb rfl|(apply Zx Za;(iterate 6 exact Z);(first|exact Qb|rotate_left);(first|with_reducible assumption|exact Z);(first|exact Zj rfl|with_reducible assumption|rotate_left))|(apply XV;exact Z;exact Z;(first|exact Qb|rotate_left);exact Z))
    refine Lands.mk' (m:=k-1) (by omega) ⟨i+1,by omega,rfl,rfl,rfl⟩ ?_ rfl rfl rfl rfl rfl rfl
    repeat'(first|exact Av.Sub.nil|refine Av.Sub.cons rfl ?_)
   ·have hd:decide ((i:Int)<(m:Int))=false:=by simp;omega
    repeat'(first|(apply Zf Za;exact Z)|(apply Zh;exact Z;(first|with_reducible assumption|(solve|simp only[bn]))))
    (apply Jc (ts:=[]);(apply Zc Za;exact Z);exact ZE _;exact Z;rotate_left;exact Z)
    have h9:i=m:=by omega
    subst h9
    rw[G7.out,IntWalk.i64_in _ (by omega)]
    rfl
  ·have g2:=of_decide_eq_false hb
   have g3:=of_decide_eq_false (‹decide (((c.toNat % 32:Nat):Int)<24)=false›)
   rw[IntKind.wrap_u8'];omega
abbrev Vi (e:Nat):D:=.iface 84 (.agg [.int .i64 (e:Int)])
abbrev rdC (b:List UInt8)(p m:Nat):List D:=[byE b,.int .i64 (p:Int),.int .i64 (m:Int)]
theorem ZP [Known](e:Int):AP Tryd.prog 55 [.bool true,.int .i64 e] (.tup []) []:=by
 refine AP.ofA (Zl Tryd.func55 Z Tryd.ntmps55 Z Z ?_)
 repeat'(first|(apply Zf Za;exact Z)|(apply Zh;exact Z;(first|with_reducible assumption|(solve|simp only[bn]))))
 all_goals refine MA [] ResL.nil Z Z Z Z ?_ ?_
 all_goals rfl
theorem WC [Known](e:Nat):AX Tryd.prog 55 [.bool false,.int .i64 (e:Int)] [] (Vi e):=by
 refine Zl Tryd.func55 rfl Tryd.ntmps55 rfl rfl ?_
 repeat'(first|(apply Zf Za;exact Z)|refine Gc Z Z ?_|(apply Zd;exact Z;(first|with_reducible assumption|(solve|simp only[bn])))|refine X0 Za Z Z Z Z ?_)
 all_goals exact⟨[],[],ZE _,ZE _,fun i h=>by simp at h,fun i h=>by simp at h,rfl,Nat.zero_le _⟩
theorem TY {s:List UInt8}{e:Nat}(h:rdS s=.error e):e=8\/e=3:=by
 cases s with
 | nil=>simp[rdS]at h;exact .inl h.symm
 | cons c t=>
  simp only[rdS]at h
  split at h
  ·cases h
  split at h
  ·cases h
  split at h
  ·injection h with h;exact .inr h.symm
  split at h
  ·injection h with h;exact .inl h.symm
  ·cases h
theorem Gs (b:List UInt8)(p:Nat)(hp:p<=b.length):Jw b (p:Int)=match rdS (b.drop p) with
  | .error e=>((0,0,false),0,e)
  | .ok (h,r)=>(h,b.length-r.length,0):=by
 have h:=QG b p hp
 rw[Jw,if_neg (by omega),Int.toNat_natCast]
 exact h
theorem K7 [Known](b:List UInt8)(p m:Nat)(hb:b.length<=140737488351232)(hp:p<=b.length):AR Tryd.prog 54 [.ptr 0 0] [rdC b p m] (match rdS (b.drop p) with
  | .error e=>.error (Vi e)
  | .ok (h,r)=>.ok (hd h,[rdC b (b.length-r.length) m])):=by
 have hR:=TX b (p:Int) (by omega)
 rw[Gs b p hp]at hR
 cases hr:rdS (b.drop p) with
 | error e=>
  rw[hr]at hR
  dsimp only at hR ⊢
  have he:((e:Int)==0)=false:=by rcases TY hr with rfl|rfl<;>rfl
  refine Zl Tryd.func54 rfl Tryd.ntmps54 rfl rfl ?_
  repeat'(first|(apply Zb (hR);kernel_rfl;(iterate 4 exact Z))|rw[he]|(apply Z0 [] (WC e);kernel_rfl;(iterate 6 exact Z);intro bx2 fr2 hle2)|(apply Zg Za;exact Z)|(apply Zf Za;exact Z)|(apply Zs Za;exact Z)|(apply Zm 16 ZF;decide +kernel;kernel_rfl;kernel_rfl;kernel_rfl;exact Z;exact Z)|(apply Zq;(iterate 4 exact Z))|exact AE.nil _ _ _ _|(apply Zu;exact Z)|(apply Ye;exact Z)|(apply X4;exact Z)|(apply ZB;exact Z;exact Z;decide +kernel;exact Z)|(apply ZC;exact Z)|(apply YF;exact Z)|(apply Iw;exact Z)|exact AO.nil _ _ _|(apply Zp;(decide +kernel))|(apply Z1;(iterate 3 exact Z))|exact AOs.nil|exact ZH rfl rfl|exact X5 rfl|exact Y4 rfl rfl)
  all_goals first|(apply W7;exact Z;(first|exact Nat.zero_le _|exact Nat.le_trans (Nat.le_of_ble_eq_true rfl) (by assumption));exact Z)
 | ok y=>
  obtain⟨h,r⟩:=y
  rw[hr]at hR
  dsimp only at hR ⊢
  refine Zl Tryd.func54 rfl Tryd.ntmps54 rfl rfl ?_
  repeat'(first|(apply Zb (hR);kernel_rfl;(iterate 4 exact Z))|(apply Zb (ZP 0);kernel_rfl;(iterate 4 exact Z))|(apply Zg Za;exact Z)|(apply Zf Za;exact Z)|(apply Zm 16 ZF;decide +kernel;kernel_rfl;kernel_rfl;kernel_rfl;exact Z;exact Z)|(apply Zq;(iterate 4 exact Z))|exact AE.nil _ _ _ _|(apply Zu;exact Z)|(apply Ye;exact Z)|(apply Uj;exact Z)|(apply ZB;exact Z;exact Z;decide +kernel;exact Z)|(apply ZC;exact Z)|(apply YF;exact Z)|(apply QW;exact Z)|exact AO.nil _ _ _|(apply Zp;(decide +kernel))|(apply Z1;(iterate 3 exact Z))|exact AOs.nil|exact ZH rfl rfl|exact Y4 rfl rfl|exact UT rfl)
  all_goals first|(apply U8 (rfl) [0];(apply Zc Za;exact Z);(iterate 4 exact Z))
  all_goals rfl
theorem TZ (c:UInt8):((c.toNat:Int)==255)=(c==255):=by
 rw[Bool.eq_iff_iff,beq_iff_eq,beq_iff_eq]
 constructor
 ·intro h
  have:c.toNat=(255:UInt8).toNat:=by show c.toNat=255;omega
  exact UInt8.toNat_inj.1 this
 ·rintro rfl;rfl
theorem T0 {b:List UInt8}{p:Nat}(h:p<b.length):∃ c t,b.drop p=c::t/\(b.map E.byte)[((p:Nat):Int).toNat]?=some (E.byte c)/\t=b.drop (p+1):=by
 refine⟨b[p],b.drop (p+1),List.drop_eq_getElem_cons h,?_,rfl⟩
 rw[Int.toNat_natCast,List.getElem?_map,List.getElem?_eq_getElem h];rfl
theorem IL [Known](b:List UInt8)(p m:Nat)(hb:b.length<=140737488351232)(hp:p<=b.length):AQ Tryd.prog 77 [.ptr 0 0] [rdC b p m] (.bool (UG (b.drop p))) [rdC b (if UG (b.drop p)=true then p+1 else p) m]:=by
 have hU:=YK b
 rcases Nat.lt_or_ge p b.length with hlt|hge
 ·obtain⟨c,t,hd,hv,_⟩:=T0 hlt
  have d1:decide ((p:Int)<((b.map E.byte).length:Int))=true:=by simp;omega
  have e1:IntKind.i64.wrap ((p:Int)+1)=((p+1:Nat):Int):=by rw[IntWalk.i64_in _ (by omega)];omega
  have e2:=TZ c
  rw[hd]
  cases hc:c==255 with
  | true=>
   rw[hc]at e2
   have he:UG (c::t)=true:=hc
   rw[he,if_pos rfl]
   refine AQ.weak (Zl Tryd.func77 Z Tryd.ntmps77 Z Z ?_)
   repeat'(first|rw[e1]|rw[e2]|(apply Zg Za;exact Z)|(apply Zf Za;exact Z)|(apply Zs Za;exact Z)|refine Ze Z Z Z Qt ?_|refine Zk Z Qt Z Z ?_|refine Zd Z Qt ?_|refine Zn Za Z Z Z Z ?_|(apply Zm 19 ZF;decide +kernel;kernel_rfl;kernel_rfl;kernel_rfl;exact Z;exact Z)|(apply Zq;(iterate 4 exact Z))|exact AE.nil _ _ _ _|(apply Zu;exact Z)|(apply ZB;exact Z;exact Z;decide +kernel;exact Z)|(apply ZC;exact Z)|exact AO.nil _ _ _|(apply Zp;(decide +kernel))|exact AOs.nil|exact ZH rfl rfl|(apply Zx Za;(iterate 6 exact Z);(first|exact Qt|rotate_left);(first|with_reducible assumption|decide +kernel|exact Z);(first|exact Zj rfl|with_reducible assumption|decide +kernel|rotate_left)))
   all_goals(apply Zr [0];(apply Zc Za;exact Z);(iterate 4 exact Z))
   all_goals rfl
  | false=>
   rw[hc]at e2
   have he:UG (c::t)=false:=hc
   rw[he,if_neg (by simp)]
   refine AQ.weak (Zl Tryd.func77 Z Tryd.ntmps77 Z Z ?_)
   repeat'(first|rw[e2]|(apply Zg Za;exact Z)|(apply Zf Za;exact Z)|(apply Zs Za;exact Z)|refine ZW ?_|refine Ze Z Z Z Qt ?_|refine Zk Z Qt Z Z ?_|refine Zh Z Qt ?_|refine Zn Za Z Z Z Z ?_|(apply Zm 19 ZF;decide +kernel;kernel_rfl;kernel_rfl;kernel_rfl;exact Z;exact Z)|(apply Zq;(iterate 4 exact Z))|exact AE.nil _ _ _ _|(apply Zu;exact Z)|(apply ZB;exact Z;exact Z;decide +kernel;exact Z)|(apply ZC;exact Z)|exact AO.nil _ _ _|(apply Zp;(decide +kernel))|exact AOs.nil|exact ZH rfl rfl|(apply Zx Za;(iterate 6 exact Z);(first|exact Qt|rotate_left);(first|with_reducible assumption|decide +kernel|exact Z);(first|exact Zj rfl|with_reducible assumption|decide +kernel|rotate_left)))
   all_goals(apply Zr [0];(apply Zc Za;exact Z);(iterate 4 exact Z))
   all_goals rfl
 ·have d1:decide ((p:Int)<((b.map E.byte).length:Int))=false:=by simp;omega
  have hd:b.drop p=[]:=List.drop_eq_nil_of_le hge
  rw[hd,if_neg (by simp[UG])]
  refine AQ.weak (Zl Tryd.func77 Z Tryd.ntmps77 Z Z ?_)
  repeat'(first|(apply Zg Za;exact Z)|(apply Zf Za;exact Z)|(apply Zs Za;exact Z)|refine ZW ?_|refine Zt Z Z Z Qt ?_|refine Zi Z Qt Z Z ?_|refine Zh Z Qt ?_|refine Zn Za Z Z Z Z ?_|(apply Zm 19 ZF;decide +kernel;kernel_rfl;kernel_rfl;kernel_rfl;exact Z;exact Z)|(apply Zq;(iterate 4 exact Z))|exact AE.nil _ _ _ _|(apply Zu;exact Z)|(apply ZB;exact Z;exact Z;decide +kernel;exact Z)|(apply ZC;exact Z)|exact AO.nil _ _ _|(apply Zp;(decide +kernel))|exact AOs.nil|exact ZH rfl rfl)
  all_goals(apply Zr [0];(apply Zc Za;exact Z);(iterate 4 exact Z))
  all_goals rfl
theorem K8 [Known][KnownU8](h:Hd)(b:List UInt8)(p m:Nat)(hb:b.length<=140737488351232)(hp:p<=b.length)(hn:h.2.1<18446744073709551616):AR Tryd.prog 78 [.ptr 0 0,hd h] [rdC b p m] (match We h (b.drop p) with
  | .error e=>.error (Vi e)
  | .ok (c,r)=>.ok (byE c,[rdC b (b.length-r.length) m])):=by
 obtain⟨k,n,o⟩:=h
 dsimp only at hn
 show AR Tryd.prog _ [.ptr 0 0,.agg [.int .i64 k,.int .u64 (n:Int),.bool o]] _ _
 have e1:IntKind.i64.wrap (((b.map E.byte).length:Int)-(p:Int))=((b.length-p:Nat):Int):=by rw[List.length_map,IntWalk.i64_in _ (by omega)];omega
 have e2:IntKind.u64.wrap ((b.length-p:Nat):Int)=((b.length-p:Nat):Int):=by rw[IntKind.wrap_u64];omega
 unfold We
 dsimp only
 have hl:(b.drop p).length=b.length-p:=List.length_drop ..
 rw[hl]
 by_cases hle:n<=b.length-p
 ·rw[if_pos hle]
  have d1:decide ((n:Int)<=((b.length-p:Nat):Int))=true:=by simp;omega
  have e3:IntKind.i64.wrap (n:Int)=(n:Int):=IntWalk.i64_in _ (by omega)
  have e4:IntKind.i64.wrap ((p:Int)+(n:Int))=((p+n:Nat):Int):=by rw[IntWalk.i64_in _ (by omega)];omega
  have hs:(b.take (((p+n:Nat):Int)).toNat).drop ((p:Nat):Int).toNat=(b.drop p).take n:=by
   rw[Int.toNat_natCast,Int.toNat_natCast,List.drop_take];congr 1;omega
  have hij:((p:Nat):Int)<=((p+n:Nat):Int):=by omega
  have hj:(((p+n:Nat):Int)).toNat<=b.length:=by omega
  have hcl:((b.drop p).take n).length<=140737488351232:=by rw[List.length_take,hl];omega
  have hU:=YK b
  have c1:=Uy _ hcl
  have c2:=KV _ hcl
  have eR:b.length-((b.drop p).drop n).length=p+n:=by rw[List.length_drop,hl];omega
  by_cases h3:k=3
  ·subst h3
   cases hv:ZD ((b.drop p).take n) with
   | true=>
    rw[hv]at c2
    rw[if_neg (by simp)]
    dsimp only
    rw[eR]
    refine Zl Tryd.func78 rfl Tryd.ntmps78 rfl rfl ?_
    repeat'(first|rw[d1]|rw[e1]|rw[e2]|rw[e3]|rw[e4]|(apply Zb (ZP 8);kernel_rfl;(iterate 4 exact Z))|(apply Zb (ZP 3);kernel_rfl;(iterate 4 exact Z))|(apply Zb (c1);kernel_rfl;(iterate 4 exact Z))|(apply Zb (c2);kernel_rfl;(iterate 4 exact Z))|(apply X6 Za;(iterate 9 exact Z);exact Qb;(first|with_reducible assumption|decide|(simp only[List.length_cons,List.length_drop,List.length_take,List.length_append,Int.toNat_natCast]at *;omega));(first|with_reducible assumption|decide|(simp only[List.length_cons,List.length_drop,List.length_take,List.length_append,Int.toNat_natCast]at *;omega));(first|with_reducible assumption|exact Z))|(apply Zg Za;exact Z)|(apply Zf Za;exact Z)|refine ZW ?_|refine Ze Z Z Z Qt ?_|refine Zi Z Qt Z Z ?_|refine Zn Za Z Z Z Z ?_|(apply Zm 7 ZF;decide +kernel;kernel_rfl;kernel_rfl;kernel_rfl;exact Z;exact Z)|(apply Zm 13 ZF;decide +kernel;kernel_rfl;kernel_rfl;kernel_rfl;exact Z;exact Z)|(apply Zm 16 ZF;decide +kernel;kernel_rfl;kernel_rfl;kernel_rfl;exact Z;exact Z)|(apply Zq;(iterate 4 exact Z))|exact AE.nil _ _ _ _|(apply Zu;exact Z)|(apply ZB;exact Z;exact Z;decide +kernel;exact Z)|(apply ZC;exact Z)|exact AO.nil _ _ _|(apply Zp;(decide +kernel))|exact AOs.nil|exact ZH rfl rfl)
    all_goals(apply U8 (rfl) [0];(apply Zc Za;exact Z);(iterate 4 exact Z))
    all_goals rfl
   | false=>
    rw[hv]at c2
    rw[if_pos ⟨rfl,rfl⟩]
    dsimp only
    refine Zl Tryd.func78 rfl Tryd.ntmps78 rfl rfl ?_
    repeat'(first|rw[d1]|rw[e1]|rw[e2]|rw[e3]|rw[e4]|(apply Zb (ZP 8);kernel_rfl;(iterate 4 exact Z))|(apply Z0 [] (WC 3);kernel_rfl;(iterate 6 exact Z);intro bx2 fr2 hle2)|(apply Zb (c1);kernel_rfl;(iterate 4 exact Z))|(apply Zb (c2);kernel_rfl;(iterate 4 exact Z))|(apply X6 Za;(iterate 9 exact Z);exact Qb;(first|with_reducible assumption|decide|(simp only[List.length_cons,List.length_drop,List.length_take,List.length_append,Int.toNat_natCast]at *;omega));(first|with_reducible assumption|decide|(simp only[List.length_cons,List.length_drop,List.length_take,List.length_append,Int.toNat_natCast]at *;omega));(first|with_reducible assumption|exact Z))|(apply Zg Za;exact Z)|(apply Zf Za;exact Z)|(apply Zs Za;exact Z)|refine ZW ?_|refine Ze Z Z Z Qt ?_|refine Zi Z Qt Z Z ?_|refine Zn Za Z Z Z Z ?_|(apply Zm 13 ZF;decide +kernel;kernel_rfl;kernel_rfl;kernel_rfl;exact Z;exact Z)|(apply Zm 16 ZF;decide +kernel;kernel_rfl;kernel_rfl;kernel_rfl;exact Z;exact Z)|(apply Zq;(iterate 4 exact Z))|exact AE.nil _ _ _ _|(apply Zu;exact Z)|(apply ZB;exact Z;exact Z;decide +kernel;exact Z)|(apply ZC;exact Z)|exact AO.nil _ _ _|(apply Zp;(decide +kernel))|exact AOs.nil|exact ZH rfl rfl)
    all_goals(apply W7;exact Z;(first|exact Nat.zero_le _|exact Nat.le_trans (Nat.le_of_ble_eq_true rfl) (by assumption));exact Z)
  ·have k3:(k != 3)=true:=by simpa using h3
   rw[if_neg (by rintro⟨h,_⟩;exact h3 h)]
   dsimp only
   rw[eR]
   refine Zl Tryd.func78 rfl Tryd.ntmps78 rfl rfl ?_
   repeat'(first|rw[d1]|rw[e1]|rw[e2]|rw[e3]|rw[e4]|(apply Zb (ZP 8);kernel_rfl;(iterate 4 exact Z))|(apply Zb (ZP 3);kernel_rfl;(iterate 4 exact Z))|(apply Zb (c1);kernel_rfl;(iterate 4 exact Z))|(apply X6 Za;(iterate 9 exact Z);exact Qb;(first|with_reducible assumption|decide|(simp only[List.length_cons,List.length_drop,List.length_take,List.length_append,Int.toNat_natCast]at *;omega));(first|with_reducible assumption|decide|(simp only[List.length_cons,List.length_drop,List.length_take,List.length_append,Int.toNat_natCast]at *;omega));(first|with_reducible assumption|exact Z))|(apply Zg Za;exact Z)|(apply Zf Za;exact Z)|refine ZW ?_|refine Zo Z Z Z Qt ?_|refine Zk Z Qt Z Z ?_|refine Zn Za Z Z Z Z ?_|(apply Zm 7 ZF;decide +kernel;kernel_rfl;kernel_rfl;kernel_rfl;exact Z;exact Z)|(apply Zm 13 ZF;decide +kernel;kernel_rfl;kernel_rfl;kernel_rfl;exact Z;exact Z)|(apply Zm 16 ZF;decide +kernel;kernel_rfl;kernel_rfl;kernel_rfl;exact Z;exact Z)|(apply Zq;(iterate 4 exact Z))|exact AE.nil _ _ _ _|(apply Zu;exact Z)|(apply ZB;exact Z;exact Z;decide +kernel;exact Z)|(apply ZC;exact Z)|exact AO.nil _ _ _|(apply Zp;(decide +kernel))|exact AOs.nil|exact ZH rfl rfl)
   all_goals(apply U8 (rfl) [0];(apply Zc Za;exact Z);(iterate 4 exact Z))
   all_goals rfl
 ·rw[if_neg hle]
  dsimp only
  have d1:decide ((n:Int)<=((b.length-p:Nat):Int))=false:=by simp;omega
  refine Zl Tryd.func78 rfl Tryd.ntmps78 rfl rfl ?_
  repeat'(first|rw[d1]|rw[e1]|rw[e2]|(apply Z0 [] (WC 8);kernel_rfl;(iterate 6 exact Z);intro bx2 fr2 hle2)|(apply Zg Za;exact Z)|(apply Zf Za;exact Z)|(apply Zs Za;exact Z)|refine Zn Za Z Z Z Z ?_|(apply Zm 13 ZF;decide +kernel;kernel_rfl;kernel_rfl;kernel_rfl;exact Z;exact Z)|(apply Zq;(iterate 4 exact Z))|exact AE.nil _ _ _ _|(apply Zu;exact Z)|(apply ZB;exact Z;exact Z;decide +kernel;exact Z)|(apply ZC;exact Z)|exact AO.nil _ _ _|(apply Zp;(decide +kernel))|exact AOs.nil|exact ZH rfl rfl)
  all_goals(apply W7;exact Z;(first|exact Nat.zero_le _|exact Nat.le_trans (Nat.le_of_ble_eq_true rfl) (by assumption));exact Z)
end Go.Proofs.YtmljabhmajehnaaDoor
end
