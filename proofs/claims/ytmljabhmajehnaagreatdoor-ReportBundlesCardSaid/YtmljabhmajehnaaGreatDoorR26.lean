/- Package ident: a number's item. -/
import Derived.Test.YtmljabhmajehnaaGreatDoorR24
import Derived.Test.YtmljabhmajehnaaGreatDoorR19
import Derived.Test.YtmljabhmajehnaaGreatDoorR25
import Derived.Test.YtmljabhmajehnaaGreatDoorR11
import Derived.Scope
import Derived.Test.YtmljabhmajehnaaGreatDoorR17
import Derived.Test.YtmljabhmajehnaaGreatDoorR10
import Derived.Test.YtmljabhmajehnaaGreatDoorR13
import Derived.Test.YtmljabhmajehnaaGreatDoorR16
set_option linter.unusedVariables false
set_option linter.unusedSimpArgs false
section
open Go.RowKit Go.Pl Go.Av
namespace Go.Proofs.YtmljabhmajehnaaGreatDoor
set_option maxHeartbeats 4000000
def Yw (x:EidV)(t q:Nat):It:=.mk 4 0 [] [ZY x,.mk 4 0 [] [.mk 0 t [] [],.mk 0 q [] []]]
theorem YG {x:EidV}{t q:Nat}:Yv x t q=true ↔ ZQ x=true/\t<=1099511627776/\q<=1099511627776:=by
 unfold Yv
 simp only[Bool.and_eq_true,decide_eq_true_eq]
 rw[and_assoc]
 exact and_congr Iff.rfl (and_congr (by omega) (by omega))
theorem KW {x:EidV}{t q:Nat}(h:Yv x t q=true):wfI (Yw x t q):=by
 obtain⟨h1,h2,h3⟩:=YG.1 h
 have hw:=VP h1
 unfold Yw
 generalize ZY x=y at *
 simp[wfI,wfs,hw]
 omega
theorem XD [Known](x:EidV)(t q:Nat):AP Tryz.prog 62 [.agg (iC x t q)] (.tup [itD (if Yv x t q then Yw x t q else .mk 0 0 [] []),.int .i64 (if Yv x t q then 0 else 3)]) []:=by
 have hR:=Xv x t q
 cases hr:Yv x t q with
 | false=>
  rw[hr]at hR
  refine AP.ofA (Zl Tryz.func62 U Tryz.ntmps62 U U ?_)
  repeat'(first|(apply Zb (hR);kernel_rfl;(iterate 4 exact U))|(apply Zi Za;exact U)|(apply Zg Za;exact U)|(apply Zp Za;exact U)|refine Zd U Qt ?_)
  all_goals exact Qe
 | true=>
  rw[hr]at hR
  rw[if_pos rfl,if_pos rfl]
  obtain⟨h1,h2,h3⟩:=YG.1 hr
  have hE:=Xx x
  rw[h1,if_pos rfl,if_pos rfl]at hE
  have hw:=VP h1
  have nt:=YT t
  have nq:=YT q
  unfold Yw
  generalize ZY x=y at *
  have hL1:=VG [.mk 0 t [] [],.mk 0 q [] []] (by simp) (by simp[wfI,wfs];omega)
  have hL:=VG [y,.mk 4 0 [] [.mk 0 t [] [],.mk 0 q [] []]] (by simp) (by simp[wfI,wfs,hw];omega)
  obtain⟨k,n,b,l⟩:=y
  replace nt:AP Tryz.prog _ [.int .u64 (t:Int)] (.agg [.int .i64 0,.int .u64 (t:Int),.sl .ext [],.sl .ext []]) []:=nt
  replace nq:AP Tryz.prog _ [.int .u64 (q:Int)] (.agg [.int .i64 0,.int .u64 (q:Int),.sl .ext [],.sl .ext []]) []:=nq
  replace hE:AP Tryz.prog _ [.agg (eC x)] (.tup [.agg [.int .i64 k,.int .u64 (n:Int),byE b,.sl .ext (Zv l)],.int .i64 0]) []:=hE
  replace hL1:AP Tryz.prog _ _ (.agg [.int .i64 4,.int .u64 0,.sl .ext [],.sl .ext [.agg [.int .i64 0,.int .u64 (t:Int),.sl [],.sl []],.agg [.int .i64 0,.int .u64 (q:Int),.sl [],.sl []]]]) []:=hL1
  refine AP.ofA (Zl Tryz.func62 U Tryz.ntmps62 U U ?_)
  repeat'(first|(apply Zb (hR);kernel_rfl;(iterate 4 exact U))|(apply Zb (hE);kernel_rfl;(iterate 4 exact U))|(apply Zb (nt);kernel_rfl;(iterate 4 exact U))|(apply Zb (nq);kernel_rfl;(iterate 4 exact U))|(apply Zb (hL1);kernel_rfl;(iterate 4 exact U))|(apply Zb (hL);kernel_rfl;(iterate 4 exact U))|(apply Zi Za;exact U)|(apply Zg Za;exact U)|(apply Zp Za;exact U)|refine Zf U Qt ?_|refine ZM Za U U U U U U U U U U U U ?_|(apply Zo 13 ZB;decide +kernel;kernel_rfl;kernel_rfl;kernel_rfl;exact U;exact U)|(apply Zs;(iterate 4 exact U))|exact AE.nil _ _ _ _|(apply Zx;exact U)|(apply VW;exact U)|(apply Zz;exact U;exact U;decide +kernel;exact U)|(apply ZA;exact U)|(apply Qs;exact U)|exact AO.nil _ _ _|(apply Zr;(decide +kernel))|(apply ZU;(iterate 3 exact U))|exact AOs.nil|exact ZF rfl rfl|exact WH rfl rfl rfl rfl rfl|exact Ue rfl)
  all_goals exact Qe
def YO (p:PriV):List It:=[.mk 0 7 [] [],.mk 0 p.fl [] [],.mk 0 p.sum.toNat [] [],ZY p.dest,ZY p.src,ZY p.rep,.mk 4 0 [] [.mk 0 p.t [] [],.mk 0 p.q [] []],.mk 0 p.life [] []]
def WJ (p:PriV):It × Int:=match YA p with
 | true=>VO (YO p) 2
 | false=>(z0,3)
theorem VR {p:PriV}(h:YA p=true):0<=p.sum/\p.sum<=2/\ZQ p.dest=true/\ZQ p.rep=true/\Yv p.src p.t p.q=true/\p.life<=1099511627776:=by
 unfold YA at h
 simp only[Bool.and_eq_true,decide_eq_true_eq]at h
 obtain⟨_,h1,h2,h3,h4,h5,h6⟩:=h
 exact⟨h1,h2,h3,h4,h5,by omega⟩
theorem LU {p:PriV}(h:YA p=true)(hfl:p.fl<18446744073709551616):wfs (YO p):=by
 obtain⟨h1,h2,h3,h4,h5,h6⟩:=VR h
 obtain⟨i1,i2,i3⟩:=YG.1 h5
 refine⟨?_,?_,?_,VP h3,VP i1,VP h4,?_,?_,trivial⟩
 all_goals first|(simp[wfI,wfs];done)|(simp[wfI,wfs];omega)
theorem N8 [Known][KnownU8](p:PriV)(hfl:p.fl<18446744073709551616)(hlim:∀ s,s=1\/s=2->(ZI (ZV s (YO p))).length<=1000000000):AP Tryz.prog 107 [.agg (prC p)] (J9 (WJ p)) []:=by
 have hR:=OW p
 unfold WJ
 cases hr:YA p with
 | false=>
  rw[hr]at hR
  obtain⟨fl,sum,⟨di,dn,ds,dh,dd⟩,⟨ri,rn,rs,rh,rd⟩,⟨xi,xn,xs,xh,xd⟩,t,q,life⟩:=p
  dsimp only[z0]at *
  refine AP.ofA (Zl Tryz.func107 U Tryz.ntmps107 U U ?_)
  repeat'(first|(apply Zb (hR);kernel_rfl;(iterate 4 exact U))|(apply Zi Za;exact U)|(apply Zg Za;exact U)|(apply Zp Za;exact U)|refine Zd U Qt ?_)
  all_goals exact Qe
 | true=>
  rw[hr]at hR
  obtain⟨h1,h2,h3,h4,h5,h6⟩:=VR hr
  have hS:=Nc (YO p) 2 (LU hr hfl) (by simp[YO]) hlim
  have hD:=Xx p.dest
  have hP:=Xx p.rep
  have hI:=XD p.src p.t p.q
  rw[if_pos h3,if_pos h3]at hD
  rw[if_pos h4,if_pos h4]at hP
  rw[if_pos h5,if_pos h5]at hI
  have hN:=YT 7
  have hF:=YT p.fl
  have hM:=YT p.sum.toNat
  have hL:=YT p.life
  dsimp only
  generalize VO (YO p) 2=r at *
  unfold YO at hS
  unfold Yw at hI
  obtain⟨fl,sum,⟨di,dn,ds,dh,dd⟩,⟨ri,rn,rs,rh,rd⟩,⟨xi,xn,xs,xh,xd⟩,t,q,life⟩:=p
  dsimp only at *
  generalize ZY ⟨di,dn,ds,dh,dd⟩=I1 at *
  generalize ZY ⟨ri,rn,rs,rh,rd⟩=I2 at *
  generalize ZY ⟨xi,xn,xs,xh,xd⟩=I3 at *
  obtain⟨ak,an,ab,al⟩:=I1
  obtain⟨bk,bn,bb,bl⟩:=I2
  obtain⟨ck,cn,cb,cl⟩:=I3
  obtain⟨⟨k,n,b,l⟩,e⟩:=r
  have es:IntKind.u64.wrap sum=((sum.toNat:Nat):Int):=by rw[IntWalk.u64_in _ (by omega)];omega
  have hU:=YE [It.mk ck cn cb cl,.mk 4 0 [] [.mk 0 t [] [],.mk 0 q [] []]]
  have hv0:(Zv [It.mk ck cn cb cl,.mk 4 0 [] [.mk 0 t [] [],.mk 0 q [] []]])[(0:Int).toNat]?=some (.agg [.int .i64 ck,.int .u64 (cn:Int),.sl (cb.map E.byte),.sl (Zv cl)]):=rfl
  have hv1:(Zv [It.mk ck cn cb cl,.mk 4 0 [] [.mk 0 t [] [],.mk 0 q [] []]])[(1:Int).toNat]?=some (.agg [.int .i64 4,.int .u64 0,.sl [],.sl [nmE t,nmE q]]):=rfl
  generalize hLe:Zv [It.mk ck cn cb cl,.mk 4 0 [] [.mk 0 t [] [],.mk 0 q [] []]]=LL at *
  replace hI:AP Tryz.prog 62 [.agg (iC ⟨xi,xn,xs,xh,xd⟩ t q)] (.tup [.agg [.int .i64 4,.int .u64 0,.sl .ext [],.sl .ext LL],.int .i64 0]) []:=by rw[<- hLe];exact hI
  replace hS:AP Tryz.prog 138 [.sl .ext [nmE 7,nmE fl,nmE sum.toNat,.agg [.int .i64 ak,.int .u64 (an:Int),.sl (ab.map E.byte),.sl (Zv al)],.agg [.int .i64 ck,.int .u64 (cn:Int),.sl (cb.map E.byte),.sl (Zv cl)],.agg [.int .i64 bk,.int .u64 (bn:Int),.sl (bb.map E.byte),.sl (Zv bl)],.agg [.int .i64 4,.int .u64 0,.sl [],.sl [nmE t,nmE q]],nmE life],.int .i64 2] (J9 (.mk k n b l,e)) []:=hS
  refine AP.ofA (Zl Tryz.func107 U Tryz.ntmps107 U U ?_)
  repeat'(first|(apply Zb (hR);kernel_rfl;(iterate 4 exact U))|rw[es]|(apply Zb (hD);kernel_rfl;(iterate 4 exact U))|(apply Zb (hP);kernel_rfl;(iterate 4 exact U))|(apply Zb (hI);kernel_rfl;(iterate 4 exact U))|(apply Zb (hN);kernel_rfl;(iterate 4 exact U))|(apply Zb (hF);kernel_rfl;(iterate 4 exact U))|(apply Zb (hM);kernel_rfl;(iterate 4 exact U))|(apply Zb (hL);kernel_rfl;(iterate 4 exact U))|(apply Zb (hS);kernel_rfl;(iterate 4 exact U))|(apply Zi Za;exact U)|(apply Zg Za;exact U)|(apply Zp Za;exact U)|refine Zf U Qt ?_|refine ZM Za U U U U U U U U U U U U ?_|(apply Zo 21 ZB;decide +kernel;kernel_rfl;kernel_rfl;kernel_rfl;exact U;exact U)|(apply Zs;(iterate 4 exact U))|exact AE.nil _ _ _ _|(apply Zx;exact U)|(apply Zz;exact U;exact U;decide +kernel;exact U)|(apply ZA;exact U)|exact AO.nil _ _ _|(apply Zr;(decide +kernel))|exact AOs.nil|exact ZF rfl rfl|(apply Zu Za;(iterate 6 exact U);(first|exact Qt|rotate_left);(first|with_reducible assumption|decide +kernel|exact U);(first|exact Zk rfl|with_reducible assumption|decide +kernel|rotate_left)))
  all_goals exact Qe
end Go.Proofs.YtmljabhmajehnaaGreatDoor
end
section
open Go.RowKit Go.Pl
namespace Go.Av
theorem Z9 [Known][Dfr]{P:Program}{Q:X->St->Prop}{x:X}{S:St}(h:Q x S):unK P Q [] x S:=h
def X.noGoto (Q:X->St->Prop):X->St->Prop
 | .goto _,_=>False
 | x,S=>Q x S
theorem UR [Known][Dfr]{P:Program}{Q:X->St->Prop}{S:St}{c:Code}(h:AW P c S (X.noGoto Q)):AW P (.scope c) S Q:=⟨fun b0 g a w hi=>wp_scope_straight <| wp_mono (h.run b0 g a w hi) fun e a w hc=>by
 cases e<;>simp only[VT,X.noGoto,Exit.noGoto]at hc ⊢
 case goto l=>obtain⟨S,g,h1,h2⟩:=hc;exact h2
 all_goals exact hc⟩
section
variable {P:Program} {Q:X->St->Prop} {n:Nat} {ee:Nat × Nat} {tm:List (Nat × D)} {bx:List (List D)} {fr:List Fr} {T:Tab}
variable {ops:Array Oper} {rest:List Oper} {t ty:Nat} {pos:String} {after:Array Edge}
end
end Go.Av
end
section
open Go.RowKit Go.Pl Go.Av
namespace Go.Proofs.YtmljabhmajehnaaGreatDoor
set_option maxHeartbeats 4000000
def rdD (r:Hd × Nat × Nat):D:=.tup [hd r.1,.int .i64 (r.2.1:Int),.int .i64 (r.2.2:Int)]
theorem G4 (b:List UInt8)(p:Int)(h0:0<=p)(h1:p<(b.length:Int)):∃ c r,b.drop p.toNat=c::r/\r.length+p.toNat+1=b.length/\(b.map E.byte)[p.toNat]?=some (E.byte c)/\∀ j:Nat,j<r.length->(b.map E.byte)[p.toNat+1+j]?=(r.map E.byte)[j]? := by
 have h:p.toNat<b.length:=by omega
 refine⟨b[p.toNat],b.drop (p.toNat+1),List.drop_eq_getElem_cons h,by rw[List.length_drop];omega,by simp[h],fun j hj=>by simp[List.getElem?_drop]⟩
theorem Fl (c:UInt8):((c.toNat:Int)).fdiv (2 ^ min (Int.toNat 5) IntKind.u8.bits)=((c.toNat/32:Nat):Int):=by
 rw[show min (Int.toNat 5) IntKind.u8.bits=5 from rfl,Int.fdiv_eq_ediv_of_nonneg _ (by decide)]
 omega
theorem Xa {b:List UInt8}{p:Nat}{c:UInt8}{r:List UInt8}(h:b.drop p=c::r)(h1:c.toNat % 32<24):YL b p=((((c.toNat/32:Nat):Int),c.toNat % 32,false),p+1,0):=by
 unfold YL;rw[h];simp only;rw[if_pos h1]
theorem KX {b:List UInt8}{p:Nat}{c:UInt8}{r:List UInt8}(h:b.drop p=c::r)(h1:c.toNat % 32=31)(h2:Jm (c.toNat/32:Nat)=true):YL b p=((((c.toNat/32:Nat):Int),0,true),p+1,0):=by
 unfold YL;rw[h];simp only;rw[if_neg (by omega),if_pos ⟨h1,h2⟩]
theorem XF {b:List UInt8}{p:Nat}{c:UInt8}{r:List UInt8}(h:b.drop p=c::r)(h1:27<c.toNat % 32)(h2:c.toNat % 32=31->Jm (c.toNat/32:Nat)=false):YL b p=((0,0,false),0,3):=by
 unfold YL;rw[h];simp only;rw[if_neg (by omega),if_neg (fun hh=>by have:=h2 hh.1;rw[hh.2]at this;cases this),if_pos h1]
theorem X8 {b:List UInt8}{p:Nat}{c:UInt8}{r:List UInt8}(h:b.drop p=c::r)(h1:¬ c.toNat % 32<24)(h2:¬ 27<c.toNat % 32)(h3:r.length<2 ^ (c.toNat % 32-24)):YL b p=((0,0,false),0,8):=by
 unfold YL;rw[h];simp only;rw[if_neg h1,if_neg (by omega),if_neg h2,if_pos h3]
theorem KY {b:List UInt8}{p:Nat}{c:UInt8}{r:List UInt8}(h:b.drop p=c::r)(h1:¬ c.toNat % 32<24)(h2:¬ 27<c.toNat % 32)(h3:¬ r.length<2 ^ (c.toNat % 32-24)):YL b p=((((c.toNat/32:Nat):Int),WL (r.take (2 ^ (c.toNat % 32-24))),false),p+1+2 ^ (c.toNat % 32-24),0):=by
 unfold YL;rw[h];simp only;rw[if_neg h1,if_neg (by omega),if_neg h2,if_neg h3]
theorem Tl (v:Nat)(h:¬ v<24)(h':¬ 27<v):IntKind.i64.wrap (1*2 ^ min (IntKind.u8.wrap ((v:Int)-24)).toNat IntKind.i64.bits)=((2 ^ (v-24):Nat):Int)/\2 ^ (v-24)<=8:=by
 obtain rfl|rfl|rfl|rfl:v=24\/v=25\/v=26\/v=27:=by omega
 all_goals decide
theorem Sn [Known](b:List UInt8)(p:Int)(hb:b.length<=4611686018427387904):AP Tryz.prog 163 [byE b,.int .i64 p] (rdD (Qv b p)) []:=by
 have HB:=hid hb
 clear hb
 have HU:=Yr b
 refine Zl Tryz.func163 rfl Tryz.ntmps163 rfl rfl ?_
 repeat'(first|(apply Zi Za;exact U)|(apply Zg Za;exact U)|(apply Zp Za;exact U)|(apply Ze;(iterate 3 exact U);(first|with_reducible assumption|(solve|simp only[bn])))|(apply Zm;(iterate 3 exact U);(first|with_reducible assumption|(solve|simp only[bn])))|(apply YB;exact U;exact U;all_goals intro hb)|(apply Zj;exact U;(first|with_reducible assumption|(solve|simp only[bn]));exact U;exact U)|(apply Zh;exact U;(first|with_reducible assumption|(solve|simp only[bn]));exact U;exact U)|(apply Zd;exact U;(first|with_reducible assumption|(solve|simp only[bn])))|(apply YR;exact U;all_goals intro hb)|refine Zn Za U U U U ?_)
 ·(apply Uc (ts:=[]);(apply Zc Za;exact U);exact ZD _;exact U;rotate_left;exact U)
  have:p<0:=of_decide_eq_true hb
  rw[show Qv b p=_ from if_pos (.inl this)];rfl
 ·(apply Uc (ts:=[]);(apply Zc Za;exact U);exact ZD _;exact U;rotate_left;exact U)
  have:p>((b.map E.byte).length:Int):=of_decide_eq_true hb
  rw[List.length_map]at this
  rw[show Qv b p=_ from if_pos (.inr this)];rfl
 ·(apply Uc (ts:=[]);(apply Zc Za;exact U);exact ZD _;exact U;rotate_left;exact U)
  have:p=((b.map E.byte).length:Int):=by simpa using hb
  rw[List.length_map]at this
  have hd:b.drop p.toNat=[]:=by rw[List.drop_eq_nil_iff];omega
  rw[show Qv b p=YL b p.toNat from if_neg (by omega)]
  unfold YL
  rw[hd];rfl
 rename_i g1 g2
 have h0:0<=p:=by have:=of_decide_eq_false g1;omega
 have h1:p<(b.length:Int):=by
  have a1:=of_decide_eq_false g2
  rw[List.length_map]at a1 hb
  have a2:p ≠ (b.length:Int):=by simpa using hb
  omega
 obtain⟨c,r,hd,hl,hv,hr⟩:=G4 b p h0 h1
 have HH:=hid (show Qv b p=YL b p.toNat from if_neg (by omega))
 have HD:=hid hd
 have HL:=hid hl
 have HR:=hid hr
 have e1:IntKind.i64.wrap ((c.toNat/32:Nat):Int)=((c.toNat/32:Nat):Int):=IntWalk.i64_in _ (by have:=c.toNat_lt;omega)
 have e2:IntKind.u64.wrap ((c.toNat % 32:Nat):Int)=((c.toNat % 32:Nat):Int):=by rw[IntKind.wrap_u64];omega
 have e3:IntKind.i64.wrap (p+1)=((p.toNat+1:Nat):Int):=by have:=HB.out;rw[IntWalk.i64_in _ (by omega)];omega
 clear hb g1 g2 hd hl hr
 repeat'(first|rw[Df c]|rw[Fl c]|rw[e1]|rw[e2]|rw[e3]|(apply VJ (Lt _);kernel_rfl;(iterate 4 exact U))|(apply Zi Za;exact U)|(apply Zg Za;exact U)|(apply Zp Za;exact U)|(apply Ze;(iterate 3 exact U);(first|with_reducible assumption|(solve|simp only[bn])))|(apply Zt;(iterate 3 exact U);(first|with_reducible assumption|(solve|simp only[bn])))|(apply YB;exact U;exact U;all_goals intro hb)|(apply Zj;exact U;(first|with_reducible assumption|(solve|simp only[bn]));exact U;exact U)|(apply Zh;exact U;(first|with_reducible assumption|(solve|simp only[bn]));exact U;exact U)|(apply Zf;exact U;(first|with_reducible assumption|(solve|simp only[bn])))|(apply YR;exact U;all_goals intro hb)|refine Zn Za U U U U ?_|(apply Zu Za;(iterate 6 exact U);(first|exact Qb|rotate_left);(first|with_reducible assumption|exact U);(first|exact Zk rfl|with_reducible assumption|rotate_left))|(apply YQ;exact U;exact U;(first|exact Qb|rotate_left);exact U)|(apply Ix;exact U;exact U;(first|exact Qb|rotate_left);exact U))
 ·(apply Uc (ts:=[]);(apply Zc Za;exact U);exact ZD _;exact U;rotate_left;exact U)
  rw[HH.out,Xa HD.out (by have:=of_decide_eq_true hb;omega)];rfl
 ·(apply Uc (ts:=[]);(apply Zc Za;exact U);exact ZD _;exact U;rotate_left;exact U)
  rw[HH.out,KX HD.out (by have:=of_decide_eq_false (‹decide _=false›);simp at *;omega) hb];rfl
 iterate 2
  ·(apply Uc (ts:=[]);(apply Zc Za;exact U);exact ZD _;exact U;rotate_left;exact U)
   rw[HH.out,XF HD.out (by have:=of_decide_eq_true hb;omega) (by intro hh;first|assumption|simp_all)];rfl
  ·(apply Uc (ts:=[]);(apply Zc Za;exact U);exact ZD _;exact U;rotate_left;exact U)
   have g1:=of_decide_eq_true hb
   have g2:=of_decide_eq_false (‹decide (((c.toNat % 32:Nat):Int)>27)=false›)
   have g3:=of_decide_eq_false (‹decide (((c.toNat % 32:Nat):Int)<24)=false›)
   have g4:=Tl (c.toNat % 32) (by omega) (by omega)
   have g5:=HL.out
   have g6:=HB.out
   rw[g4.1,List.length_map,IntWalk.i64_in _ (by omega)]at g1
   rw[HH.out,X8 HD.out (by omega) (by omega) (by omega)];rfl
  ·have g1:=of_decide_eq_false hb
   have g2:=of_decide_eq_false (‹decide (((c.toNat % 32:Nat):Int)>27)=false›)
   have g3:=of_decide_eq_false (‹decide (((c.toNat % 32:Nat):Int)<24)=false›)
   have g4:=Tl (c.toNat % 32) (by omega) (by omega)
   have g5:=HL.out
   have g6:=HB.out
   rw[g4.1,List.length_map,IntWalk.i64_in _ (by omega)]at g1
   rw[g4.1]
   have g7:=HH.out.trans (KY HD.out (by omega) (by omega) (by omega))
   generalize 2 ^ (c.toNat % 32-24)=m at g1 g4 g7 ⊢
   have g8:=g4.2
   have G7:=hid g7
   clear hb g2 g3 g4 g7
   refine ZJ (fun k tm bx fr=>∃ i,k+i=m/\tm=[(75,.int .i64 (i:Int)),(74,.int .i64 (m:Int)),(9,.int .i64 (m:Int)),(7,.ptr 1 0),(1,.int .i64 ((p.toNat+1:Nat):Int)),(0,byE b),(4,.ptr 0 0)]/\bx=[[.int .i64 0,.int .u64 0,.bool false],[.int .i64 ((c.toNat/32:Nat):Int),.int .u64 (WL (r.take i):Nat),.bool false]]/\fr=[]) (m+1) (Lands.mk' (m:=m) (Nat.lt_succ_self _) ⟨0,rfl,rfl,rfl,rfl⟩ ?_ rfl rfl rfl rfl rfl rfl) ?_
   ·repeat'(first|exact Av.Sub.nil|refine Av.Sub.cons rfl ?_)
   rintro k tm bx fr ⟨i,hk,rfl,rfl,rfl⟩
   rcases Nat.lt_or_ge i m with hlt|hge
   ·have hd:decide ((i:Int)<(m:Int))=true:=by simp;omega
    have hir:i<r.length:=by omega
    have hv':(b.map E.byte)[((p.toNat+1+i:Nat):Int).toNat]?=some (E.byte r[i]):=by
     rw[Int.toNat_natCast,HR.out i hir];simp[hir]
    have e4:IntKind.i64.wrap (((p.toNat+1:Nat):Int)+(i:Int))=((p.toNat+1+i:Nat):Int):=by rw[IntWalk.i64_in _ (by omega)];omega
    have e7:IntKind.i64.wrap ((i:Int)+1)=((i+1:Nat):Int):=by rw[IntWalk.i64_in _ (by omega)];omega
    have e6:IntKind.u64.wrap ((r[i].toNat:Nat):Int)=((r[i].toNat:Nat):Int):=by have:=r[i].toNat_lt;rw[IntKind.wrap_u64];omega
    have e5:bits .or .u64 (IntKind.u64.wrap (((WL (r.take i):Nat):Int)*2 ^ min (Int.toNat 8) IntKind.u64.bits)) ((r[i].toNat:Nat):Int)=((WL (r.take (i+1)):Nat):Int):=by
     have h9:=H1 (WL (r.take i)) r[i] (Js r i (by omega))
     rw[show((2:Int) ^ min (Int.toNat 8) IntKind.u64.bits)=256 from rfl,h9.1,h9.2,ON r i hir]
    repeat'(first|rw[e4]|rw[e5]|rw[e6]|rw[e7]|(apply Zi Za;exact U)|(apply Zg Za;exact U)|(apply Zd;exact U;(first|with_reducible assumption|(solve|simp only[bn])))|(apply ZT 10 ZB;decide +kernel;kernel_rfl;kernel_rfl;exact U;exact U)|(apply Z4;(iterate 3 exact U))|refine AD.nil _|exact Yx rfl|(apply Zu Za;(iterate 6 exact U);(first|exact Qb|rotate_left);(first|with_reducible assumption|exact U);(first|exact Zk rfl|with_reducible assumption|rotate_left))|(apply Ix;exact U;exact U;(first|exact Qb|rotate_left);exact U))
    refine Lands.mk' (m:=k-1) (by omega) ⟨i+1,by omega,rfl,rfl,rfl⟩ ?_ rfl rfl rfl rfl rfl rfl
    repeat'(first|exact Av.Sub.nil|refine Av.Sub.cons rfl ?_)
   ·have hd:decide ((i:Int)<(m:Int))=false:=by simp;omega
    repeat'(first|(apply Zg Za;exact U)|(apply Zf;exact U;(first|with_reducible assumption|(solve|simp only[bn]))))
    (apply Uc (ts:=[]);(apply Zc Za;exact U);exact ZD _;exact U;rotate_left;exact U)
    have h9:i=m:=by omega
    subst h9
    rw[G7.out,IntWalk.i64_in _ (by omega)]
    rfl
  ·have g2:=of_decide_eq_false hb
   have g3:=of_decide_eq_false (‹decide (((c.toNat % 32:Nat):Int)<24)=false›)
   rw[IntKind.wrap_u8'];omega
abbrev Uj (e:Nat):D:=.iface 175 (.agg [.int .i64 (e:Int)])
abbrev rdC (b:List UInt8)(p m:Nat):List D:=[byE b,.int .i64 (p:Int),.int .i64 (m:Int)]
theorem ZZ [Known](e:Int):AP Tryz.prog 141 [.bool true,.int .i64 e] (.tup []) []:=by
 refine AP.ofA (Zl Tryz.func141 U Tryz.ntmps141 U U ?_)
 repeat'(first|(apply Zg Za;exact U)|(apply Zf;exact U;(first|with_reducible assumption|(solve|simp only[bn]))))
 all_goals refine De [] ResL.nil U U U U ?_ ?_
 all_goals rfl
theorem Vo [Known](e:Nat):AX Tryz.prog 141 [.bool false,.int .i64 (e:Int)] [] (Uj e):=by
 refine Zl Tryz.func141 rfl Tryz.ntmps141 rfl rfl ?_
 repeat'(first|(apply Zg Za;exact U)|refine NO U U ?_|(apply Zd;exact U;(first|with_reducible assumption|(solve|simp only[bn])))|refine IC Za U U U U ?_)
 all_goals exact⟨[],[],ZD _,ZD _,fun i h=>by simp at h,fun i h=>by simp at h,rfl,Nat.zero_le _⟩
theorem IP {s:List UInt8}{e:Nat}(h:rdS s=.error e):e=8\/e=3:=by
 cases s with
 | nil=>simp[rdS]at h;exact .inl h.symm
 | cons c t=>
  simp only[rdS]at h
  split at h
  ·cases h
  split at h
  ·cases h
  split at h
  ·injection h with h;exact .inr h.symm
  split at h
  ·injection h with h;exact .inl h.symm
  ·cases h
theorem XG (b:List UInt8)(p:Nat)(hp:p<=b.length):Qv b (p:Int)=match rdS (b.drop p) with
  | .error e=>((0,0,false),0,e)
  | .ok (h,r)=>(h,b.length-r.length,0):=by
 have h:=Xr b p hp
 rw[Qv,if_neg (by omega),Int.toNat_natCast]
 exact h
theorem G5 [Known](b:List UInt8)(p m:Nat)(hb:b.length<=1099511627776)(hp:p<=b.length):AR Tryz.prog 140 [.ptr 0 0] [rdC b p m] (match rdS (b.drop p) with
  | .error e=>.error (Uj e)
  | .ok (h,r)=>.ok (hd h,[rdC b (b.length-r.length) m])):=by
 have hR:=Sn b (p:Int) (by omega)
 rw[XG b p hp]at hR
 cases hr:rdS (b.drop p) with
 | error e=>
  rw[hr]at hR
  dsimp only at hR ⊢
  have he:((e:Int)==0)=false:=by rcases IP hr with rfl|rfl<;>rfl
  refine Zl Tryz.func140 rfl Tryz.ntmps140 rfl rfl ?_
  repeat'(first|(apply Zb (hR);kernel_rfl;(iterate 4 exact U))|rw[he]|(apply Yk [] (Vo e);kernel_rfl;(iterate 6 exact U);intro bx2 fr2 hle2)|(apply Zi Za;exact U)|(apply Zg Za;exact U)|(apply Zp Za;exact U)|(apply Zo 16 ZB;decide +kernel;kernel_rfl;kernel_rfl;kernel_rfl;exact U;exact U)|(apply Zs;(iterate 4 exact U))|exact AE.nil _ _ _ _|(apply Zx;exact U)|(apply Z1;exact U)|(apply IF;exact U)|(apply Zz;exact U;exact U;decide +kernel;exact U)|(apply ZA;exact U)|(apply Ym;exact U)|(apply T0;exact U)|exact AO.nil _ _ _|(apply Zr;(decide +kernel))|(apply ZU;(iterate 3 exact U))|exact AOs.nil|exact ZF rfl rfl|exact IG rfl|exact YK rfl rfl)
  all_goals first|(apply V0;exact U;(first|exact Nat.zero_le _|exact Nat.le_trans (Nat.le_of_ble_eq_true rfl) (by assumption));exact U)
 | ok y=>
  obtain⟨h,r⟩:=y
  rw[hr]at hR
  dsimp only at hR ⊢
  refine Zl Tryz.func140 rfl Tryz.ntmps140 rfl rfl ?_
  repeat'(first|(apply Zb (hR);kernel_rfl;(iterate 4 exact U))|(apply Zb (ZZ 0);kernel_rfl;(iterate 4 exact U))|(apply Zi Za;exact U)|(apply Zg Za;exact U)|(apply Zo 16 ZB;decide +kernel;kernel_rfl;kernel_rfl;kernel_rfl;exact U;exact U)|(apply Zs;(iterate 4 exact U))|exact AE.nil _ _ _ _|(apply Zx;exact U)|(apply Z1;exact U)|(apply VW;exact U)|(apply Zz;exact U;exact U;decide +kernel;exact U)|(apply ZA;exact U)|(apply Ym;exact U)|(apply Qs;exact U)|exact AO.nil _ _ _|(apply Zr;(decide +kernel))|(apply ZU;(iterate 3 exact U))|exact AOs.nil|exact ZF rfl rfl|exact YK rfl rfl|exact Ue rfl)
  all_goals first|(apply J1 (rfl) [0];(apply Zc Za;exact U);(iterate 4 exact U))
  all_goals rfl
theorem No (c:UInt8):((c.toNat:Int)==255)=(c==255):=by
 rw[Bool.eq_iff_iff,beq_iff_eq,beq_iff_eq]
 constructor
 ·intro h
  have:c.toNat=(255:UInt8).toNat:=by show c.toNat=255;omega
  exact UInt8.toNat_inj.1 this
 ·rintro rfl;rfl
theorem IQ {b:List UInt8}{p:Nat}(h:p<b.length):∃ c t,b.drop p=c::t/\(b.map E.byte)[((p:Nat):Int).toNat]?=some (E.byte c)/\t=b.drop (p+1):=by
 refine⟨b[p],b.drop (p+1),List.drop_eq_getElem_cons h,?_,rfl⟩
 rw[Int.toNat_natCast,List.getElem?_map,List.getElem?_eq_getElem h];rfl
theorem Np [Known](b:List UInt8)(p m:Nat)(hb:b.length<=1099511627776)(hp:p<=b.length):AQ Tryz.prog 164 [.ptr 0 0] [rdC b p m] (.bool (UH (b.drop p))) [rdC b (if UH (b.drop p)=true then p+1 else p) m]:=by
 have hU:=Yr b
 rcases Nat.lt_or_ge p b.length with hlt|hge
 ·obtain⟨c,t,hd,hv,_⟩:=IQ hlt
  have d1:decide ((p:Int)<((b.map E.byte).length:Int))=true:=by simp;omega
  have e1:IntKind.i64.wrap ((p:Int)+1)=((p+1:Nat):Int):=by rw[IntWalk.i64_in _ (by omega)];omega
  have e2:=No c
  rw[hd]
  cases hc:c==255 with
  | true=>
   rw[hc]at e2
   have he:UH (c::t)=true:=hc
   rw[he,if_pos rfl]
   refine AQ.weak (Zl Tryz.func164 U Tryz.ntmps164 U U ?_)
   repeat'(first|rw[e1]|rw[e2]|(apply Zi Za;exact U)|(apply Zg Za;exact U)|(apply Zp Za;exact U)|refine Ze U U U Qt ?_|refine Zj U Qt U U ?_|refine Zd U Qt ?_|refine Zn Za U U U U ?_|(apply Zo 19 ZB;decide +kernel;kernel_rfl;kernel_rfl;kernel_rfl;exact U;exact U)|(apply Zs;(iterate 4 exact U))|exact AE.nil _ _ _ _|(apply Zx;exact U)|(apply Zz;exact U;exact U;decide +kernel;exact U)|(apply ZA;exact U)|exact AO.nil _ _ _|(apply Zr;(decide +kernel))|exact AOs.nil|exact ZF rfl rfl|(apply Zu Za;(iterate 6 exact U);(first|exact Qt|rotate_left);(first|with_reducible assumption|decide +kernel|exact U);(first|exact Zk rfl|with_reducible assumption|decide +kernel|rotate_left)))
   all_goals(apply Zq [0];(apply Zc Za;exact U);(iterate 4 exact U))
   all_goals rfl
  | false=>
   rw[hc]at e2
   have he:UH (c::t)=false:=hc
   rw[he,if_neg (by simp)]
   refine AQ.weak (Zl Tryz.func164 U Tryz.ntmps164 U U ?_)
   repeat'(first|rw[e2]|(apply Zi Za;exact U)|(apply Zg Za;exact U)|(apply Zp Za;exact U)|refine Z9 ?_|refine Ze U U U Qt ?_|refine Zj U Qt U U ?_|refine Zf U Qt ?_|refine Zn Za U U U U ?_|(apply Zo 19 ZB;decide +kernel;kernel_rfl;kernel_rfl;kernel_rfl;exact U;exact U)|(apply Zs;(iterate 4 exact U))|exact AE.nil _ _ _ _|(apply Zx;exact U)|(apply Zz;exact U;exact U;decide +kernel;exact U)|(apply ZA;exact U)|exact AO.nil _ _ _|(apply Zr;(decide +kernel))|exact AOs.nil|exact ZF rfl rfl|(apply Zu Za;(iterate 6 exact U);(first|exact Qt|rotate_left);(first|with_reducible assumption|decide +kernel|exact U);(first|exact Zk rfl|with_reducible assumption|decide +kernel|rotate_left)))
   all_goals(apply Zq [0];(apply Zc Za;exact U);(iterate 4 exact U))
   all_goals rfl
 ·have d1:decide ((p:Int)<((b.map E.byte).length:Int))=false:=by simp;omega
  have hd:b.drop p=[]:=List.drop_eq_nil_of_le hge
  rw[hd,if_neg (by simp[UH])]
  refine AQ.weak (Zl Tryz.func164 U Tryz.ntmps164 U U ?_)
  repeat'(first|(apply Zi Za;exact U)|(apply Zg Za;exact U)|(apply Zp Za;exact U)|refine Z9 ?_|refine Zt U U U Qt ?_|refine Zh U Qt U U ?_|refine Zf U Qt ?_|refine Zn Za U U U U ?_|(apply Zo 19 ZB;decide +kernel;kernel_rfl;kernel_rfl;kernel_rfl;exact U;exact U)|(apply Zs;(iterate 4 exact U))|exact AE.nil _ _ _ _|(apply Zx;exact U)|(apply Zz;exact U;exact U;decide +kernel;exact U)|(apply ZA;exact U)|exact AO.nil _ _ _|(apply Zr;(decide +kernel))|exact AOs.nil|exact ZF rfl rfl)
  all_goals(apply Zq [0];(apply Zc Za;exact U);(iterate 4 exact U))
  all_goals rfl
theorem G6 [Known][KnownU8](h:Hd)(b:List UInt8)(p m:Nat)(hb:b.length<=1099511627776)(hp:p<=b.length)(hn:h.2.1<18446744073709551616):AR Tryz.prog 165 [.ptr 0 0,hd h] [rdC b p m] (match Wd h (b.drop p) with
  | .error e=>.error (Uj e)
  | .ok (c,r)=>.ok (byE c,[rdC b (b.length-r.length) m])):=by
 obtain⟨k,n,o⟩:=h
 dsimp only at hn
 show AR Tryz.prog _ [.ptr 0 0,.agg [.int .i64 k,.int .u64 (n:Int),.bool o]] _ _
 have e1:IntKind.i64.wrap (((b.map E.byte).length:Int)-(p:Int))=((b.length-p:Nat):Int):=by rw[List.length_map,IntWalk.i64_in _ (by omega)];omega
 have e2:IntKind.u64.wrap ((b.length-p:Nat):Int)=((b.length-p:Nat):Int):=by rw[IntKind.wrap_u64];omega
 unfold Wd
 dsimp only
 have hl:(b.drop p).length=b.length-p:=List.length_drop ..
 rw[hl]
 by_cases hle:n<=b.length-p
 ·rw[if_pos hle]
  have d1:decide ((n:Int)<=((b.length-p:Nat):Int))=true:=by simp;omega
  have e3:IntKind.i64.wrap (n:Int)=(n:Int):=IntWalk.i64_in _ (by omega)
  have e4:IntKind.i64.wrap ((p:Int)+(n:Int))=((p+n:Nat):Int):=by rw[IntWalk.i64_in _ (by omega)];omega
  have hs:(b.take (((p+n:Nat):Int)).toNat).drop ((p:Nat):Int).toNat=(b.drop p).take n:=by
   rw[Int.toNat_natCast,Int.toNat_natCast,List.drop_take];congr 1;omega
  have hij:((p:Nat):Int)<=((p+n:Nat):Int):=by omega
  have hj:(((p+n:Nat):Int)).toNat<=b.length:=by omega
  have hcl:((b.drop p).take n).length<=140737488351232:=by rw[List.length_take,hl];omega
  have hU:=Yr b
  have c1:=Q8 _ hcl
  have c2:=GF _ hcl
  have eR:b.length-((b.drop p).drop n).length=p+n:=by rw[List.length_drop,hl];omega
  by_cases h3:k=3
  ·subst h3
   cases hv:ZH ((b.drop p).take n) with
   | true=>
    rw[hv]at c2
    rw[if_neg (by simp)]
    dsimp only
    rw[eR]
    refine Zl Tryz.func165 rfl Tryz.ntmps165 rfl rfl ?_
    repeat'(first|rw[d1]|rw[e1]|rw[e2]|rw[e3]|rw[e4]|(apply Zb (ZZ 8);kernel_rfl;(iterate 4 exact U))|(apply Zb (ZZ 3);kernel_rfl;(iterate 4 exact U))|(apply Zb (c1);kernel_rfl;(iterate 4 exact U))|(apply Zb (c2);kernel_rfl;(iterate 4 exact U))|(apply QZ Za;(iterate 9 exact U);exact Qb;(first|with_reducible assumption|decide|(simp only[List.length_cons,List.length_drop,List.length_take,List.length_append,Int.toNat_natCast]at *;omega));(first|with_reducible assumption|decide|(simp only[List.length_cons,List.length_drop,List.length_take,List.length_append,Int.toNat_natCast]at *;omega));(first|with_reducible assumption|exact U))|(apply Zi Za;exact U)|(apply Zg Za;exact U)|refine Z9 ?_|refine Ze U U U Qt ?_|refine Zh U Qt U U ?_|refine Zn Za U U U U ?_|(apply Zo 7 ZB;decide +kernel;kernel_rfl;kernel_rfl;kernel_rfl;exact U;exact U)|(apply Zo 13 ZB;decide +kernel;kernel_rfl;kernel_rfl;kernel_rfl;exact U;exact U)|(apply Zo 16 ZB;decide +kernel;kernel_rfl;kernel_rfl;kernel_rfl;exact U;exact U)|(apply Zs;(iterate 4 exact U))|exact AE.nil _ _ _ _|(apply Zx;exact U)|(apply Zz;exact U;exact U;decide +kernel;exact U)|(apply ZA;exact U)|exact AO.nil _ _ _|(apply Zr;(decide +kernel))|exact AOs.nil|exact ZF rfl rfl)
    all_goals(apply J1 (rfl) [0];(apply Zc Za;exact U);(iterate 4 exact U))
    all_goals rfl
   | false=>
    rw[hv]at c2
    rw[if_pos ⟨rfl,rfl⟩]
    dsimp only
    refine Zl Tryz.func165 rfl Tryz.ntmps165 rfl rfl ?_
    repeat'(first|rw[d1]|rw[e1]|rw[e2]|rw[e3]|rw[e4]|(apply Zb (ZZ 8);kernel_rfl;(iterate 4 exact U))|(apply Yk [] (Vo 3);kernel_rfl;(iterate 6 exact U);intro bx2 fr2 hle2)|(apply Zb (c1);kernel_rfl;(iterate 4 exact U))|(apply Zb (c2);kernel_rfl;(iterate 4 exact U))|(apply QZ Za;(iterate 9 exact U);exact Qb;(first|with_reducible assumption|decide|(simp only[List.length_cons,List.length_drop,List.length_take,List.length_append,Int.toNat_natCast]at *;omega));(first|with_reducible assumption|decide|(simp only[List.length_cons,List.length_drop,List.length_take,List.length_append,Int.toNat_natCast]at *;omega));(first|with_reducible assumption|exact U))|(apply Zi Za;exact U)|(apply Zg Za;exact U)|(apply Zp Za;exact U)|refine Z9 ?_|refine Ze U U U Qt ?_|refine Zh U Qt U U ?_|refine Zn Za U U U U ?_|(apply Zo 13 ZB;decide +kernel;kernel_rfl;kernel_rfl;kernel_rfl;exact U;exact U)|(apply Zo 16 ZB;decide +kernel;kernel_rfl;kernel_rfl;kernel_rfl;exact U;exact U)|(apply Zs;(iterate 4 exact U))|exact AE.nil _ _ _ _|(apply Zx;exact U)|(apply Zz;exact U;exact U;decide +kernel;exact U)|(apply ZA;exact U)|exact AO.nil _ _ _|(apply Zr;(decide +kernel))|exact AOs.nil|exact ZF rfl rfl)
    all_goals(apply V0;exact U;(first|exact Nat.zero_le _|exact Nat.le_trans (Nat.le_of_ble_eq_true rfl) (by assumption));exact U)
  ·have k3:(k != 3)=true:=by simpa using h3
   rw[if_neg (by rintro⟨h,_⟩;exact h3 h)]
   dsimp only
   rw[eR]
   refine Zl Tryz.func165 rfl Tryz.ntmps165 rfl rfl ?_
   repeat'(first|rw[d1]|rw[e1]|rw[e2]|rw[e3]|rw[e4]|(apply Zb (ZZ 8);kernel_rfl;(iterate 4 exact U))|(apply Zb (ZZ 3);kernel_rfl;(iterate 4 exact U))|(apply Zb (c1);kernel_rfl;(iterate 4 exact U))|(apply QZ Za;(iterate 9 exact U);exact Qb;(first|with_reducible assumption|decide|(simp only[List.length_cons,List.length_drop,List.length_take,List.length_append,Int.toNat_natCast]at *;omega));(first|with_reducible assumption|decide|(simp only[List.length_cons,List.length_drop,List.length_take,List.length_append,Int.toNat_natCast]at *;omega));(first|with_reducible assumption|exact U))|(apply Zi Za;exact U)|(apply Zg Za;exact U)|refine Z9 ?_|refine Zm U U U Qt ?_|refine Zj U Qt U U ?_|refine Zn Za U U U U ?_|(apply Zo 7 ZB;decide +kernel;kernel_rfl;kernel_rfl;kernel_rfl;exact U;exact U)|(apply Zo 13 ZB;decide +kernel;kernel_rfl;kernel_rfl;kernel_rfl;exact U;exact U)|(apply Zo 16 ZB;decide +kernel;kernel_rfl;kernel_rfl;kernel_rfl;exact U;exact U)|(apply Zs;(iterate 4 exact U))|exact AE.nil _ _ _ _|(apply Zx;exact U)|(apply Zz;exact U;exact U;decide +kernel;exact U)|(apply ZA;exact U)|exact AO.nil _ _ _|(apply Zr;(decide +kernel))|exact AOs.nil|exact ZF rfl rfl)
   all_goals(apply J1 (rfl) [0];(apply Zc Za;exact U);(iterate 4 exact U))
   all_goals rfl
 ·rw[if_neg hle]
  dsimp only
  have d1:decide ((n:Int)<=((b.length-p:Nat):Int))=false:=by simp;omega
  refine Zl Tryz.func165 rfl Tryz.ntmps165 rfl rfl ?_
  repeat'(first|rw[d1]|rw[e1]|rw[e2]|(apply Yk [] (Vo 8);kernel_rfl;(iterate 6 exact U);intro bx2 fr2 hle2)|(apply Zi Za;exact U)|(apply Zg Za;exact U)|(apply Zp Za;exact U)|refine Zn Za U U U U ?_|(apply Zo 13 ZB;decide +kernel;kernel_rfl;kernel_rfl;kernel_rfl;exact U;exact U)|(apply Zs;(iterate 4 exact U))|exact AE.nil _ _ _ _|(apply Zx;exact U)|(apply Zz;exact U;exact U;decide +kernel;exact U)|(apply ZA;exact U)|exact AO.nil _ _ _|(apply Zr;(decide +kernel))|exact AOs.nil|exact ZF rfl rfl)
  all_goals(apply V0;exact U;(first|exact Nat.zero_le _|exact Nat.le_trans (Nat.le_of_ble_eq_true rfl) (by assumption));exact U)
end Go.Proofs.YtmljabhmajehnaaGreatDoor
end
