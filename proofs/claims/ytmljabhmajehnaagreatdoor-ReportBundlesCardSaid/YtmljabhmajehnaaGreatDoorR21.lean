/- The document's answers for names, plain: what it reads a text and an item as; no program in sight. -/
import Derived.Test.YtmljabhmajehnaaGreatDoorR20
import Derived.Test.YtmljabhmajehnaaGreatDoorR13
set_option linter.unusedVariables false
set_option linter.unusedSimpArgs false
section
open Go.RowKit Go.Pl Go.Av
namespace Go.Proofs.YtmljabhmajehnaaGreatDoor
set_option maxHeartbeats 4000000
theorem GP:∀(l r:List UInt8) (f a:Nat),l.all isD=true->l.length<=f->WB f a (l++r)=((WB (f-l.length) (l.foldl (fun a c=>10*a+(c.toNat-48)) a) r).1,(WB (f-l.length) (l.foldl (fun a c=>10*a+(c.toNat-48)) a) r).2+l.length)
 | [],r,f,a,_,_=>by simp
 | c::l,r,0,a,_,h=>by simp at h
 | c::l,r,f+1,a,ha,h=>by
  rw[List.all_cons,Bool.and_eq_true]at ha
  rw[List.cons_append,WB,if_pos ha.1,GP l r f _ ha.2 (by simpa using h),List.foldl_cons]
  simp[Nat.add_assoc]
theorem Sf (u:Nat):(Lib.decDigits u).all isD=true:=List.all_eq_true.2 fun c hc=>Kn.2 (OZ u c hc)
theorem LF:∀ u:Nat,(Lib.decDigits u).foldl (fun a c=>10*a+(c.toNat-48)) 0=u:=by
 intro u
 induction u using Nat.strongRecOn with
 | _ u ih=>
  rw[Lib.decDigits]
  by_cases h:u<10
  ·rw[dif_pos h,List.foldl_cons,List.foldl_nil,Je h];omega
  ·rw[dif_neg h,List.foldl_append,ih (u/10) (by omega),List.foldl_cons,List.foldl_nil,Je (by omega)];omega
theorem GQ {u:Nat}(hu:u<=4294967295)(r:List UInt8)(hr:∀ c t,r=c::t->isD c=false):WB 11 0 (Lib.decDigits u++r)=(u,(Lib.decDigits u).length):=by
 have hl:=Tc 9 u (by omega)
 rw[GP _ _ _ _ (Sf u) (by omega),LF]
 have e:∀ f,WB f u r=(u,0):=fun f=>by
  match f,r,hr with
  | 0,r,_=>rfl
  | f+1,[],_=>rfl
  | f+1,c::t,hr=>rw[WB,hr c t rfl];rfl
 rw[e]
 simp
def X4 (r:List UInt8):EidV:=⟨true,(WB 11 0 r).1,if 4+(WB 11 0 r).2<4+r.length then(WB 11 0 (r.drop ((WB 11 0 r).2+1))).1 else 0,[],[]⟩
theorem Ko:WR Yi=Us:=by decide
theorem JG {y:EidV}(h:ZQ y=true)(hz:isZ y=false):(y.i=true/\WR y=Vm++(Lib.decDigits y.n++46::Lib.decDigits y.s)/\y.n<=4294967295/\y.s<=4294967295/\y.h=[]/\y.d=[])\/(y.i=false/\WR y=[100,116,110,58,47,47]++(y.h++47::y.d)/\y.n=0/\y.s=0/\y.h ≠ []/\(47:UInt8) ∉ y.h):=by
 cases hi:y.i with
 | true=>
  obtain⟨b1,b2,b3,b4,b5⟩:=WE h hz hi
  refine .inl ⟨rfl,?_,b1,b2,b3,b4⟩
  unfold WR
  rw[hz,if_neg (by simp),hi,if_pos rfl]
  simp[Vm]
 | false=>
  obtain⟨b1,b2,b3,b4,b5,b6,b7⟩:=Wf h hz hi
  refine .inr ⟨rfl,?_,b1,b2,fun e=>(by rw[e]at b3;simp at b3),JE b6 (by decide)⟩
  unfold WR
  rw[hz,if_neg (by simp),hi,if_neg (by simp)]
  simp[We]
theorem LG {r:List UInt8}(h:(Yc (Vm++r)).2=true):X4 r=(Yc (Vm++r)).1:=by
 obtain⟨h1,h2⟩:=VB h
 generalize (Yc (Vm++r)).1=y at *
 cases hz:isZ y with
 | true=>rw[Vn.1 hz,Ko]at h2;exact absurd h2 (by simp[Us,Vm])
 | false=>
  rcases JG h1 hz with⟨hi,ht,b1,b2,b3,b4⟩ | ⟨hi,ht,b⟩
  ·rw[ht]at h2
   have hr:r=Lib.decDigits y.n++46::Lib.decDigits y.s:=(List.append_cancel_left h2).symm
   have e1:=GQ b1 (46::Lib.decDigits y.s) (fun c t hc=>by cases hc;decide)
   have e2:=GQ b2 [] (fun c t hc=>by cases hc)
   rw[List.append_nil]at e2
   unfold X4
   rw[hr,e1]
   have e3:(Lib.decDigits y.n++46::Lib.decDigits y.s).drop ((Lib.decDigits y.n).length+1)=Lib.decDigits y.s:=by
    rw[List.drop_append,List.drop_of_length_le (by omega)];simp
   dsimp only
   rw[e3,e2,if_pos (by simp)]
   obtain⟨i,n,s,hh,dd⟩:=y
   simp only at hi b3 b4
   rw[hi,b3,b4]
  ·rw[ht]at h2;exact absurd h2 (by simp[Vm])
theorem LH {h d:List UInt8}(hn:(47:UInt8) ∉ h)(hp:(Yc ([100,116,110,58,47,47]++(h++47::d))).2=true):(⟨false,0,0,h,d⟩:EidV)=(Yc ([100,116,110,58,47,47]++(h++47::d))).1:=by
 obtain⟨h1,h2⟩:=VB hp
 generalize (Yc ([100,116,110,58,47,47]++(h++47::d))).1=y at *
 cases hz:isZ y with
 | true=>rw[Vn.1 hz,Ko]at h2;exact absurd h2 (by simp[Us])
 | false=>
  rcases JG h1 hz with⟨hi,ht,b⟩ | ⟨hi,ht,b1,b2,b3,b4⟩
  ·rw[ht]at h2;exact absurd h2 (by simp[Vm])
  ·rw[ht]at h2
   have e:=List.append_cancel_left h2
   have e1:=Ug (b:=y.d) b4
   rw[e,Ug hn]at e1
   obtain⟨i,n,s,hh,dd⟩:=y
   simp only[Prod.mk.injEq,and_true]at e1
   simp only at hi b1 b2
   rw[e1.1,e1.2,hi,b1,b2]
theorem GR {s:List UInt8}(h0:s ≠ Us)(h1:∀ r,r ≠ []->s ≠ Vm++r)(h2:∀ h d,(47:UInt8) ∉ h->s ≠ [100,116,110,58,47,47]++(h++47::d)):(Yc s).2=false:=by
 cases hp:(Yc s).2 with
 | false=>rfl
 | true=>
  obtain⟨k1,k2⟩:=VB hp
  generalize (Yc s).1=y at *
  cases hz:isZ y with
  | true=>rw[Vn.1 hz,Ko]at k2;exact absurd k2.symm h0
  | false=>
   rcases JG k1 hz with⟨hi,ht,b⟩ | ⟨hi,ht,b1,b2,b3,b4⟩
   ·exact absurd (k2.symm.trans ht) (h1 _ (by intro e;have:=congrArg List.length e;simp at this))
   ·exact absurd (k2.symm.trans ht) (h2 _ _ b4)
abbrev JH (s:List UInt8):D:=.tup [.agg (eC (match(Yc s).2 with|true=>(Yc s).1|false=>Yi)),.bool (Yc s).2]
theorem UM {s:List UInt8}(h:(Yc s).2=false):JH s=.tup [.agg (eC Yi),.bool false]:=by unfold JH;rw[h]
theorem KM {s:List UInt8}{y:EidV}(h:Yc s=(y,true)):JH s=.tup [.agg (eC y),.bool true]:=by unfold JH;rw[h]
theorem Bq {s:List UInt8}{c:EidV}(h0:s ≠ Us)(hc:(Yc s).2=true->c=(Yc s).1)(hk:decide (Y8 c<1)=true):(Yc s).2=false:=by
 cases hp:(Yc s).2 with
 | false=>rfl
 | true=>
  obtain⟨k1,k2⟩:=VB hp
  rw[<- hc hp]at k1 k2
  rw[IL,k1]at hk
  simp only[Bool.not_true,Bool.false_or]at hk
  rw[Vn.1 hk,Ko]at k2
  exact absurd k2.symm h0
theorem Br {s:List UInt8}{c:EidV}(hc:(Yc s).2=true->c=(Yc s).1)(ht:(WR c != s)=true):(Yc s).2=false:=by
 cases hp:(Yc s).2 with
 | false=>rfl
 | true=>
  obtain⟨k1,k2⟩:=VB hp
  rw[<- hc hp]at k2
  rw[bne_iff_ne]at ht
  exact absurd k2 ht
theorem Bt {s:List UInt8}{c:EidV}(hk:decide (Y8 c<1)=false)(ht:(WR c != s)=false):Yc s=(c,true):=by
 rw[IL]at hk
 simp only[Bool.or_eq_false_iff,Bool.not_eq_false']at hk
 have e:WR c=s:=by simpa using ht
 rw[<- e,JF hk.1]
theorem UN {x:EidV}(h:ZQ x=true):Fit x:=by
 cases hz:isZ x with
 | true=>rw[Vn.1 hz];exact⟨by decide,by decide⟩
 | false=>
  cases hi:x.i with
  | true=>
   obtain⟨_,_,h1,h2,_⟩:=WE h hz hi
   unfold Fit;rw[h1,h2];exact⟨by decide,by decide⟩
  | false=>
   obtain⟨_,_,_,h1,h2,_⟩:=Wf h hz hi
   exact⟨by omega,by omega⟩
theorem LI {x:EidV}(h:isZ x=true):Y8 x=0:=by rw[Vn.1 h];decide
theorem LJ {x:EidV}(h:ZQ x=true)(hi:x.i=true):Y8 x=1:=by unfold Y8;rw[hi,h];rfl
theorem LK {x:EidV}(h:ZQ x=true)(hz:isZ x=false)(hi:x.i=false):Y8 x=2:=by unfold Y8;rw[hi,hz,h];rfl
theorem JI [Known](x:EidV)(h:ZQ x=true):AP Tryz.prog 179 [.agg (eC x)] (.str (WR x)) []:=by
 have hK:=W4 x (UN h)
 unfold WR
 cases hz:isZ x with
 | true=>
  rw[LI hz]at hK
  rw[if_pos rfl]
  refine AP.ofA (Zl Tryz.func179 U Tryz.ntmps179 U U ?_)
  repeat'(first|(apply Zb (hK);kernel_rfl;(iterate 4 exact U))|(apply Zi Za;exact U)|(apply Zg Za;exact U)|(apply Zp Za;exact U)|refine Zd U Qt ?_)
  all_goals exact Qe
 | false=>
  rw[if_neg (by simp)]
  cases hi:x.i with
  | true=>
   obtain⟨b1,b2,_⟩:=WE h hz hi
   rw[LJ h hi]at hK
   rw[if_pos rfl]
   have d1:=Ni x.n (by omega)
   have d2:=Ni x.s (by omega)
   have hD1:=OY x.n (by omega)
   have hD2:=OY x.s (by omega)
   have l1:[(105:UInt8),112,110,58].length+(Lib.decDigits x.n).length<=maxLen:=by simp;unfold maxLen;omega
   have l2:([(105:UInt8),112,110,58]++Lib.decDigits x.n).length + [(46:UInt8)].length<=maxLen:=by simp;unfold maxLen;omega
   have l3:([(105:UInt8),112,110,58]++Lib.decDigits x.n++[46]).length+(Lib.decDigits x.s).length<=maxLen:=by simp;unfold maxLen;omega
   refine AP.ofA (Zl Tryz.func179 U Tryz.ntmps179 U U ?_)
   repeat'(first|(apply Zb (hK);kernel_rfl;(iterate 4 exact U))|(apply Zb (hD1);kernel_rfl;(iterate 4 exact U))|(apply Zb (hD2);kernel_rfl;(iterate 4 exact U))|(apply QD;exact U;exact U;(first|exact l1|exact l2|exact l3);exact U)|(apply Zi Za;exact U)|(apply Zg Za;exact U)|refine Zd U Qt ?_|refine Zf U Qt ?_|(apply ZT 8 ZB;decide +kernel;kernel_rfl;kernel_rfl;exact U;exact U)|(apply Z4;(iterate 3 exact U))|refine AD.nil _|exact Yx rfl)
   all_goals exact Qe
  | false=>
   obtain⟨_,_,_,b1,b2,_⟩:=Wf h hz hi
   rw[LK h hz hi]at hK
   rw[if_neg (by simp)]
   have l1:[(100:UInt8),116,110,58,47,47].length+x.h.length<=maxLen:=by simp;unfold maxLen;omega
   have l2:([(100:UInt8),116,110,58,47,47]++x.h).length + [(47:UInt8)].length<=maxLen:=by simp;unfold maxLen;omega
   have l3:([(100:UInt8),116,110,58,47,47]++x.h++[47]).length+x.d.length<=maxLen:=by simp;unfold maxLen;omega
   refine AP.ofA (Zl Tryz.func179 U Tryz.ntmps179 U U ?_)
   repeat'(first|(apply Zb (hK);kernel_rfl;(iterate 4 exact U))|(apply QD;exact U;exact U;(first|exact l1|exact l2|exact l3);exact U)|(apply Zi Za;exact U)|(apply Zg Za;exact U)|refine Zf U Qt ?_)
   all_goals exact Qe
def ZY (x:EidV):It:=
 if isZ x then .mk 4 0 [] [.mk 0 1 [] [],.mk 0 0 [] []]
 else if x.i then .mk 4 0 [] [.mk 0 2 [] [],.mk 4 0 [] [.mk 0 x.n [] [],.mk 0 x.s [] []]]
 else .mk 4 0 [] [.mk 0 1 [] [],.mk 3 0 (We x) []]
theorem Xx [Known](x:EidV):AP Tryz.prog 99 [.agg (eC x)] (.tup [itD (if ZQ x then ZY x else .mk 0 0 [] []),.int .i64 (if ZQ x then 0 else 3)]) []:=by
 have hR:=V6 x
 cases hr:ZQ x with
 | false=>
  rw[hr]at hR
  refine AP.ofA (Zl Tryz.func99 U Tryz.ntmps99 U U ?_)
  repeat'(first|(apply Zb (hR);kernel_rfl;(iterate 4 exact U))|(apply Zi Za;exact U)|(apply Zg Za;exact U)|(apply Zp Za;exact U)|refine Zd U Qt ?_)
  all_goals exact Qe
 | true=>
  rw[hr]at hR
  rw[if_pos rfl,if_pos rfl]
  unfold ZY
  cases hz:isZ x with
  | true=>
   rw[if_pos rfl]
   have n1:=YT 1
   have n0:=YT 0
   have hL:=VG [.mk 0 1 [] [],.mk 0 0 [] []] (by decide) (by simp[wfI,wfs])
   replace n1:AP Tryz.prog _ [.int .u64 1] (.agg [.int .i64 0,.int .u64 1,.sl .ext [],.sl .ext []]) []:=n1
   replace n0:AP Tryz.prog _ [.int .u64 0] (.agg [.int .i64 0,.int .u64 0,.sl .ext [],.sl .ext []]) []:=n0
   unfold isZ at hz
   refine AP.ofA (Zl Tryz.func99 U Tryz.ntmps99 U U ?_)
   repeat'(first|(apply Zb (hR);kernel_rfl;(iterate 4 exact U))|(apply Zb (n1);kernel_rfl;(iterate 4 exact U))|(apply Zb (n0);kernel_rfl;(iterate 4 exact U))|(apply Zb (hL);kernel_rfl;(iterate 4 exact U))|(apply Zi Za;exact U)|(apply Zg Za;exact U)|(apply Zp Za;exact U)|refine Zd U Qt ?_|refine Zf U Qt ?_|refine ZM Za U U U U U U U U U U U U ?_|refine W7 Za U U U U Qk Qk U U U ?_)
   all_goals exact Qe
  | false=>
   rw[if_neg (by simp)]
   cases hi:x.i with
   | true=>
    obtain⟨b1,b2,_⟩:=WE hr hz hi
    rw[if_pos rfl]
    have n2:=YT 2
    have nn:=YT x.n
    have ns:=YT x.s
    have hL1:=VG [.mk 0 x.n [] [],.mk 0 x.s [] []] (by simp) (by simp[wfI,wfs];omega)
    have hL:=VG [.mk 0 2 [] [],.mk 4 0 [] [.mk 0 x.n [] [],.mk 0 x.s [] []]] (by simp) (by simp[wfI,wfs];omega)
    replace n2:AP Tryz.prog _ [.int .u64 2] (.agg [.int .i64 0,.int .u64 2,.sl .ext [],.sl .ext []]) []:=n2
    replace nn:AP Tryz.prog _ [.int .u64 (x.n:Int)] (.agg [.int .i64 0,.int .u64 (x.n:Int),.sl .ext [],.sl .ext []]) []:=nn
    replace ns:AP Tryz.prog _ [.int .u64 (x.s:Int)] (.agg [.int .i64 0,.int .u64 (x.s:Int),.sl .ext [],.sl .ext []]) []:=ns
    replace hL1:AP Tryz.prog _ _ (.agg [.int .i64 4,.int .u64 0,.sl .ext [],.sl .ext [.agg [.int .i64 0,.int .u64 (x.n:Int),.sl [],.sl []],.agg [.int .i64 0,.int .u64 (x.s:Int),.sl [],.sl []]]]) []:=hL1
    unfold isZ at hz
    refine AP.ofA (Zl Tryz.func99 U Tryz.ntmps99 U U ?_)
    repeat'(first|(apply Zb (hR);kernel_rfl;(iterate 4 exact U))|(apply Zb (n2);kernel_rfl;(iterate 4 exact U))|(apply Zb (nn);kernel_rfl;(iterate 4 exact U))|(apply Zb (ns);kernel_rfl;(iterate 4 exact U))|(apply Zb (hL1);kernel_rfl;(iterate 4 exact U))|(apply Zb (hL);kernel_rfl;(iterate 4 exact U))|(apply Zi Za;exact U)|(apply Zg Za;exact U)|(apply Zp Za;exact U)|refine Zd U Qt ?_|refine Zf U Qt ?_|refine ZM Za U U U U U U U U U U U U ?_|refine W7 Za U U U U Qk Qk U U U ?_|(apply Zo 6 ZB;decide +kernel;kernel_rfl;kernel_rfl;kernel_rfl;exact U;exact U)|(apply Zs;(iterate 4 exact U))|exact AE.nil _ _ _ _|(apply Zx;exact U)|(apply Zz;exact U;exact U;decide +kernel;exact U)|(apply ZA;exact U)|exact AO.nil _ _ _|(apply Zr;(decide +kernel))|exact AOs.nil|exact ZF rfl rfl)
    all_goals exact Qe
   | false=>
    obtain⟨_,_,_,b1,b2,_⟩:=Wf hr hz hi
    rw[if_neg (by simp)]
    have n1:=YT 1
    have hP:=Sd x b1 b2
    have hT:=RW (We x)
    have hpl:(We x).length<=1099511627776:=by unfold We;simp;omega
    generalize We x=p at *
    have hL:=VG [.mk 0 1 [] [],.mk 3 0 p []] (by simp) (by simp[wfI,wfs];omega)
    replace n1:AP Tryz.prog _ [.int .u64 1] (.agg [.int .i64 0,.int .u64 1,.sl .ext [],.sl .ext []]) []:=n1
    replace hT:AP Tryz.prog _ [.str p] (.agg [.int .i64 3,.int .u64 0,byE p,.sl .ext []]) []:=hT
    unfold isZ at hz
    refine AP.ofA (Zl Tryz.func99 U Tryz.ntmps99 U U ?_)
    repeat'(first|(apply Zb (hR);kernel_rfl;(iterate 4 exact U))|(apply Zb (n1);kernel_rfl;(iterate 4 exact U))|(apply Zb (hP);kernel_rfl;(iterate 4 exact U))|(apply Zb (hT);kernel_rfl;(iterate 4 exact U))|(apply Zb (hL);kernel_rfl;(iterate 4 exact U))|(apply Zi Za;exact U)|(apply Zg Za;exact U)|(apply Zp Za;exact U)|refine Zf U Qt ?_|refine ZM Za U U U U U U U U U U U U ?_|refine W7 Za U U U U Qk Qk U U U ?_|(apply Zo 2 ZB;decide +kernel;kernel_rfl;kernel_rfl;kernel_rfl;exact U;exact U)|(apply Zs;(iterate 4 exact U))|exact AE.nil _ _ _ _|(apply Zx;exact U)|(apply Zz;exact U;exact U;decide +kernel;exact U)|(apply ZA;exact U)|exact AO.nil _ _ _|(apply Zr;(decide +kernel))|exact AOs.nil|exact ZF rfl rfl)
    all_goals exact Qe
theorem V7 [Known](n:Nat):AP Tryz.prog 129 [.int .u64 (n:Int)] (.agg [.int .i64 0,.int .u64 (n:Int),.sl .ext [],.sl .ext []]) []:=by
 refine AP.ofA (Zl Tryz.func129 U Tryz.ntmps129 U U ?_)
 repeat'(first|(apply Zg Za;exact U))
 all_goals exact Qe
theorem WF [Known](x:EidV)(h:ZQ x=true):AP Tryz.prog 90 [.agg (eC x)] (itD (ZY x)) []:=by
 have hK:=W4 x (UN h)
 unfold ZY
 cases hz:isZ x with
 | true=>
  rw[LI hz]at hK
  rw[if_pos rfl]
  have n1:=V7 1
  have n0:=V7 0
  replace n1:AP Tryz.prog _ [.int .u64 1] (.agg [.int .i64 0,.int .u64 1,.sl .ext [],.sl .ext []]) []:=n1
  replace n0:AP Tryz.prog _ [.int .u64 0] (.agg [.int .i64 0,.int .u64 0,.sl .ext [],.sl .ext []]) []:=n0
  refine AP.ofA (Zl Tryz.func90 U Tryz.ntmps90 U U ?_)
  repeat'(first|(apply Zb (hK);kernel_rfl;(iterate 4 exact U))|(apply Zb (n1);kernel_rfl;(iterate 4 exact U))|(apply Zb (n0);kernel_rfl;(iterate 4 exact U))|(apply Zi Za;exact U)|(apply Zg Za;exact U)|refine Zd U Qt ?_|refine ZM Za U U U U U U U U U U U U ?_)
  all_goals exact Qe
 | false=>
  rw[if_neg (by simp)]
  cases hi:x.i with
  | true=>
   obtain⟨b1,b2,_⟩:=WE h hz hi
   rw[LJ h hi]at hK
   rw[if_pos rfl]
   have n2:=V7 2
   have nn:=V7 x.n
   have ns:=V7 x.s
   replace n2:AP Tryz.prog _ [.int .u64 2] (.agg [.int .i64 0,.int .u64 2,.sl .ext [],.sl .ext []]) []:=n2
   refine AP.ofA (Zl Tryz.func90 U Tryz.ntmps90 U U ?_)
   repeat'(first|(apply Zb (hK);kernel_rfl;(iterate 4 exact U))|(apply Zb (n2);kernel_rfl;(iterate 4 exact U))|(apply Zb (nn);kernel_rfl;(iterate 4 exact U))|(apply Zb (ns);kernel_rfl;(iterate 4 exact U))|(apply Zi Za;exact U)|(apply Zg Za;exact U)|refine Zd U Qt ?_|refine Zf U Qt ?_|refine ZM Za U U U U U U U U U U U U ?_|(apply Zo 6 ZB;decide +kernel;kernel_rfl;kernel_rfl;kernel_rfl;exact U;exact U)|(apply Zs;(iterate 4 exact U))|exact AE.nil _ _ _ _|(apply Zx;exact U)|(apply Zz;exact U;exact U;decide +kernel;exact U)|(apply ZA;exact U)|exact AO.nil _ _ _|(apply Zr;(decide +kernel))|exact AOs.nil|exact ZF rfl rfl)
   all_goals exact Qe
  | false=>
   obtain⟨_,_,_,b1,b2,_⟩:=Wf h hz hi
   rw[LK h hz hi]at hK
   rw[if_neg (by simp)]
   have n1:=V7 1
   replace n1:AP Tryz.prog _ [.int .u64 1] (.agg [.int .i64 0,.int .u64 1,.sl .ext [],.sl .ext []]) []:=n1
   have l1:[(47:UInt8),47].length+x.h.length<=maxLen:=by simp;unfold maxLen;omega
   have l2:([(47:UInt8),47]++x.h).length + [(47:UInt8)].length<=maxLen:=by simp;unfold maxLen;omega
   have l3:([(47:UInt8),47]++x.h++[47]).length+x.d.length<=maxLen:=by simp;unfold maxLen;omega
   refine AP.ofA (Zl Tryz.func90 U Tryz.ntmps90 U U ?_)
   repeat'(first|(apply Zb (hK);kernel_rfl;(iterate 4 exact U))|(apply Zb (n1);kernel_rfl;(iterate 4 exact U))|(apply QD;exact U;exact U;(first|exact l1|exact l2|exact l3);exact U)|refine M5 Za U U U U U U U U ?_|(apply Zi Za;exact U)|(apply Zg Za;exact U)|refine Zf U Qt ?_|refine ZM Za U U U U U U U U U U U U ?_|(apply Zo 10 ZB;decide +kernel;kernel_rfl;kernel_rfl;kernel_rfl;exact U;exact U)|(apply Zs;(iterate 4 exact U))|exact AE.nil _ _ _ _|(apply Zx;exact U)|(apply Zz;exact U;exact U;decide +kernel;exact U)|(apply ZA;exact U)|exact AO.nil _ _ _|(apply Zr;(decide +kernel))|exact AOs.nil|exact ZF rfl rfl)
   all_goals exact Qe
theorem GS:∀(f a:Nat) (r:List UInt8),(WB f a r).2<=r.length/\(WB f a r).2<=f
 | 0,a,r=>by simp[WB]
 | f+1,a,[]=>by simp[WB]
 | f+1,a,c::r=>by
  rw[WB]
  split
  ·have:=GS f (10*a+(c.toNat-48)) r
   simp;omega
  ·simp
theorem O0 [Known](s:List UInt8)(at0:Nat)(hs:s.length<=1099511627776)(h0:at0<=s.length):AP Tryz.prog 178 [.str s,.int .i64 (at0:Int)] (.tup [.int .u64 ((WB 11 0 (s.drop at0)).1:Int),.int .i64 ((at0+(WB 11 0 (s.drop at0)).2:Nat):Int)]) []:=by
 refine AP.ofA (Zl Tryz.func178 U Tryz.ntmps178 U U ?_)
 repeat'(first|(apply Zg Za;exact U))
 refine ZJ (fun k tm bx fr=>∃(i n a:Nat),k+i=11/\n<10 ^ i/\a<=s.length/\(WB k n (s.drop a)).1=(WB 11 0 (s.drop at0)).1/\a+(WB k n (s.drop a)).2=at0+(WB 11 0 (s.drop at0)).2/\tm=[(0,.str s),(1,.int .i64 (a:Int)),(4,.int .u64 0),(5,.int .i64 0),(6,.int .u64 (n:Int)),(7,.int .i64 (i:Int))]/\bx=[]/\fr=[]) 12 (Lands.mk' (m:=11) (by omega) ⟨0,0,at0,rfl,by decide,h0,rfl,rfl,rfl,rfl,rfl⟩ ?_ rfl rfl rfl rfl rfl rfl) ?_
 ·exact .cons rfl (.cons rfl (.cons rfl (.cons rfl (.cons rfl (.cons rfl .nil)))))
 rintro k tm bx fr ⟨i,n,a,hk,hn,ha,hv,hc,rfl,rfl,rfl⟩
 have hnb:n<100000000000:=Nat.lt_of_lt_of_le hn (Nat.pow_le_pow_right (by decide) (by omega:i<=11))
 cases k with
 | zero=>
  have t1:decide ((i:Int)<11)=false:=decide_eq_false (by omega)
  repeat'(first|(apply Zi Za;exact U)|(apply Zg Za;exact U)|(apply Zp Za;exact U)|refine Zt U U U Qt ?_|refine Zh U Qt U U ?_|refine Zf U Qt ?_)
  all_goals(apply Zq [];(apply Zc Za;exact U);(iterate 4 exact U))
  ·rw[<- hv,<- hc];rfl
  all_goals rfl
 | succ k=>
  have t1:decide ((i:Int)<11)=true:=decide_eq_true (by omega)
  rcases Nat.lt_or_ge a s.length with hlt|hge
  ·have t2:decide ((a:Int)<(s.length:Int))=true:=decide_eq_true (by omega)
   obtain⟨c,hsc⟩:∃ c,s[a]?=some c:=⟨_,List.getElem?_eq_getElem hlt⟩
   have hidx:s[((a:Nat):Int).toNat]?=some c:=by simpa using hsc
   have hdr:s.drop a=c::s.drop (a+1):=by
    rw[List.drop_eq_getElem_cons hlt];congr 1
    exact(List.getElem?_eq_some_iff.1 hsc).2
   rw[hdr,WB]at hv hc
   by_cases h48:48<=c.toNat
   ·have t3:decide ((c.toNat:Int) ≥ 48)=true:=decide_eq_true (by omega)
    by_cases h57:c.toNat<=57
    ·have t4:decide ((c.toNat:Int)<=57)=true:=decide_eq_true (by omega)
     rw[if_pos (Kn.2 ⟨h48,h57⟩)]at hv hc
     have e1:IntKind.u64.wrap (10*(n:Int))=((10*n:Nat):Int):=by rw[IntWalk.u64_in _ (by omega)];omega
     have e2:IntKind.u64.wrap (c.toNat:Int)=(c.toNat:Int):=IntWalk.u64_in _ (by omega)
     have e3:IntKind.u64.wrap (((10*n:Nat):Int)+(c.toNat:Int))=((10*n+c.toNat:Nat):Int):=by rw[IntWalk.u64_in _ (by omega)];omega
     have e4:IntKind.u64.wrap (((10*n+c.toNat:Nat):Int)-48)=((10*n+(c.toNat-48):Nat):Int):=by rw[IntWalk.u64_in _ (by omega)];omega
     have e5:IntKind.i64.wrap ((a:Int)+1)=((a+1:Nat):Int):=by rw[IntWalk.i64_in _ (by omega)];omega
     have e6:IntKind.i64.wrap ((i:Int)+1)=((i+1:Nat):Int):=by rw[IntWalk.i64_in _ (by omega)];omega
     repeat'(first|rw[e1]|rw[e2]|rw[e3]|rw[e4]|rw[e5]|rw[e6]|refine VY Za U U U U U (Int.natCast_nonneg _) hidx ?_|(apply Zi Za;exact U)|(apply Zg Za;exact U)|(apply Zp Za;exact U)|refine Ze U U U Qt ?_|refine Zj U Qt U U ?_|refine Zd U Qt ?_|refine Yb Za U U U U ?_)
     refine Lands.mk' (m:=k) (by omega) ⟨i+1,10*n+(c.toNat-48),a+1,by omega,by rw[Nat.pow_succ];omega,by omega,hv,by omega,rfl,rfl,rfl⟩ ?_ rfl rfl rfl rfl rfl rfl
     exact .cons rfl (.cons rfl (.cons rfl (.cons rfl (.cons rfl (.cons rfl .nil)))))
    ·have t4:decide ((c.toNat:Int)<=57)=false:=decide_eq_false (by omega)
     rw[if_neg (fun h=>h57 (Kn.1 h).2)]at hv hc
     repeat'(first|refine VY Za U U U U U (Int.natCast_nonneg _) hidx ?_|(apply Zi Za;exact U)|(apply Zg Za;exact U)|(apply Zp Za;exact U)|refine Ze U U U Qt ?_|refine Zj U Qt U U ?_|refine Zf U Qt ?_|refine Yb Za U U U U ?_)
     all_goals(apply Zq [];(apply Zc Za;exact U);(iterate 4 exact U))
     ·rw[<- hv,<- hc];rfl
     all_goals rfl
   ·have t3:decide ((c.toNat:Int) ≥ 48)=false:=decide_eq_false (by omega)
    rw[if_neg (fun h=>h48 (Kn.1 h).1)]at hv hc
    repeat'(first|refine VY Za U U U U U (Int.natCast_nonneg _) hidx ?_|(apply Zi Za;exact U)|(apply Zg Za;exact U)|(apply Zp Za;exact U)|refine Ze U U U Qt ?_|refine Zt U U U Qt ?_|refine Zj U Qt U U ?_|refine Zh U Qt U U ?_|refine Zf U Qt ?_|refine Yb Za U U U U ?_)
    all_goals(apply Zq [];(apply Zc Za;exact U);(iterate 4 exact U))
    ·rw[<- hv,<- hc];rfl
    all_goals rfl
  ·have t2:decide ((a:Int)<(s.length:Int))=false:=decide_eq_false (by omega)
   rw[List.drop_of_length_le hge,WB]at hv hc
   repeat'(first|(apply Zi Za;exact U)|(apply Zg Za;exact U)|(apply Zp Za;exact U)|refine Ze U U U Qt ?_|refine Zt U U U Qt ?_|refine Zj U Qt U U ?_|refine Zh U Qt U U ?_|refine Zf U Qt ?_|refine Yb Za U U U U ?_)
   all_goals(apply Zq [];(apply Zc Za;exact U);(iterate 4 exact U))
   ·rw[<- hv,<- hc];rfl
   all_goals rfl
end Go.Proofs.YtmljabhmajehnaaGreatDoor
end
section
open Go.RowKit Go.Pl
namespace Go.Av
inductive Zy where
 | pu (d:D)
 | al (cs:List D)
def z0 (p:Nat × Zy):Nat × D:=(p.1,match p.2 with | .pu d=>d | .al _=>.junk)
def Bu:Nat->List (Nat × Zy)->List (Nat × D)->List (Nat × D)
 | _,[],tm=>tm
 | m,(_,.pu _)::zs,tm=>Bu m zs tm
 | m,(t,.al _)::zs,tm=>Bu (m+1) zs ((t,.ptr m 0)::tm)
def zcs:List (Nat × Zy)->List (List D)
 | []=>[]
 | (_,.pu _)::zs=>zcs zs
 | (_,.al cs)::zs=>cs::zcs zs
section
variable {P:Program} {T:Tab} {Q:X->St->Prop} {n:Nat} {ee:Nat × Nat} {tm tm':List (Nat × D)} {bx:List (List D)} {fr:List Fr} {b0:Bs} {g g':G} {w w':World} {a:Act}
inductive AZ [Known][Dfr](P:Program) (T:Tab) (l:List Oper) (n:Nat) (bx:List (List D)) (fr:List Fr):List Oper->List (Nat × D)->List (Nat × Zy)->List (Nat × D)->Prop
 | nil (tm:List (Nat × D)):AZ P T l n bx fr [] tm [] tm
 | pu (o:Oper) (rest:List Oper) (t:Nat) (d:D) (tm:List (Nat × D)) (zs:List (Nat × Zy)) (tm':List (Nat × D)) (hd:o.dst=some t) (ht:Nat.blt t n=true) (h:AL P l.toArray [o] ⟨n,YC l o tm,bx,fr,(bx.length,fr.length)⟩ (qY o bx fr (.pu d))) (k:AZ P T l n bx fr rest ((t,d)::tm) zs tm'):AZ P T l n bx fr (o::rest) tm ((t,.pu d)::zs) tm'
 | al (t:Nat) (e:TypeId) (ty:Nat) (pos:String) (after:Array Edge) (rest:List Oper) (ti:Ti) (tm:List (Nat × D)) (zs:List (Nat × Zy)) (tm':List (Nat × D)) (ht:Nat.blt t n=true) (hti:tl T e=some ti) (k:AZ P T l n bx fr rest ((t,.junk)::tm) zs tm'):AZ P T l n bx fr (⟨some t,.alloc e,ty,pos,after,none⟩::rest) tm ((t,.al (ti.zero.map ZK.d))::zs) tm'
theorem Qi (l:List Oper)(o:Oper):∀ tm:List (Nat × D),YC l o tm=tm.filter fun p=>(WO l o).contains p.1
 | []=>rfl
 | p::tm=>by
  rw[YC,List.filter_cons,Qi l o tm]
  cases(WO l o).contains p.1<;>rfl
theorem Evo.al [Known](hm:Mem g bx fr w)(o:Obj):Evo ⟨g,fr,w⟩ ⟨g,fr,w.alloc o⟩:=
 ⟨rfl,rfl,rfl,by simp,fun k hk _=>Below.heap_alloc w _ k hk,fun _ _ h=>h,fun k p h=>Vw w _ (hm.Clt k p h) p,fun _ _ h=>.inl h,fun _ _ h=>h,fun _ h=>.inl h,fun k c h=>.inl ⟨c,h⟩,Vd.refl _ _⟩
theorem Mem.al [Known](hm:Mem g bx fr w)(o:Obj):Mem g bx fr (w.alloc o) where
 bl:=hm.bl
 bat i k cs' h1 h2:=by
  obtain⟨us,ty,k1,k2,k3⟩:=hm.bat i k cs' h1 h2
  exact⟨us,ty,(Below.heap_alloc w _ k (Array.getElem?_eq_some_iff.1 k1).1).trans k1,k2,fun j d v hd hv=>(k3 j d v hd hv).evo (Evo.al hm o)⟩
 bC:=hm.bC
 bN:=hm.bN
 tl:=hm.tl
 tat i k c f h1 h2:=by
  have hT:=hm.tat i k c f h1 h2
  obtain⟨cur,r1,r2⟩:=hT.row
  exact⟨⟨cur,(Below.heap_alloc w _ k (Array.getElem?_eq_some_iff.1 r1).1).trans r1,r2⟩,hT.le,hT.max,hT.pos,hT.far⟩
 tN:=hm.tN
 tρ:=hm.tρ
 Clt k p hC:=by
  have:=hm.Clt k p hC
  simp;omega
 gl:=hm.gl.evo (Evo.al hm o)
theorem LM {k k':Nat}(h:M ⟨g.C,g.ρ++[k],g.τ⟩ k'):M g k'\/k'=k:=by
 rcases h with h|h
 ·rcases List.mem_append.1 h with h|h
  ·exact .inl (.inl h)
  ·simp at h;exact .inr h
 ·exact .inl (.inr h)
structure AZk [Known][Dfr](P:Program) (l acts:List Oper) (n:Nat) (zs:List (Nat × Zy)) (tm:List (Nat × D)) (bx:List (List D)) (fr:List Fr) (ee:Nat × Nat) (Q:X->St->Prop):Prop where
 run:AL P l.toArray acts ⟨n,Bu bx.length zs tm,bx++zcs zs,fr,ee⟩ Q
end
end Go.Av
end
