/- Package canon: hops, joined. -/
import Derived.Test.YtmljabhmajehnaaDoorN26
import Derived.Test.YtmljabhmajehnaaDoorN19
import Derived.Test.YtmljabhmajehnaaDoorN13
set_option linter.unusedVariables false
set_option linter.unusedSimpArgs false
section
open Go.RowKit Go.Pl Go.Av
namespace Go.Proofs.YtmljabhmajehnaaDoor
set_option maxHeartbeats 4000000
theorem T8 [Known][KnownU8](d:List UInt8)(hd:d.length<=140737488351232):AP Tryd.prog 73 [byE d] (.tup [.int .u64 ((Q7 d).1:Int),.int .u64 ((Q7 d).2.1:Int),.bool (Q7 d).2.2]) []:=by
 have hI:=Kg d hd
 have hw:=H1 d hd
 unfold Q7
 generalize (Ys d 0).1=x at *
 obtain⟨k,n,b,l⟩:=x
 cases hs:Wx d with
 | false=>
  rw[hs]at hI
  exact Lc d k n b l hI
 | true=>
 rw[hs]at hI
 unfold Nz
 dsimp only
 cases tk:(k==4) with
 | false=>exact Ld d k n b l hI tk
 | true=>
 have tk2:(k != 4)=false:=by rw[bne,tk];rfl
 match l,hI,hw with
 | [],hI,_=>exact Md d k n b _ hI tk (by simp)
 | [.mk _ _ _ _],hI,_=>exact Md d k n b _ hI tk (by simp)
 | .mk _ _ _ _::.mk _ _ _ _::_::_,hI,_=>exact Md d k n b _ hI tk (by simp)
 | [.mk k1 n1 b1 l1,.mk k2 n2 b2 l2],hI,hw=>
 have t2:(((Zz [It.mk k1 n1 b1 l1,.mk k2 n2 b2 l2]).length:Int) != 2)=false:=by rw[Zw];rfl
 have hU:=Y2 [It.mk k1 n1 b1 l1,.mk k2 n2 b2 l2]
 have hws:=hw.2.2.2
 have hS:=Qj _ hw (.mk 4 0 [] [.mk 0 n1 [] [],.mk 0 n2 [] []]) ⟨by decide,by simp,by simp,⟨hws.1.1,by simp,by simp,trivial⟩,⟨hws.2.1.1,by simp,by simp,trivial⟩,trivial⟩
 have hN:=Od n1 n2
 dsimp only
 cases t3:It.beq (.mk k n b [.mk k1 n1 b1 l1,.mk k2 n2 b2 l2]) (.mk 4 0 [] [.mk 0 n1 [] [],.mk 0 n2 [] []]) with
 | false=>exact Le d k n b _ k1 n1 b1 l1 k2 n2 b2 l2 _ .junk hI tk2 t2 hU rfl rfl hN hS t3
 | true=>
 cases t4:decide ((n1:Int) ≥ 1) with
 | false=>exact Lf d k n b _ k1 n1 b1 l1 k2 n2 b2 l2 _ .junk hI tk2 t2 hU rfl rfl hN hS t3 t4
 | true=>
 cases t5:decide ((n1:Int)<=255) with
 | false=>exact Lg d k n b _ k1 n1 b1 l1 k2 n2 b2 l2 _ .junk hI tk2 t2 hU rfl rfl hN hS t3 t4 t5
 | true=>exact Lh d k n b _ k1 n1 b1 l1 k2 n2 b2 l2 _ .junk hI tk2 t2 hU rfl rfl hN hS t3 t4 t5
def NA (kind:Nat)(d:List UInt8):Bool:=match((kind:Int)==6) with
 | true=>(XM d).2
 | false=>match((kind:Int)==7) with
  | true=>(GC d).2
  | false=>match((kind:Int)==10) with
   | true=>(Q7 d).2.2
   | false=>true
def Oi (kind:Nat)(d:List UInt8):Bool:=NA kind d&&decide ((d.length:Int)<=200)
theorem GD [Known][KnownU8](kind:Nat)(d:List UInt8)(hd:d.length<=140737488351232):AP Tryd.prog 49 [.int .u64 (kind:Int),byE d] (.bool (Oi kind d)) []:=by
 have hP:=Oh d hd
 have hA:=Mc d hd
 have hH:=T8 d hd
 have hdl:(d.map E.byte).length=d.length:=List.length_map ..
 unfold Oi NA
 rw[<- hdl]
 generalize (XM d).1=pz at *
 obtain⟨zi,zn,zs,zh,zd⟩:=pz
 generalize (XM d).2=p1 at *
 generalize (GC d).1=a0 at *
 generalize (GC d).2=a1 at *
 generalize (Q7 d).1=h0 at *
 generalize (Q7 d).2.1=h1 at *
 generalize (Q7 d).2.2=h2 at *
 cases t1:((kind:Int)==6) with
 | true=>
  cases p1
  all_goals
   refine AP.ofA (Zl Tryd.func49 Z Tryd.ntmps49 Z Z ?_)
   repeat'(first|(apply Zb (hP);kernel_rfl;(iterate 4 exact Z))|(apply Zg Za;exact Z)|(apply Zf Za;exact Z)|refine Ze Z Z Z Qt ?_|refine Zt Z Z Z Qt ?_|refine Zk Z Qt Z Z ?_|refine Zi Z Qt Z Z ?_|refine Zd Z Qt ?_|refine Zn Za Z Z Z Z ?_)
   all_goals exact Qe
 | false=>
 cases t2:((kind:Int)==7) with
 | true=>
  cases a1
  all_goals
   refine AP.ofA (Zl Tryd.func49 Z Tryd.ntmps49 Z Z ?_)
   repeat'(first|(apply Zb (hA);kernel_rfl;(iterate 4 exact Z))|(apply Zg Za;exact Z)|(apply Zf Za;exact Z)|refine Ze Z Z Z Qt ?_|refine Zt Z Z Z Qt ?_|refine Zk Z Qt Z Z ?_|refine Zi Z Qt Z Z ?_|refine Zd Z Qt ?_|refine Zh Z Qt ?_|refine Zn Za Z Z Z Z ?_)
   all_goals exact Qe
 | false=>
 cases t3:((kind:Int)==10) with
 | true=>
  cases h2
  all_goals
   refine AP.ofA (Zl Tryd.func49 Z Tryd.ntmps49 Z Z ?_)
   repeat'(first|(apply Zb (hH);kernel_rfl;(iterate 4 exact Z))|(apply Zg Za;exact Z)|(apply Zf Za;exact Z)|refine Ze Z Z Z Qt ?_|refine Zt Z Z Z Qt ?_|refine Zk Z Qt Z Z ?_|refine Zi Z Qt Z Z ?_|refine Zd Z Qt ?_|refine Zh Z Qt ?_|refine Zn Za Z Z Z Z ?_)
   all_goals exact Qe
 | false=>
  refine AP.ofA (Zl Tryd.func49 Z Tryd.ntmps49 Z Z ?_)
  repeat'(first|(apply Zg Za;exact Z)|(apply Zf Za;exact Z)|refine Ze Z Z Z Qt ?_|refine Zk Z Qt Z Z ?_|refine Zh Z Qt ?_|refine Zn Za Z Z Z Z ?_)
  all_goals exact Qe
def Y5 (b:BlkV):Bool:=!(UX b.ty||UX b.num)&&((bits .andNot .u64 (b.fl:Int) 23==0)&&(decide (b.sum ≥ 0)&&(decide (b.sum<=2)&&Oi b.ty b.data)))
theorem XN [Known][KnownU8](b:BlkV)(hd:b.data.length<=140737488351232):AP Tryd.prog 34 [.agg (bkC b)] (.bool (Y5 b)) []:=by
 have hW:=OX b.ty b.num
 have hD:=GD b.ty b.data hd
 obtain⟨ty,num,fl,sum,data⟩:=b
 unfold Y5
 dsimp only at hW hD ⊢
 generalize Oi ty data=dv at *
 cases hb1:(UX ty||UX num) with
 | true=>
  rw[hb1]at hW
  replace hW:AP Tryd.prog _ _ (.bool false) []:=hW
  refine AP.ofA (Zl Tryd.func34 Z Tryd.ntmps34 Z Z ?_)
  repeat'(first|(apply Zb (hW);kernel_rfl;(iterate 4 exact Z))|(apply Zg Za;exact Z)|(apply Zf Za;exact Z)|refine Zt Z Z Z Qt ?_|refine Zi Z Qt Z Z ?_|refine ZX Za Z Z Z Z Z Z Z Z Z Z Z Z ?_)
  all_goals exact Qe
 | false=>
 rw[hb1]at hW
 replace hW:AP Tryd.prog _ _ (.bool true) []:=hW
 cases t1:(bits .andNot .u64 (fl:Int) 23==0) with
 | false=>
  refine AP.ofA (Zl Tryd.func34 Z Tryd.ntmps34 Z Z ?_)
  repeat'(first|(apply Zb (hW);kernel_rfl;(iterate 4 exact Z))|(apply Zg Za;exact Z)|(apply Zf Za;exact Z)|refine Ze Z Z Z Qt ?_|refine Zt Z Z Z Qt ?_|refine Zk Z Qt Z Z ?_|refine Zi Z Qt Z Z ?_|refine ZX Za Z Z Z Z Z Z Z Z Z Z Z Z ?_)
  all_goals exact Qe
 | true=>
 cases t2:decide (sum ≥ 0) with
 | false=>
  refine AP.ofA (Zl Tryd.func34 Z Tryd.ntmps34 Z Z ?_)
  repeat'(first|(apply Zb (hW);kernel_rfl;(iterate 4 exact Z))|(apply Zg Za;exact Z)|(apply Zf Za;exact Z)|refine Ze Z Z Z Qt ?_|refine Zt Z Z Z Qt ?_|refine Zk Z Qt Z Z ?_|refine Zi Z Qt Z Z ?_|refine ZX Za Z Z Z Z Z Z Z Z Z Z Z Z ?_)
  all_goals exact Qe
 | true=>
 cases t3:decide (sum<=2) with
 | false=>
  refine AP.ofA (Zl Tryd.func34 Z Tryd.ntmps34 Z Z ?_)
  repeat'(first|(apply Zb (hW);kernel_rfl;(iterate 4 exact Z))|(apply Zg Za;exact Z)|(apply Zf Za;exact Z)|refine Ze Z Z Z Qt ?_|refine Zt Z Z Z Qt ?_|refine Zk Z Qt Z Z ?_|refine Zi Z Qt Z Z ?_|refine ZX Za Z Z Z Z Z Z Z Z Z Z Z Z ?_)
  all_goals exact Qe
 | true=>
  refine AP.ofA (Zl Tryd.func34 Z Tryd.ntmps34 Z Z ?_)
  repeat'(first|(apply Zb (hW);kernel_rfl;(iterate 4 exact Z))|(apply Zb (hD);kernel_rfl;(iterate 4 exact Z))|(apply Zg Za;exact Z)|(apply Zf Za;exact Z)|refine Ze Z Z Z Qt ?_|refine Zk Z Qt Z Z ?_|refine ZX Za Z Z Z Z Z Z Z Z Z Z Z Z ?_)
  all_goals exact Qe

def Vr (b:BlkV):List It:=[.mk 0 b.ty [] [],.mk 0 b.num [] [],.mk 0 b.fl [] [],.mk 0 b.sum.toNat [] [],.mk 2 0 b.data []]
def YU (b:BlkV):It × Int:=match Y5 b with
 | true=>Vk (Vr b) 3
 | false=>(z0,3)
theorem JU {b:BlkV}(h:Y5 b=true):b.ty<=255/\b.num<=255/\0<=b.sum/\b.sum<=2/\Oi b.ty b.data=true:=by
 unfold Y5 UX at h
 simp only[Bool.and_eq_true,Bool.not_eq_true',Bool.or_eq_false_iff,decide_eq_true_eq,decide_eq_false_iff_not]at h
 obtain⟨⟨⟨h1,h2⟩,h3,h4⟩,_,h5,h6,h7⟩:=h
 exact⟨by omega,by omega,h5,h6,h7⟩
theorem NB {b:BlkV}(h:Y5 b=true)(hfl:b.fl<18446744073709551616)(hd:b.data.length<=3000):wfs (Vr b):=by
 obtain⟨h1,h2,h3,h4,_⟩:=JU h
 simp[Vr,wfs,wfI]
 omega
theorem MT {b:BlkV}(h:Y5 b=true)(hfl:b.fl<18446744073709551616)(hd:b.data.length<=3000)(s:Nat)(hs:s=1\/s=2):(ZG (Yc s (Vr b))).length<=1000000000:=by
 obtain⟨h1,h2,h3,h4,_⟩:=JU h
 have h9:¬ 3000<b.data.length:=by omega
 have hg:YT (Yc s (Vr b)) 1 300=293:=by
  rcases hs with rfl|rfl<;>simp[Yc,Vr,YT,Wf,h9]
 have hn:nI (Yc s (Vr b)):=by
  simp[Yc,Vr,nI,nIs]
  omega
 have:=(K3 _ 1 300 (by omega) (by omega) hn).2.1
 omega
theorem GE [Known][KnownU8](b:BlkV)(hfl:b.fl<18446744073709551616)(hd:b.data.length<=3000):AP Tryd.prog 37 [.agg (bkC b)] (Qo (YU b)) []:=by
 have hR:=XN b (by omega)
 unfold YU
 cases hr:Y5 b with
 | false=>
  rw[hr]at hR
  obtain⟨ty,num,fl,sum,data⟩:=b
  dsimp only[z0]at *
  refine AP.ofA (Zl Tryd.func37 Z Tryd.ntmps37 Z Z ?_)
  repeat'(first|(apply Zb (hR);kernel_rfl;(iterate 4 exact Z))|(apply Zg Za;exact Z)|(apply Zf Za;exact Z)|(apply Zs Za;exact Z)|refine Zd Z Qt ?_)
  all_goals exact Qe
 | true=>
  rw[hr]at hR
  obtain⟨h1,h2,h3,h4,_⟩:=JU hr
  have hS:=IQ (Vr b) 3 (NB hr hfl hd) (by simp[Vr]) (MT hr hfl hd)
  dsimp only
  generalize Vk (Vr b) 3=r at *
  obtain⟨ty,num,fl,sum,data⟩:=b
  obtain⟨⟨k,n,bb,l⟩,e⟩:=r
  dsimp only at h1 h2 h3 h4 hd hfl
  have hN:=Oe ty num fl sum.toNat
  have hB:=JG data (by omega)
  have es:IntKind.u64.wrap sum=((sum.toNat:Nat):Int):=by rw[IntWalk.u64_in _ (by omega)];omega
  replace hS:AP Tryd.prog 51 [.sl .ext [nmE ty,nmE num,nmE fl,nmE sum.toNat,.agg [.int .i64 2,.int .u64 0,.sl (data.map E.byte),.sl []]],.int .i64 3] (Qo (.mk k n bb l,e)) []:=hS
  have hu4:Uni 4 [nmE ty,nmE num,nmE fl,nmE sum.toNat]:=Uni.map (f:=nmE) (fun _=>rfl) [ty,num,fl,sum.toNat]
  refine AP.ofA (Zl Tryd.func37 Z Tryd.ntmps37 Z Z ?_)
  repeat'(first|(apply Zb (hR);kernel_rfl;(iterate 4 exact Z))|rw[es]|(apply Yo [] [] (hN);kernel_rfl;(iterate 10 exact Z))|(apply Zb (hB);kernel_rfl;(iterate 4 exact Z))|(apply Zb (hS);kernel_rfl;(iterate 4 exact Z))|refine VW Za Z Z Z Z Z Z Z Z Z Z Z (Zj rfl) (Zj rfl) (List.cons_ne_nil _ _) Qd Qd Z Z ?_|(apply Zg Za;exact Z)|(apply Zf Za;exact Z)|(apply Zs Za;exact Z)|refine Zh Z Qt ?_|refine ZX Za Z Z Z Z Z Z Z Z Z Z Z Z ?_)
  all_goals exact Qe
abbrev Oj (n m:Nat):It:=.mk 4 0 [] [.mk 0 n [] [],.mk 0 m [] []]
theorem H2:wfI z0:=⟨by decide,by simp,by simp,trivial⟩
theorem T9 (s:Nat){l:List It}(hws:wfs l)(hl:l.length<=1000000):wfI (Kf s l):=by
 refine⟨by decide,by simp,by simp;omega,Jh hws ⟨⟨by decide,?_,by simp,trivial⟩,trivial⟩⟩
 have:(UI s (ZG (Yc s l))).length<=4:=by
  unfold UI
  split<;>simp
 omega
theorem IR {l:List It}(a:Int)(hws:wfs l)(hl:l.length<=1000000):wfI (Vk l a).1:=by
 unfold Vk
 have h0:wfI (.mk 4 0 [] l):=⟨by decide,by simp,by omega,hws⟩
 repeat' split
 all_goals first|exact H2|exact h0|exact T9 _ hws hl
theorem H3 {b:BlkV}(hfl:b.fl<18446744073709551616)(hd:b.data.length<=3000):wfI (YU b).1:=by
 unfold YU
 cases h:Y5 b with
 | false=>exact H2
 | true=>exact IR 3 (NB h hfl hd) (by simp[Vr])
theorem H4 (x:It):It.beq x x=true:=It.beq_iff.2 rfl
theorem Z5 (k:Int)(n:Nat)(b:List UInt8)(l:List It):(ZG (.mk k n b l)).length<=9+(b.length+(ZJ l).length):=by
 rw[ZG,List.length_append,List.length_append]
 split
 ·rename_i h
  have h1:=Ux h rfl
  have h2:ZA (It.mk k n b l).hn<=8:=by
   unfold ZA
   repeat' split
   all_goals omega
  dsimp only at h1
  omega
 ·simp
theorem Z7 (n:Nat):(ZG (.mk 0 n [] [])).length<=9:=by
 have:=Z5 0 n [] []
 simpa[ZJ]using this
theorem V2 (n m:Nat):(ZG (Oj n m)).length<=27:=by
 have h0:=Z5 4 0 [] [.mk 0 n [] [],.mk 0 m [] []]
 have h1:=Z7 n
 have h2:=Z7 m
 simp only[ZJ,List.length_append,List.length_nil,Nat.add_zero,Nat.zero_add]at h0
 have e:Oj n m=.mk 4 0 [] [.mk 0 n [] [],.mk 0 m [] []]:=rfl
 rw[e]
 omega
theorem O2 {l:List It}{a:Int}{x:It}(h:Vk l a=(x,0)):x=.mk 4 0 [] l\/∃ s,(s=1\/s=2)/\x=Kf s l:=by
 unfold Vk at h
 cases d0:(decide (a<0)||decide (a ≥ (l.length:Int))) with
 | true=>rw[d0]at h;simp at h
 | false=>
 rw[d0]at h
 cases d1:(l.all ZI&&decide (Wm l a ≥ 0)) with
 | false=>rw[d1]at h;simp at h
 | true=>
 rw[d1]at h
 dsimp only at h
 cases d2:decide (Wm l a>0) with
 | false=>
  rw[d2]at h
  dsimp only at h
  cases hr:ZI (.mk 4 0 [] l) with
  | false=>rw[hr]at h;simp at h
  | true=>
   rw[hr]at h
   simp only[Prod.mk.injEq,and_true]at h
   exact .inl h.symm
 | true=>
  rw[d2]at h
  dsimp only at h
  have hs:(Wm l a).toNat=1\/(Wm l a).toNat=2:=by
   rcases Q3 l a with e|⟨e,_⟩
   ·have:=of_decide_eq_true d2;omega
   ·have:=of_decide_eq_true d2;omega
  cases hz:ZI (Yc (Wm l a).toNat l) with
  | false=>rw[hz]at h;simp at h
  | true=>
   rw[hz]at h
   dsimp only at h
   cases hr:ZI (Kf (Wm l a).toNat l) with
   | false=>rw[hr]at h;simp at h
   | true=>
    rw[hr]at h
    simp only[Prod.mk.injEq,and_true]at h
    exact .inr ⟨_,hs,h.symm⟩
theorem Ur {b:BlkV}{x:It}(h:YU b=(x,0)):Y5 b=true/\Vk (Vr b) 3=(x,0):=by
 unfold YU at h
 cases hr:Y5 b with
 | true=>rw[hr]at h;exact⟨rfl,h⟩
 | false=>rw[hr]at h;simp at h
abbrev Ub (y:It):EidV:=match(YL y).2 with|true=>(YL y).1|false=>Yl
def UY (y p r x:It):Bool:=match(YL y).2,Y0 (Ub y) p.n r.n with
 | true,true=>It.beq (YD (Ub y) p.n r.n) x
 | _,_=>false
abbrev Na (x:EidV)(t q:Nat)(b:Bool):D:=.tup [.agg (iC (match b with|true=>x|false=>Yl) (match b with|true=>t|false=>0) (match b with|true=>q|false=>0)),.int .i64 (match b with|true=>0|false=>3)]
def JV:It->Bool
 | .mk k _ _ [_,.mk k2 _ _ [_,_]]=>!(k==4&&k2==4)
 | _=>true
theorem O3 [Known][KnownU8](x:It)(h:JV x=true):AP Tryd.prog 32 [itD x] (Na Yl 0 0 false) []:=by
 show AP Tryd.prog _ _ (.tup [.agg [.bool false,.int .u64 0,.int .u64 0,.str [],.str [],.int .u64 0,.int .u64 0],.int .i64 3]) []
 obtain⟨k,n,b,l⟩:=x
 by_cases hk:k=4
 ·have t1:(k != 4)=false:=by simpa using hk
  by_cases hl:l.length=2
  ·obtain⟨y,z,rfl⟩:∃ y z,l=[y,z]:=by
    match l,hl with
    | [y,z],_=>exact⟨y,z,rfl⟩
   have t2:(((Zz [y,z]).length:Int) != 2)=false:=rfl
   have hU:=Y2 [y,z]
   obtain⟨ky,ny,bY,ly⟩:=y
   obtain⟨kz,nz,bz,lz⟩:=z
   by_cases hk2:kz=4
   ·have t3:(kz != 4)=false:=by simpa using hk2
    have hl2:lz.length ≠ 2:=by
     intro e
     match lz,e with
     | [p,r],_=>simp[JV,hk,hk2]at h
    have t4:(((Zz lz).length:Int) != 2)=true:=by rw[Zw];simp;omega
    refine AP.ofA (Zl Tryd.func32 Z Tryd.ntmps32 Z Z ?_)
    repeat'(first|(apply Zg Za;exact Z)|(apply Zf Za;exact Z)|(apply Zs Za;exact Z)|refine Ze Z Z Z Qt ?_|refine Zi Z Qt Z Z ?_|refine Zd Z Qt ?_|refine Zn Za Z Z Z Z ?_|(apply Zx Za;(iterate 6 exact Z);(first|exact Qt|rotate_left);(first|with_reducible assumption|decide +kernel|exact Z);(first|exact Zj rfl|with_reducible assumption|decide +kernel|rotate_left)))
    all_goals exact Qe
   ·have t3:(kz != 4)=true:=by simpa using hk2
    refine AP.ofA (Zl Tryd.func32 Z Tryd.ntmps32 Z Z ?_)
    repeat'(first|(apply Zg Za;exact Z)|(apply Zf Za;exact Z)|(apply Zs Za;exact Z)|refine Ze Z Z Z Qt ?_|refine Zo Z Z Z Qt ?_|refine Zk Z Qt Z Z ?_|refine Zi Z Qt Z Z ?_|refine Zd Z Qt ?_|refine Zn Za Z Z Z Z ?_|(apply Zx Za;(iterate 6 exact Z);(first|exact Qt|rotate_left);(first|with_reducible assumption|decide +kernel|exact Z);(first|exact Zj rfl|with_reducible assumption|decide +kernel|rotate_left)))
    all_goals exact Qe
  ·have t2:(((Zz l).length:Int) != 2)=true:=by rw[Zw];simp;omega
   refine AP.ofA (Zl Tryd.func32 Z Tryd.ntmps32 Z Z ?_)
   repeat'(first|(apply Zg Za;exact Z)|(apply Zf Za;exact Z)|(apply Zs Za;exact Z)|refine Ze Z Z Z Qt ?_|refine Zo Z Z Z Qt ?_|refine Zk Z Qt Z Z ?_|refine Zi Z Qt Z Z ?_|refine Zd Z Qt ?_|refine Zn Za Z Z Z Z ?_)
   all_goals exact Qe
 ·have t1:(k != 4)=true:=by simpa using hk
  refine AP.ofA (Zl Tryd.func32 Z Tryd.ntmps32 Z Z ?_)
  repeat'(first|(apply Zg Za;exact Z)|(apply Zf Za;exact Z)|(apply Zs Za;exact Z)|refine Zo Z Z Z Qt ?_|refine Zk Z Qt Z Z ?_|refine Zd Z Qt ?_)
  all_goals exact Qe
theorem MU [Known](y z:It)(n:Nat)(b:List UInt8)(n2:Nat)(b2:List UInt8)(kp:Int)(np:Nat)(bp:List UInt8)(lp:List It)(kr:Int)(nr:Nat)(br:List UInt8)(lr:List It)(c:Int)
  (hE:AP Tryd.prog 41 [itD y] (.tup [.agg (eC Yl),.int .i64 3]) []) (hW:AP Tryd.prog 25 [.agg (iC Yl np nr)] (.tup [itD z,.int .i64 c]) []) :
  AP Tryd.prog 32 [itD (.mk 4 n b [y,.mk 4 n2 b2 [.mk kp np bp lp,.mk kr nr br lr]])] (.tup [.agg (iC Yl 0 0),.int .i64 3]) []:=by
 have hU:=Y2 [y,.mk 4 n2 b2 [.mk kp np bp lp,.mk kr nr br lr]]
 have hU2:=Y2 [.mk kp np bp lp,.mk kr nr br lr]
 have t2:(((Zz [y,.mk 4 n2 b2 [.mk kp np bp lp,.mk kr nr br lr]]).length:Int) != 2)=false:=rfl
 have t3:(((Zz [.mk kp np bp lp,.mk kr nr br lr]).length:Int) != 2)=false:=rfl
 obtain⟨yk,yn,yb,yl⟩:=y
 obtain⟨zk,zn,zb,zl⟩:=z
 replace hE:AP Tryd.prog _ [.agg [.int .i64 yk,.int .u64 (yn:Int),byE yb,.sl .ext (Zz yl)]] (.tup [.agg [.bool false,.int .u64 0,.int .u64 0,.str [],.str []],.int .i64 3]) []:=hE
 replace hW:AP Tryd.prog _ [.agg [.bool false,.int .u64 0,.int .u64 0,.str [],.str [],.int .u64 (np:Int),.int .u64 (nr:Int)]] (.tup [.agg [.int .i64 zk,.int .u64 (zn:Int),byE zb,.sl .ext (Zz zl)],.int .i64 c]) []:=hW
 refine AP.ofA (Zl Tryd.func32 Z Tryd.ntmps32 Z Z ?_)
 repeat'(first|(apply Zb (hE);kernel_rfl;(iterate 4 exact Z))|(apply Zb (hW);kernel_rfl;(iterate 4 exact Z))|(apply Zg Za;exact Z)|(apply Zf Za;exact Z)|(apply Zs Za;exact Z)|refine Ze Z Z Z Qt ?_|refine Zo Z Z Z Qt ?_|refine Zk Z Qt Z Z ?_|refine Zi Z Qt Z Z ?_|refine Zd Z Qt ?_|refine Zh Z Qt ?_|refine Zn Za Z Z Z Z ?_|(apply Zm 19 ZF;decide +kernel;kernel_rfl;kernel_rfl;kernel_rfl;exact Z;exact Z)|(apply Zq;(iterate 4 exact Z))|exact AE.nil _ _ _ _|(apply Zu;exact Z)|(apply Ye;exact Z)|(apply ZB;exact Z;exact Z;decide +kernel;exact Z)|(apply ZC;exact Z)|(apply YF;exact Z)|exact AO.nil _ _ _|(apply Zp;(decide +kernel))|(apply Z1;(iterate 3 exact Z))|exact AOs.nil|exact ZH rfl rfl|exact Y4 rfl rfl|(apply Zx Za;(iterate 6 exact Z);(first|exact Qt|rotate_left);(first|with_reducible assumption|decide +kernel|exact Z);(first|exact Zj rfl|with_reducible assumption|decide +kernel|rotate_left)))
 all_goals exact Qe
theorem MV [Known](x:EidV)(y z:It)(n:Nat)(b:List UInt8)(n2:Nat)(b2:List UInt8)(kp:Int)(np:Nat)(bp:List UInt8)(lp:List It)(kr:Int)(nr:Nat)(br:List UInt8)(lr:List It)
  (hE:AP Tryd.prog 41 [itD y] (.tup [.agg (eC x),.int .i64 0]) []) (hW:AP Tryd.prog 25 [.agg (iC x np nr)] (.tup [itD z,.int .i64 3]) []) :
  AP Tryd.prog 32 [itD (.mk 4 n b [y,.mk 4 n2 b2 [.mk kp np bp lp,.mk kr nr br lr]])] (.tup [.agg (iC Yl 0 0),.int .i64 3]) []:=by
 have hU:=Y2 [y,.mk 4 n2 b2 [.mk kp np bp lp,.mk kr nr br lr]]
 have hU2:=Y2 [.mk kp np bp lp,.mk kr nr br lr]
 have t2:(((Zz [y,.mk 4 n2 b2 [.mk kp np bp lp,.mk kr nr br lr]]).length:Int) != 2)=false:=rfl
 have t3:(((Zz [.mk kp np bp lp,.mk kr nr br lr]).length:Int) != 2)=false:=rfl
 obtain⟨yk,yn,yb,yl⟩:=y
 obtain⟨zk,zn,zb,zl⟩:=z
 obtain⟨xi,xn,xs,xh,xd⟩:=x
 replace hE:AP Tryd.prog _ [.agg [.int .i64 yk,.int .u64 (yn:Int),byE yb,.sl .ext (Zz yl)]] (.tup [.agg [.bool xi,.int .u64 (xn:Int),.int .u64 (xs:Int),.str xh,.str xd],.int .i64 0]) []:=hE
 replace hW:AP Tryd.prog _ [.agg [.bool xi,.int .u64 (xn:Int),.int .u64 (xs:Int),.str xh,.str xd,.int .u64 (np:Int),.int .u64 (nr:Int)]] (.tup [.agg [.int .i64 zk,.int .u64 (zn:Int),byE zb,.sl .ext (Zz zl)],.int .i64 3]) []:=hW
 refine AP.ofA (Zl Tryd.func32 Z Tryd.ntmps32 Z Z ?_)
 repeat'(first|(apply Zb (hE);kernel_rfl;(iterate 4 exact Z))|(apply Zb (hW);kernel_rfl;(iterate 4 exact Z))|(apply Zg Za;exact Z)|(apply Zf Za;exact Z)|(apply Zs Za;exact Z)|refine Ze Z Z Z Qt ?_|refine Zo Z Z Z Qt ?_|refine Zk Z Qt Z Z ?_|refine Zi Z Qt Z Z ?_|refine Zd Z Qt ?_|refine Zh Z Qt ?_|refine Zn Za Z Z Z Z ?_|(apply Zm 19 ZF;decide +kernel;kernel_rfl;kernel_rfl;kernel_rfl;exact Z;exact Z)|(apply Zq;(iterate 4 exact Z))|exact AE.nil _ _ _ _|(apply Zu;exact Z)|(apply Ye;exact Z)|(apply ZB;exact Z;exact Z;decide +kernel;exact Z)|(apply ZC;exact Z)|(apply YF;exact Z)|exact AO.nil _ _ _|(apply Zp;(decide +kernel))|(apply Z1;(iterate 3 exact Z))|exact AOs.nil|exact ZH rfl rfl|exact Y4 rfl rfl|(apply Zx Za;(iterate 6 exact Z);(first|exact Qt|rotate_left);(first|with_reducible assumption|decide +kernel|exact Z);(first|exact Zj rfl|with_reducible assumption|decide +kernel|rotate_left)))
 all_goals exact Qe
theorem MW [Known](x:EidV)(y z:It)(n:Nat)(b:List UInt8)(n2:Nat)(b2:List UInt8)(kp:Int)(np:Nat)(bp:List UInt8)(lp:List It)(kr:Int)(nr:Nat)(br:List UInt8)(lr:List It)(R:Bool)
  (hE:AP Tryd.prog 41 [itD y] (.tup [.agg (eC x),.int .i64 0]) []) (hW:AP Tryd.prog 25 [.agg (iC x np nr)] (.tup [itD z,.int .i64 0]) [])
  (hS:AP Tryd.prog 42 [itD z,itD (.mk 4 n b [y,.mk 4 n2 b2 [.mk kp np bp lp,.mk kr nr br lr]])] (.bool R) []) :
  AP Tryd.prog 32 [itD (.mk 4 n b [y,.mk 4 n2 b2 [.mk kp np bp lp,.mk kr nr br lr]])] (Na x np nr R) []:=by
 have hU:=Y2 [y,.mk 4 n2 b2 [.mk kp np bp lp,.mk kr nr br lr]]
 have hU2:=Y2 [.mk kp np bp lp,.mk kr nr br lr]
 have t2:(((Zz [y,.mk 4 n2 b2 [.mk kp np bp lp,.mk kr nr br lr]]).length:Int) != 2)=false:=rfl
 have t3:(((Zz [.mk kp np bp lp,.mk kr nr br lr]).length:Int) != 2)=false:=rfl
 obtain⟨yk,yn,yb,yl⟩:=y
 obtain⟨zk,zn,zb,zl⟩:=z
 obtain⟨xi,xn,xs,xh,xd⟩:=x
 replace hE:AP Tryd.prog _ [.agg [.int .i64 yk,.int .u64 (yn:Int),byE yb,.sl .ext (Zz yl)]] (.tup [.agg [.bool xi,.int .u64 (xn:Int),.int .u64 (xs:Int),.str xh,.str xd],.int .i64 0]) []:=hE
 replace hW:AP Tryd.prog _ [.agg [.bool xi,.int .u64 (xn:Int),.int .u64 (xs:Int),.str xh,.str xd,.int .u64 (np:Int),.int .u64 (nr:Int)]] (.tup [.agg [.int .i64 zk,.int .u64 (zn:Int),byE zb,.sl .ext (Zz zl)],.int .i64 0]) []:=hW
 replace hS:AP Tryd.prog _ [.agg [.int .i64 zk,.int .u64 (zn:Int),byE zb,.sl .ext (Zz zl)],itD (.mk 4 n b [.mk yk yn yb yl,.mk 4 n2 b2 [.mk kp np bp lp,.mk kr nr br lr]])] (.bool R) []:=hS
 cases R with
 | true=>
  show AP Tryd.prog _ _ (.tup [.agg [.bool xi,.int .u64 (xn:Int),.int .u64 (xs:Int),.str xh,.str xd,.int .u64 (np:Int),.int .u64 (nr:Int)],.int .i64 0]) []
  refine AP.ofA (Zl Tryd.func32 Z Tryd.ntmps32 Z Z ?_)
  repeat'(first|(apply Zb (hE);kernel_rfl;(iterate 4 exact Z))|(apply Zb (hW);kernel_rfl;(iterate 4 exact Z))|(apply Zb (hS);kernel_rfl;(iterate 4 exact Z))|(apply Zg Za;exact Z)|(apply Zf Za;exact Z)|(apply Zs Za;exact Z)|refine Ze Z Z Z Qt ?_|refine Zi Z Qt Z Z ?_|refine Zh Z Qt ?_|refine Zn Za Z Z Z Z ?_|(apply Zm 19 ZF;decide +kernel;kernel_rfl;kernel_rfl;kernel_rfl;exact Z;exact Z)|(apply Zq;(iterate 4 exact Z))|exact AE.nil _ _ _ _|(apply Zu;exact Z)|(apply Ye;exact Z)|(apply ZB;exact Z;exact Z;decide +kernel;exact Z)|(apply ZC;exact Z)|(apply YF;exact Z)|exact AO.nil _ _ _|(apply Zp;(decide +kernel))|(apply Z1;(iterate 3 exact Z))|exact AOs.nil|exact ZH rfl rfl|exact Y4 rfl rfl|(apply Zx Za;(iterate 6 exact Z);(first|exact Qt|rotate_left);(first|with_reducible assumption|decide +kernel|exact Z);(first|exact Zj rfl|with_reducible assumption|decide +kernel|rotate_left)))
  all_goals exact Qe
 | false=>
  show AP Tryd.prog _ _ (.tup [.agg [.bool false,.int .u64 0,.int .u64 0,.str [],.str [],.int .u64 0,.int .u64 0],.int .i64 3]) []
  refine AP.ofA (Zl Tryd.func32 Z Tryd.ntmps32 Z Z ?_)
  repeat'(first|(apply Zb (hE);kernel_rfl;(iterate 4 exact Z))|(apply Zb (hW);kernel_rfl;(iterate 4 exact Z))|(apply Zb (hS);kernel_rfl;(iterate 4 exact Z))|(apply Zg Za;exact Z)|(apply Zf Za;exact Z)|(apply Zs Za;exact Z)|refine Ze Z Z Z Qt ?_|refine Zi Z Qt Z Z ?_|refine Zd Z Qt ?_|refine Zh Z Qt ?_|refine Zn Za Z Z Z Z ?_|(apply Zm 19 ZF;decide +kernel;kernel_rfl;kernel_rfl;kernel_rfl;exact Z;exact Z)|(apply Zq;(iterate 4 exact Z))|exact AE.nil _ _ _ _|(apply Zu;exact Z)|(apply Ye;exact Z)|(apply ZB;exact Z;exact Z;decide +kernel;exact Z)|(apply ZC;exact Z)|(apply YF;exact Z)|exact AO.nil _ _ _|(apply Zp;(decide +kernel))|(apply Z1;(iterate 3 exact Z))|exact AOs.nil|exact ZH rfl rfl|exact Y4 rfl rfl|(apply Zx Za;(iterate 6 exact Z);(first|exact Qt|rotate_left);(first|with_reducible assumption|decide +kernel|exact Z);(first|exact Zj rfl|with_reducible assumption|decide +kernel|rotate_left)))
  all_goals exact Qe
theorem Ok [Known][KnownU8](n:Nat)(b:List UInt8)(y:It)(n2:Nat)(b2:List UInt8)(p r:It)(hw:wfI (.mk 4 n b [y,.mk 4 n2 b2 [p,r]])) :
  AP Tryd.prog 32 [itD (.mk 4 n b [y,.mk 4 n2 b2 [p,r]])] (Na (Ub y) p.n r.n (UY y p r (.mk 4 n b [y,.mk 4 n2 b2 [p,r]]))) []:=by
 have hwy:wfI y:=hw.2.2.2.1
 have hE:=K0 y hwy
 have hW:=QL (Ub y) p.n r.n
 unfold UY
 cases hv:(YL y).2 with
 | false=>
  have e0:Ub y=Yl:=by unfold Ub;rw[hv]
  unfold OT at hE
  rw[hv]at hE
  rw[e0]at hW
  obtain⟨kp,np,bp,lp⟩:=p
  obtain⟨kr,nr,br,lr⟩:=r
  exact MU y _ n b n2 b2 kp np bp lp kr nr br lr _ hE hW
 | true=>
  have e0:Ub y=(YL y).1:=by unfold Ub;rw[hv]
  unfold OT at hE
  rw[hv]at hE
  rw[<- e0]at hE
  cases hr:Y0 (Ub y) p.n r.n with
  | false=>
   rw[hr]at hW
   obtain⟨kp,np,bp,lp⟩:=p
   obtain⟨kr,nr,br,lr⟩:=r
   exact MV _ y _ n b n2 b2 kp np bp lp kr nr br lr hE hW
  | true=>
   rw[hr,if_pos rfl,if_pos rfl]at hW
   have hS:=Qj _ (K2 hr) _ hw
   obtain⟨kp,np,bp,lp⟩:=p
   obtain⟨kr,nr,br,lr⟩:=r
   exact MW _ y _ n b n2 b2 kp np bp lp kr nr br lr _ hE hW hS
def Wg (z:It):EidV × Nat × Nat × Bool:=match z with
 | .mk k n b [y,.mk k2 n2 b2 [p,r]]=>(match k==4&&k2==4 with
  | false=>(Yl,0,0,false)
  | true=>match UY y p r (.mk k n b [y,.mk k2 n2 b2 [p,r]]) with
   | true=>(Ub y,p.n,r.n,true)
   | false=>(Yl,0,0,false))
 | _=>(Yl,0,0,false)
theorem H5 [Known][KnownU8](z:It)(hw:wfI z):AP Tryd.prog 32 [itD z] (.tup [.agg (iC (Wg z).1 (Wg z).2.1 (Wg z).2.2.1),.int .i64 (match(Wg z).2.2.2 with|true=>0|false=>3)]) []:=by
 cases h:JV z with
 | true=>
  have e:Wg z=(Yl,0,0,false):=by
   unfold JV at h
   unfold Wg
   split at h
   ·rw[Bool.not_eq_true']at h
    first|(rw[h];done)|(dsimp only;rw[h])
   ·rename_i hno
    first|rfl|(split<;>first|exact absurd rfl (hno _ _ _ _ _ _ _ _ _)|rfl)
  rw[e]
  exact O3 z h
 | false=>
  obtain⟨n,b,y,n2,b2,p,r,rfl⟩:∃ n b y n2 b2 p r,z=.mk 4 n b [y,.mk 4 n2 b2 [p,r]]:=by
   unfold JV at h
   split at h
   ·simp only[Bool.not_eq_false',Bool.and_eq_true,beq_iff_eq]at h
    obtain⟨rfl,rfl⟩:=h
    exact⟨_,_,_,_,_,_,_,rfl⟩
   ·cases h
  have hR:=Ok n b y n2 b2 p r hw
  have e:Wg (.mk 4 n b [y,.mk 4 n2 b2 [p,r]])=(match UY y p r (.mk 4 n b [y,.mk 4 n2 b2 [p,r]]) with
   | true=>(Ub y,p.n,r.n,true)
   | false=>(Yl,0,0,false)):=rfl
  rw[e]
  unfold Na at hR
  cases hb:UY y p r (.mk 4 n b [y,.mk 4 n2 b2 [p,r]]) with
  | false=>rw[hb]at hR;exact hR
  | true=>rw[hb]at hR;exact hR
theorem VP {x:EidV}(h:Z8 x=true):(ZG (Yt x)).length<=200:=by
 unfold Yt
 repeat' split
 ·exact Nat.le_trans (V2 1 0) (by decide)
 ·have h0:=Z5 4 0 [] [.mk 0 2 [] [],Oj x.n x.s]
  have h1:=Z7 2
  have h2:=V2 x.n x.s
  simp only[ZJ,List.length_append,List.length_nil,Nat.add_zero,Nat.zero_add]at h0
  exact Nat.le_trans h0 (by omega)
 ·have h0:=Z5 4 0 [] [.mk 0 1 [] [],.mk 3 0 (Y7 x) []]
  have h1:=Z7 1
  have h2:=Z5 3 0 (Y7 x) []
  rename_i hz hi
  have h3:(Y7 x).length<=100:=by
   have ht:=WO h (by simpa using hz) (by simpa using hi)
   simp only[Y7,List.length_append,List.length_cons,List.length_nil]
   omega
  simp only[ZJ,List.length_append,List.length_nil,Nat.add_zero,Nat.zero_add]at h0 h2
  exact Nat.le_trans h0 (by omega)
theorem QM (a c:List It):ZJ (a++c)=ZJ a++ZJ c:=by
 induction a with
 | nil=>rfl
 | cons y a ih=>rw[List.cons_append,ZJ,ZJ,ih,List.append_assoc]
theorem MX {p:PriV}(h:W0 p=true)(s:Nat)(hs:s=1\/s=2):(ZG (Yc s (Vo p))).length<=1000000000:=by
 obtain⟨h1,h2,h3,h4,h5,h6⟩:=Qq h
 obtain⟨i1,_,_⟩:=Y8.1 h5
 have h0:=Z5 4 0 [] (Vo p++[.mk 2 0 (List.replicate (2*s) 0) []])
 have hb:=Z5 2 0 (List.replicate (2*s) 0) []
 have n1:=Z7 7
 have n2:=Z7 p.fl
 have n3:=Z7 p.sum.toNat
 have n4:=VP h3
 have n5:=VP i1
 have n6:=VP h4
 have n7:=V2 p.t p.q
 have n8:=Z7 p.life
 have e7:Oj p.t p.q=.mk 4 0 [] [.mk 0 p.t [] [],.mk 0 p.q [] []]:=rfl
 rw[e7]at n7
 rw[QM]at h0
 simp only[Vo,ZJ,List.length_append,List.length_nil,List.length_replicate,Nat.add_zero,Nat.zero_add]at h0 hb
 show(ZG (.mk 4 0 [] (Vo p++[.mk 2 0 (List.replicate (2*s) 0) []]))).length<=1000000000
 exact Nat.le_trans h0 (by omega)
theorem O4 [Known][KnownU8](p:PriV)(hfl:p.fl<18446744073709551616):AP Tryd.prog 36 [.agg (prC p)] (Qo (WE p)) []:=by
 cases h:W0 p with
 | true=>exact GA p hfl (MX h)
 | false=>
  have hR:=XJ p
  unfold WE
  rw[h]at hR ⊢
  obtain⟨fl,sum,⟨di,dn,ds,dh,dd⟩,⟨ri,rn,rs,rh,rd⟩,⟨xi,xn,xs,xh,xd⟩,t,q,life⟩:=p
  dsimp only[z0]at *
  refine AP.ofA (Zl Tryd.func36 Z Tryd.ntmps36 Z Z ?_)
  repeat'(first|(apply Zb (hR);kernel_rfl;(iterate 4 exact Z))|(apply Zg Za;exact Z)|(apply Zf Za;exact Z)|(apply Zs Za;exact Z)|refine Zd Z Qt ?_)
  all_goals exact Qe
theorem XO {p:PriV}(hfl:p.fl<18446744073709551616):wfI (WE p).1:=by
 unfold WE
 cases h:W0 p with
 | false=>exact H2
 | true=>exact IR 2 (Ny h hfl) (by simp[Vo])
def pr0:PriV:=⟨0,0,Yl,Yl,Yl,0,0,0⟩
def eZ (y:It):EidV:=match(YL y).2 with|true=>(YL y).1|false=>Yl
end Go.Proofs.YtmljabhmajehnaaDoor
end
