/- The document's blocks: the item that data are; an age, hops, a name. -/
import Derived.Test.YtmljabhmajehnaaGreatDoorO35
import Derived.Test.YtmljabhmajehnaaGreatDoorO31
import Derived.Test.YtmljabhmajehnaaGreatDoorO25
import Derived.Test.YtmljabhmajehnaaGreatDoorO37
set_option linter.unusedVariables false
set_option linter.unusedSimpArgs false
section
open Go.RowKit Go.Pl Go.Av
namespace Go.Proofs.YtmljabhmajehnaaGreatDoor
set_option maxHeartbeats 4000000
theorem Ru (d:List UInt8)(hd:d.length<=100000){y:It}{n:Nat}(h:Yl d 0=(y,n,0)):Wq d=(((n:Int)==(d.length:Int))&&(ZN y==d)):=by
 have e:Yl d 0=match ZS 6 256 d with
   | .error e=>(.mk 0 0 [] [],0,e)
   | .ok (x,r,_)=>(x,d.length-r.length,0):=by rw[Yl,if_neg (by omega)];rfl
 unfold Wq
 rw[e]at h
 cases hx:ZS 6 256 d with
 | error c=>
  rw[hx]at h
  injection h with _ h
  injection h with _ h
  exact absurd h (Uh _ _ _ _ hx)
 | ok z=>
  obtain⟨z,r,m1⟩:=z
  obtain⟨_,_,pre,hpre,hpos,_⟩:=Q8 6 (Nat.le_refl _) _ _ _ _ _ hx (by omega)
  rw[hx]at h
  injection h with h1 h2
  injection h2 with h2 _
  subst h1 h2
  have hpl:=congrArg List.length hpre
  rw[List.length_append]at hpl
  have e1:r.isEmpty=(((d.length-r.length:Nat):Int)==(d.length:Int)):=by
   cases r with
   | nil=>simp
   | cons c r=>
    have:¬ ((d.length-(c::r).length:Nat):Int)=(d.length:Int):=by simp only[List.length_cons]at hpl ⊢;omega
    simpa using this
  dsimp only
  rw[e1]
def K5 (d:List UInt8):It:=match Wq d with
 | true=>(Yl d 0).1
 | false=>.mk 0 0 [] []
theorem K6 [Known][KnownU8](d:List UInt8)(hd:d.length<=100000):AP Tryz.prog 69 [byE d] (.tup [itD (K5 d),.bool (Wq d)]) []:=by
 have hR:=Rj d 0 (by omega)
 unfold K5
 rcases UN d (by omega) with⟨e,he,h,hs⟩ | ⟨y,m,h,hw,hr,hl,hm⟩
 ·rw[h]at hR
  rw[hs]
  replace hR:AP Tryz.prog _ _ (.tup [.agg [.int .i64 0,.int .u64 0,.sl .ext [],.sl .ext []],.int .i64 0,.int .i64 (e:Int)]) []:=hR
  have t1:((e:Int) != 0)=true:=by simpa using he
  refine AP.ofA (Zl Tryz.func69 U Tryz.ntmps69 U U ?_)
  repeat'(first|(apply Zb (hR);kernel_rfl;(iterate 4 exact U))|(apply Zh Za;exact U)|(apply Zg Za;exact U)|(apply Zo Za;exact U)|refine Zn U U U Qt ?_|refine Zk U Qt U U ?_|refine Zd U Qt ?_|(apply Zq 14 ZF;decide +kernel;kernel_rfl;kernel_rfl;kernel_rfl;exact U;exact U)|(apply Zt;(iterate 4 exact U))|exact AE.nil _ _ _ _|(apply Zw;exact U)|(apply Zz;exact U;exact U;decide +kernel;exact U)|(apply ZA;exact U)|exact AO.nil _ _ _|(apply Zs;(decide +kernel))|exact AOs.nil|exact ZI rfl rfl)
  all_goals exact Qe
 ·have hf:Yw y=true:=by
   have:=hr
   rw[Ws]at this
   simp only[Bool.and_eq_true]at this
   exact this.2.2
  have hW:=Vi y hw hf (by omega)
  have hsh:=Ru d hd h
  have hdl:(d.map E.byte).length=d.length:=List.length_map ..
  rw[h]at hR
  rw[hsh,h]
  dsimp only
  generalize ZN y=P at *
  obtain⟨k,n,b,l⟩:=y
  replace hR:AP Tryz.prog _ _ (.tup [.agg (itC k n b l),.int .i64 (m:Int),.int .i64 0]) []:=hR
  cases t1:((m:Int)==(d.length:Int)) with
  | false=>
   have t1':((m:Int) != ((d.map E.byte).length:Int))=true:=by rw[hdl,bne,t1];rfl
   refine AP.ofA (Zl Tryz.func69 U Tryz.ntmps69 U U ?_)
   repeat'(first|(apply Zb (hR);kernel_rfl;(iterate 4 exact U))|(apply Zh Za;exact U)|(apply Zg Za;exact U)|(apply Zo Za;exact U)|refine Ze U U U Qt ?_|refine Zn U U U Qt ?_|refine Zk U Qt U U ?_|refine Zi U Qt U U ?_|refine Zd U Qt ?_|refine Zm Za U U U U ?_|(apply Zq 14 ZF;decide +kernel;kernel_rfl;kernel_rfl;kernel_rfl;exact U;exact U)|(apply Zt;(iterate 4 exact U))|exact AE.nil _ _ _ _|(apply Zw;exact U)|(apply Zz;exact U;exact U;decide +kernel;exact U)|(apply ZA;exact U)|exact AO.nil _ _ _|(apply Zs;(decide +kernel))|exact AOs.nil|exact ZI rfl rfl)
   all_goals exact Qe
  | true=>
   have t1':((m:Int) != ((d.map E.byte).length:Int))=false:=by rw[hdl,bne,t1];rfl
   cases t2:(P==d) with
   | false=>
    have t2':(P != d)=true:=by rw[bne,t2];rfl
    refine AP.ofA (Zl Tryz.func69 U Tryz.ntmps69 U U ?_)
    repeat'(first|(apply Zb (hR);kernel_rfl;(iterate 4 exact U))|(apply Zb (hW);kernel_rfl;(iterate 4 exact U))|(apply Zh Za;exact U)|(apply Zg Za;exact U)|(apply Zo Za;exact U)|refine Ze U U U Qt ?_|refine Zi U Qt U U ?_|refine Zd U Qt ?_|refine Zm Za U U U U ?_|(apply Zq 14 ZF;decide +kernel;kernel_rfl;kernel_rfl;kernel_rfl;exact U;exact U)|(apply Zt;(iterate 4 exact U))|exact AE.nil _ _ _ _|(apply Zw;exact U)|(apply Zz;exact U;exact U;decide +kernel;exact U)|(apply ZA;exact U)|exact AO.nil _ _ _|(apply Zs;(decide +kernel))|exact AOs.nil|exact ZI rfl rfl|refine Vo Za U U U U U U U U U ?_)
    all_goals exact Qe
   | true=>
    have t2':(P != d)=false:=by rw[bne,t2];rfl
    refine AP.ofA (Zl Tryz.func69 U Tryz.ntmps69 U U ?_)
    repeat'(first|(apply Zb (hR);kernel_rfl;(iterate 4 exact U))|(apply Zb (hW);kernel_rfl;(iterate 4 exact U))|(apply Zh Za;exact U)|(apply Zg Za;exact U)|(apply Zo Za;exact U)|refine Ze U U U Qt ?_|refine Zi U Qt U U ?_|refine Zf U Qt ?_|refine Zm Za U U U U ?_|(apply Zq 14 ZF;decide +kernel;kernel_rfl;kernel_rfl;kernel_rfl;exact U;exact U)|(apply Zt;(iterate 4 exact U))|exact AE.nil _ _ _ _|(apply Zw;exact U)|(apply Zz;exact U;exact U;decide +kernel;exact U)|(apply ZA;exact U)|exact AO.nil _ _ _|(apply Zs;(decide +kernel))|exact AOs.nil|exact ZI rfl rfl|refine Vo Za U U U U U U U U U ?_)
    all_goals exact Qe
theorem MB {k:Int}{n:Nat}{b:List UInt8}{l:List It}(h:ZB (.mk k n b l)=true):(k==0)=It.beq (.mk k n b l) (.mk 0 n [] []):=by
 unfold ZB at h
 cases hw:Y2 (.mk k n b l) 1 256 with
 | none=>rw[hw]at h;cases h
 | some m=>
  obtain⟨h1,h2,h3,h4⟩:=Vg hw
  cases hk:(k==0) with
  | false=>
   cases hb:It.beq (.mk k n b l) (.mk 0 n [] []) with
   | false=>rfl
   | true=>
    have:=It.beq_iff.1 hb
    injection this with e
    subst e
    simp at hk
  | true=>
   have hk:k=0:=by simpa using hk
   subst hk
   have:b=[]/\l=[]:=by simpa[Wb]using h3
   rw[this.1,this.2]
   exact(It.beq_iff.2 rfl).symm
def Ke (d:List UInt8):Nat:=match(Qn d).2 with
 | true=>(Qn d).1
 | false=>0
theorem JK (d:List UInt8)(hd:d.length<=100000):(Wq d=false/\K5 d=.mk 0 0 [] [])\/(Wq d=true/\K5 d=(Yl d 0).1/\ZB (Yl d 0).1=true/\wfI (Yl d 0).1):=by
 unfold K5
 rcases UN d (by omega) with⟨e,he,h,hs⟩ | ⟨y,m,h,hw,hr,_⟩
 ·rw[hs];exact .inl ⟨rfl,rfl⟩
 ·rw[h]
  cases Wq d with
  | false=>exact .inl ⟨rfl,rfl⟩
  | true=>exact .inr ⟨rfl,rfl,hr,hw⟩
theorem IW [Known][KnownU8](d:List UInt8)(hd:d.length<=100000):AP Tryz.prog 125 [byE d] (.tup [.int .u64 (Ke d:Int),.bool (Qn d).2]) []:=by
 have hI:=K6 d hd
 unfold Ke Qn
 rcases JK d hd with⟨hs,hi⟩ | ⟨hs,hi,hr,hw⟩
 ·rw[hs,hi]at hI
  rw[hs]
  replace hI:AP Tryz.prog _ _ (.tup [.agg [.int .i64 0,.int .u64 0,.sl .ext [],.sl .ext []],.bool false]) []:=hI
  refine AP.ofA (Zl Tryz.func125 U Tryz.ntmps125 U U ?_)
  repeat'(first|(apply Zb (hI);kernel_rfl;(iterate 4 exact U))|(apply Zh Za;exact U)|(apply Zg Za;exact U)|(apply Zo Za;exact U)|refine Zn U U U Qt ?_|refine Zk U Qt U U ?_|refine Zd U Qt ?_)
  all_goals exact Qe
 ·rw[hs,hi]at hI
  rw[hs]
  generalize (Yl d 0).1=y at *
  obtain⟨k,n,b,l⟩:=y
  dsimp only
  rw[show(It.mk k n b l).n=n from rfl,<- MB hr]
  replace hI:AP Tryz.prog _ _ (.tup [.agg (itC k n b l),.bool true]) []:=hI
  cases t1:(k==0) with
  | false=>
   have t1':(k != 0)=true:=by rw[bne,t1];rfl
   refine AP.ofA (Zl Tryz.func125 U Tryz.ntmps125 U U ?_)
   repeat'(first|(apply Zb (hI);kernel_rfl;(iterate 4 exact U))|(apply Zh Za;exact U)|(apply Zg Za;exact U)|(apply Zo Za;exact U)|refine Ze U U U Qt ?_|refine Zn U U U Qt ?_|refine Zk U Qt U U ?_|refine Zi U Qt U U ?_|refine Zd U Qt ?_)
   all_goals exact Qe
  | true=>
   have t1':(k != 0)=false:=by rw[bne,t1];rfl
   rcases Nat.lt_or_ge 1099511627776 n with h|h
   ·have t2:decide ((n:Int)<=1099511627776)=false:=decide_eq_false (by omega)
    have t3:decide ((n:Int)>1099511627776)=true:=decide_eq_true (by omega)
    rw[t2]
    refine AP.ofA (Zl Tryz.func125 U Tryz.ntmps125 U U ?_)
    repeat'(first|(apply Zb (hI);kernel_rfl;(iterate 4 exact U))|(apply Zh Za;exact U)|(apply Zg Za;exact U)|(apply Zo Za;exact U)|refine Ze U U U Qt ?_|refine Zi U Qt U U ?_|refine Zd U Qt ?_)
    all_goals exact Qe
   ·have t2:decide ((n:Int)<=1099511627776)=true:=decide_eq_true (by omega)
    have t3:decide ((n:Int)>1099511627776)=false:=decide_eq_false (by omega)
    rw[t2]
    refine AP.ofA (Zl Tryz.func125 U Tryz.ntmps125 U U ?_)
    repeat'(first|(apply Zb (hI);kernel_rfl;(iterate 4 exact U))|(apply Zh Za;exact U)|(apply Zg Za;exact U)|(apply Zo Za;exact U)|refine Ze U U U Qt ?_|refine Zi U Qt U U ?_|refine Zf U Qt ?_)
    all_goals exact Qe
theorem Rv [Known](n m:Nat):AP Tryz.prog 128 [.int .u64 (n:Int),.int .u64 (m:Int)] (itD (.mk 4 0 [] [.mk 0 n [] [],.mk 0 m [] []])) []:=by
 refine AP.ofA (Zl Tryz.func128 U Tryz.ntmps128 U U ?_)
 repeat'(first|(apply Zh Za;exact U)|(apply Zg Za;exact U)|refine ZO Za U U U U U U U U U U U U ?_)
 all_goals exact Qe
def Rw (d:List UInt8):EidV:=match(Js d).2 with
 | true=>(Js d).1
 | false=>Wm
theorem Rx [Known][KnownU8](d:List UInt8)(hd:d.length<=100000):AP Tryz.prog 124 [byE d] (.tup [.agg (eC (Rw d)),.bool (Js d).2]) []:=by
 have hI:=K6 d hd
 unfold Rw Js
 rcases JK d hd with⟨hs,hi⟩ | ⟨hs,hi,hr,hw⟩
 ·rw[hs,hi]at hI
  rw[hs]
  replace hI:AP Tryz.prog _ _ (.tup [.agg [.int .i64 0,.int .u64 0,.sl .ext [],.sl .ext []],.bool false]) []:=hI
  refine AP.ofA (Zl Tryz.func124 U Tryz.ntmps124 U U ?_)
  repeat'(first|(apply Zb (hI);kernel_rfl;(iterate 4 exact U))|(apply Zh Za;exact U)|(apply Zg Za;exact U)|(apply Zo Za;exact U)|refine Zd U Qt ?_)
  all_goals exact Qe
 ·rw[hs,hi]at hI
  rw[hs]
  have hlen:∀ y ∈ (Yl d 0).1.l,y.b.length<=1099511627000:=by
   rcases UN d (by omega) with⟨e,he,h,_⟩ | ⟨y,m,h,_,_,h3,h4⟩
   ·rw[h];simp[It.l]
   ·rw[h]
    obtain⟨k,n,b,l⟩:=y
    intro y hy
    have h1:=Hz (l:=l) hy
    have h2:=D4 k n b l
    have h5:=FJ y
    omega
  have hRR:=Hy (Yl d 0).1 hw hlen
  have hRR':AP Tryz.prog 117 [itD (Yl d 0).1] (.tup [.agg (eC (match(Z5 (Yl d 0).1).2 with|true=>(Z5 (Yl d 0).1).1|false=>Wm)),.bool (Z5 (Yl d 0).1).2]) []:=by
   unfold K4 at hRR
   cases h:(Z5 (Yl d 0).1).2 with
   | true=>rw[h]at hRR;exact hRR
   | false=>rw[h]at hRR;exact hRR
  clear hRR hlen
  rw[Bool.true_and]
  dsimp only
  generalize Z5 (Yl d 0).1=rv at *
  obtain⟨⟨zi,zn,zs,zh,zd⟩,ok⟩:=rv
  generalize (Yl d 0).1=y at *
  obtain⟨k,n,b,l⟩:=y
  replace hI:AP Tryz.prog _ _ (.tup [.agg (itC k n b l),.bool true]) []:=hI
  cases ok with
  | false=>
   replace hRR':AP Tryz.prog 117 [.agg (itC k n b l)] (.tup [.agg [.bool false,.int .u64 0,.int .u64 0,.str [],.str []],.bool false]) []:=hRR'
   refine AP.ofA (Zl Tryz.func124 U Tryz.ntmps124 U U ?_)
   repeat'(first|(apply Zb (hI);kernel_rfl;(iterate 4 exact U))|(apply Zb (hRR');kernel_rfl;(iterate 4 exact U))|(apply Zh Za;exact U)|(apply Zg Za;exact U)|refine Zf U Qt ?_)
   all_goals exact Qe
  | true=>
   replace hRR':AP Tryz.prog 117 [.agg (itC k n b l)] (.tup [.agg [.bool zi,.int .u64 (zn:Int),.int .u64 (zs:Int),.str zh,.str zd],.bool true]) []:=hRR'
   refine AP.ofA (Zl Tryz.func124 U Tryz.ntmps124 U U ?_)
   repeat'(first|(apply Zb (hI);kernel_rfl;(iterate 4 exact U))|(apply Zb (hRR');kernel_rfl;(iterate 4 exact U))|(apply Zh Za;exact U)|(apply Zg Za;exact U)|refine Zf U Qt ?_)
   all_goals exact Qe
def WF (d:List UInt8):Nat × Nat:=match(Wg d).2.2 with
 | true=>((Wg d).1,(Wg d).2.1)
 | false=>(0,0)
theorem MC (k:Int)(n:Nat)(b:List UInt8)(k1:Int)(n1:Nat)(b1:List UInt8)(l1:List It)(k2:Int)(n2:Nat)(b2:List UInt8)(l2:List It) :
  (It.beq (.mk k n b [.mk k1 n1 b1 l1,.mk k2 n2 b2 l2]) (.mk 4 0 [] [.mk 0 n1 [] [],.mk 0 n2 [] []])=false/\(Jt true (.mk k n b [.mk k1 n1 b1 l1,.mk k2 n2 b2 l2])).2.2=false) \/
  (It.beq (.mk k n b [.mk k1 n1 b1 l1,.mk k2 n2 b2 l2]) (.mk 4 0 [] [.mk 0 n1 [] [],.mk 0 n2 [] []])=true/\Jt true (.mk k n b [.mk k1 n1 b1 l1,.mk k2 n2 b2 l2])=(n1,n2,decide ((n1:Int) ≥ 1)&&(decide ((n1:Int)<=255)&&decide ((n2:Int)<=(n1:Int))))):=by
 unfold Jt
 dsimp only
 cases h:It.beq (.mk k n b [.mk k1 n1 b1 l1,.mk k2 n2 b2 l2]) (.mk 4 0 [] [.mk 0 n1 [] [],.mk 0 n2 [] []]) with
 | false=>
  refine .inl ⟨rfl,?_⟩
  cases k==4<;>rfl
 | true=>
  have:=It.beq_iff.1 h
  injection this with e
  subst e
  exact .inr ⟨rfl,by rw[show((4:Int)==4)=true from rfl];simp⟩
theorem J7 [Known][KnownU8](d:List UInt8)(hd:d.length<=100000):AP Tryz.prog 88 [byE d] (.tup [.int .u64 ((WF d).1:Int),.int .u64 ((WF d).2:Int),.bool (Wg d).2.2]) []:=by
 have hI:=K6 d hd
 unfold WF Wg
 rcases JK d hd with⟨hs,hi⟩ | ⟨hs,hi,hr,hw⟩
 ·rw[hs,hi]at hI
  rw[hs]
  replace hI:AP Tryz.prog _ _ (.tup [.agg [.int .i64 0,.int .u64 0,.sl .ext [],.sl .ext []],.bool false]) []:=hI
  refine AP.ofA (Zl Tryz.func88 U Tryz.ntmps88 U U ?_)
  repeat'(first|(apply Zb (hI);kernel_rfl;(iterate 4 exact U))|(apply Zh Za;exact U)|(apply Zg Za;exact U)|(apply Zo Za;exact U)|refine Zn U U U Qt ?_|refine Zk U Qt U U ?_|refine Zd U Qt ?_|(apply Zq 21 ZF;decide +kernel;kernel_rfl;kernel_rfl;kernel_rfl;exact U;exact U)|(apply Zt;(iterate 4 exact U))|exact AE.nil _ _ _ _|(apply Zw;exact U)|(apply Zz;exact U;exact U;decide +kernel;exact U)|(apply ZA;exact U)|exact AO.nil _ _ _|(apply Zs;(decide +kernel))|exact AOs.nil|exact ZI rfl rfl)
  all_goals exact Qe
 ·rw[hs,hi]at hI
  rw[hs]
  generalize (Yl d 0).1=y at *
  obtain⟨k,n,b,l⟩:=y
  replace hI:AP Tryz.prog _ _ (.tup [.agg (itC k n b l),.bool true]) []:=hI
  have hlen:=Zv l
  have hU:=Wl l
  have no:l.length ≠ 2->Jt true (.mk k n b l)=(0,0,false):=fun h=>by
   unfold Jt
   dsimp only
   cases k==4 with
   | false=>rfl
   | true=>
    dsimp only
    split
    ·simp at h
    ·rfl
  by_cases h2:l.length=2
  ·clear no
   match l,h2,hI,hw,hU,hlen with
   | [.mk k1 n1 b1 l1,.mk k2 n2 b2 l2],_,hI,hw,hU,hlen=>
   have t2:(((Zx [It.mk k1 n1 b1 l1,.mk k2 n2 b2 l2]).length:Int) != 2)=false:=by rw[hlen];rfl
   have hws:=hw.2.2.2
   have hS:=Qh _ hw (.mk 4 0 [] [.mk 0 n1 [] [],.mk 0 n2 [] []]) ⟨by decide,by simp,by simp,⟨hws.1.1,by simp,by simp,trivial⟩,⟨hws.2.1.1,by simp,by simp,trivial⟩,trivial⟩
   have hN:=Rv n1 n2
   rcases MC k n b k1 n1 b1 l1 k2 n2 b2 l2 with⟨h1,h2⟩ | ⟨h1,h2⟩
   ·rw[h2]
    rw[h1]at hS
    refine AP.ofA (Zl Tryz.func88 U Tryz.ntmps88 U U ?_)
    repeat'(first|(apply Zb (hI);kernel_rfl;(iterate 4 exact U))|(apply Zb (hS);kernel_rfl;(iterate 4 exact U))|(apply Zb (hN);kernel_rfl;(iterate 4 exact U))|(apply Zh Za;exact U)|(apply Zg Za;exact U)|(apply Zo Za;exact U)|refine Ze U U U Qt ?_|refine Zi U Qt U U ?_|refine Zd U Qt ?_|refine Zm Za U U U U ?_|(apply Zq 21 ZF;decide +kernel;kernel_rfl;kernel_rfl;kernel_rfl;exact U;exact U)|(apply Zt;(iterate 4 exact U))|exact AE.nil _ _ _ _|(apply Zw;exact U)|(apply Zz;exact U;exact U;decide +kernel;exact U)|(apply ZA;exact U)|exact AO.nil _ _ _|(apply Zs;(decide +kernel))|exact AOs.nil|exact ZI rfl rfl|(apply Zu Za;(iterate 6 exact U);(first|exact Qt|rotate_left);(first|with_reducible assumption|decide +kernel|exact U);(first|exact Zj rfl|with_reducible assumption|decide +kernel|rotate_left)))
    all_goals exact Qe
   ·rw[h2]
    rw[h1]at hS
    rcases Nat.lt_or_ge n1 1 with g1|g1
    ·have a1:decide ((n1:Int)<1)=true:=decide_eq_true (by omega)
     have c1:decide ((n1:Int) ≥ 1)=false:=decide_eq_false (by omega)
     rw[c1]
     refine AP.ofA (Zl Tryz.func88 U Tryz.ntmps88 U U ?_)
     repeat'(first|(apply Zb (hI);kernel_rfl;(iterate 4 exact U))|(apply Zb (hS);kernel_rfl;(iterate 4 exact U))|(apply Zb (hN);kernel_rfl;(iterate 4 exact U))|(apply Zh Za;exact U)|(apply Zg Za;exact U)|(apply Zo Za;exact U)|refine Ze U U U Qt ?_|refine Zn U U U Qt ?_|refine Zk U Qt U U ?_|refine Zi U Qt U U ?_|refine Zd U Qt ?_|refine Zf U Qt ?_|refine Zm Za U U U U ?_|(apply Zq 11 ZF;decide +kernel;kernel_rfl;kernel_rfl;kernel_rfl;exact U;exact U)|(apply Zq 21 ZF;decide +kernel;kernel_rfl;kernel_rfl;kernel_rfl;exact U;exact U)|(apply Zt;(iterate 4 exact U))|exact AE.nil _ _ _ _|(apply Zw;exact U)|(apply Zz;exact U;exact U;decide +kernel;exact U)|(apply ZA;exact U)|exact AO.nil _ _ _|(apply Zs;(decide +kernel))|exact AOs.nil|exact ZI rfl rfl|(apply Zu Za;(iterate 6 exact U);(first|exact Qt|rotate_left);(first|with_reducible assumption|decide +kernel|exact U);(first|exact Zj rfl|with_reducible assumption|decide +kernel|rotate_left)))
     all_goals exact Qe
    have a1:decide ((n1:Int)<1)=false:=decide_eq_false (by omega)
    have c1:decide ((n1:Int) ≥ 1)=true:=decide_eq_true (by omega)
    rw[c1]
    rcases Nat.lt_or_ge 255 n1 with g2|g2
    ·have a2:decide ((n1:Int)>255)=true:=decide_eq_true (by omega)
     have c2:decide ((n1:Int)<=255)=false:=decide_eq_false (by omega)
     rw[c2]
     refine AP.ofA (Zl Tryz.func88 U Tryz.ntmps88 U U ?_)
     repeat'(first|(apply Zb (hI);kernel_rfl;(iterate 4 exact U))|(apply Zb (hS);kernel_rfl;(iterate 4 exact U))|(apply Zb (hN);kernel_rfl;(iterate 4 exact U))|(apply Zh Za;exact U)|(apply Zg Za;exact U)|(apply Zo Za;exact U)|refine Ze U U U Qt ?_|refine Zn U U U Qt ?_|refine Zk U Qt U U ?_|refine Zi U Qt U U ?_|refine Zd U Qt ?_|refine Zf U Qt ?_|refine Zm Za U U U U ?_|(apply Zq 11 ZF;decide +kernel;kernel_rfl;kernel_rfl;kernel_rfl;exact U;exact U)|(apply Zq 21 ZF;decide +kernel;kernel_rfl;kernel_rfl;kernel_rfl;exact U;exact U)|(apply Zt;(iterate 4 exact U))|exact AE.nil _ _ _ _|(apply Zw;exact U)|(apply Zz;exact U;exact U;decide +kernel;exact U)|(apply ZA;exact U)|exact AO.nil _ _ _|(apply Zs;(decide +kernel))|exact AOs.nil|exact ZI rfl rfl|(apply Zu Za;(iterate 6 exact U);(first|exact Qt|rotate_left);(first|with_reducible assumption|decide +kernel|exact U);(first|exact Zj rfl|with_reducible assumption|decide +kernel|rotate_left)))
     all_goals exact Qe
    have a2:decide ((n1:Int)>255)=false:=decide_eq_false (by omega)
    have c2:decide ((n1:Int)<=255)=true:=decide_eq_true (by omega)
    rw[c2]
    rcases Nat.lt_or_ge n1 n2 with g3|g3
    ·have a3:decide ((n2:Int)>(n1:Int))=true:=decide_eq_true (by omega)
     have c3:decide ((n2:Int)<=(n1:Int))=false:=decide_eq_false (by omega)
     rw[c3]
     refine AP.ofA (Zl Tryz.func88 U Tryz.ntmps88 U U ?_)
     repeat'(first|(apply Zb (hI);kernel_rfl;(iterate 4 exact U))|(apply Zb (hS);kernel_rfl;(iterate 4 exact U))|(apply Zb (hN);kernel_rfl;(iterate 4 exact U))|(apply Zh Za;exact U)|(apply Zg Za;exact U)|(apply Zo Za;exact U)|refine Ze U U U Qt ?_|refine Zi U Qt U U ?_|refine Zd U Qt ?_|refine Zf U Qt ?_|refine Zm Za U U U U ?_|(apply Zq 11 ZF;decide +kernel;kernel_rfl;kernel_rfl;kernel_rfl;exact U;exact U)|(apply Zq 21 ZF;decide +kernel;kernel_rfl;kernel_rfl;kernel_rfl;exact U;exact U)|(apply Zt;(iterate 4 exact U))|exact AE.nil _ _ _ _|(apply Zw;exact U)|(apply Zz;exact U;exact U;decide +kernel;exact U)|(apply ZA;exact U)|exact AO.nil _ _ _|(apply Zs;(decide +kernel))|exact AOs.nil|exact ZI rfl rfl|(apply Zu Za;(iterate 6 exact U);(first|exact Qt|rotate_left);(first|with_reducible assumption|decide +kernel|exact U);(first|exact Zj rfl|with_reducible assumption|decide +kernel|rotate_left)))
     all_goals exact Qe
    have a3:decide ((n2:Int)>(n1:Int))=false:=decide_eq_false (by omega)
    have c3:decide ((n2:Int)<=(n1:Int))=true:=decide_eq_true (by omega)
    rw[c3]
    refine AP.ofA (Zl Tryz.func88 U Tryz.ntmps88 U U ?_)
    repeat'(first|(apply Zb (hI);kernel_rfl;(iterate 4 exact U))|(apply Zb (hS);kernel_rfl;(iterate 4 exact U))|(apply Zb (hN);kernel_rfl;(iterate 4 exact U))|(apply Zh Za;exact U)|(apply Zg Za;exact U)|(apply Zo Za;exact U)|refine Ze U U U Qt ?_|refine Zi U Qt U U ?_|refine Zf U Qt ?_|refine Zm Za U U U U ?_|(apply Zq 11 ZF;decide +kernel;kernel_rfl;kernel_rfl;kernel_rfl;exact U;exact U)|(apply Zq 21 ZF;decide +kernel;kernel_rfl;kernel_rfl;kernel_rfl;exact U;exact U)|(apply Zt;(iterate 4 exact U))|exact AE.nil _ _ _ _|(apply Zw;exact U)|(apply Zz;exact U;exact U;decide +kernel;exact U)|(apply ZA;exact U)|exact AO.nil _ _ _|(apply Zs;(decide +kernel))|exact AOs.nil|exact ZI rfl rfl|(apply Zu Za;(iterate 6 exact U);(first|exact Qt|rotate_left);(first|with_reducible assumption|decide +kernel|exact U);(first|exact Zj rfl|with_reducible assumption|decide +kernel|rotate_left)))
    all_goals exact Qe
  ·rw[no h2]
   have t2:(((Zx l).length:Int) != 2)=true:=by rw[hlen];simp;omega
   refine AP.ofA (Zl Tryz.func88 U Tryz.ntmps88 U U ?_)
   repeat'(first|(apply Zb (hI);kernel_rfl;(iterate 4 exact U))|(apply Zh Za;exact U)|(apply Zg Za;exact U)|(apply Zo Za;exact U)|refine Ze U U U Qt ?_|refine Zn U U U Qt ?_|refine Zk U Qt U U ?_|refine Zi U Qt U U ?_|refine Zd U Qt ?_|refine Zm Za U U U U ?_|(apply Zq 21 ZF;decide +kernel;kernel_rfl;kernel_rfl;kernel_rfl;exact U;exact U)|(apply Zt;(iterate 4 exact U))|exact AE.nil _ _ _ _|(apply Zw;exact U)|(apply Zz;exact U;exact U;decide +kernel;exact U)|(apply ZA;exact U)|exact AO.nil _ _ _|(apply Zs;(decide +kernel))|exact AOs.nil|exact ZI rfl rfl)
   all_goals exact Qe
theorem FK [Known](ty num fl F:Nat)(sum:Int)(d:List UInt8)(g:Bool)(hg:decide ((fl:Int) ≥ 16)=g)(hF:g=false->fl=F)(hw:g=true->IntKind.u64.wrap ((fl:Int)-16)=(F:Int))(t0:decide ((ty:Int)<1)=true) :
  AP Tryz.prog 80 [.agg [.int .u64 (ty:Int),.int .u64 (num:Int),.int .u64 (fl:Int),.int .i64 sum,byE d]] (.bool false) []:=by
 cases g with
 | false=>
  obtain rfl:=hF rfl
  clear hw hF
  refine AP.ofA (Zl Tryz.func80 U Tryz.ntmps80 U U ?_)
  repeat'(first|(apply Zh Za;exact U)|(apply Zg Za;exact U)|(apply Zo Za;exact U)|refine Zn U U U Qt ?_|refine Zk U Qt U U ?_|refine Zd U Qt ?_|refine Zf U Qt ?_)
  all_goals exact Qe
 | true=>
  have hw:=hw rfl
  clear hF
  refine AP.ofA (Zl Tryz.func80 U Tryz.ntmps80 U U ?_)
  repeat'(first|rw[hw]|(apply Zh Za;exact U)|(apply Zg Za;exact U)|(apply Zo Za;exact U)|refine Zn U U U Qt ?_|refine Zk U Qt U U ?_|refine Zd U Qt ?_)
  all_goals exact Qe
theorem FL [Known](ty num fl F:Nat)(sum:Int)(d:List UInt8)(g:Bool)(hg:decide ((fl:Int) ≥ 16)=g)(hF:g=false->fl=F)(hw:g=true->IntKind.u64.wrap ((fl:Int)-16)=(F:Int))(t0:decide ((ty:Int)<1)=false)(t1:decide ((ty:Int)>255)=true) :
  AP Tryz.prog 80 [.agg [.int .u64 (ty:Int),.int .u64 (num:Int),.int .u64 (fl:Int),.int .i64 sum,byE d]] (.bool false) []:=by
 cases g with
 | false=>
  obtain rfl:=hF rfl
  clear hw hF
  refine AP.ofA (Zl Tryz.func80 U Tryz.ntmps80 U U ?_)
  repeat'(first|(apply Zh Za;exact U)|(apply Zg Za;exact U)|(apply Zo Za;exact U)|refine Ze U U U Qt ?_|refine Zn U U U Qt ?_|refine Zk U Qt U U ?_|refine Zi U Qt U U ?_|refine Zd U Qt ?_|refine Zf U Qt ?_)
  all_goals exact Qe
 | true=>
  have hw:=hw rfl
  clear hF
  refine AP.ofA (Zl Tryz.func80 U Tryz.ntmps80 U U ?_)
  repeat'(first|rw[hw]|(apply Zh Za;exact U)|(apply Zg Za;exact U)|(apply Zo Za;exact U)|refine Ze U U U Qt ?_|refine Zn U U U Qt ?_|refine Zk U Qt U U ?_|refine Zi U Qt U U ?_|refine Zd U Qt ?_)
  all_goals exact Qe
theorem FM [Known](ty num fl F:Nat)(sum:Int)(d:List UInt8)(g:Bool)(hg:decide ((fl:Int) ≥ 16)=g)(hF:g=false->fl=F)(hw:g=true->IntKind.u64.wrap ((fl:Int)-16)=(F:Int))(t0:decide ((ty:Int)<1)=false)(t1:decide ((ty:Int)>255)=false)(t2:decide ((num:Int)<1)=true) :
  AP Tryz.prog 80 [.agg [.int .u64 (ty:Int),.int .u64 (num:Int),.int .u64 (fl:Int),.int .i64 sum,byE d]] (.bool false) []:=by
 cases g with
 | false=>
  obtain rfl:=hF rfl
  clear hw hF
  refine AP.ofA (Zl Tryz.func80 U Tryz.ntmps80 U U ?_)
  repeat'(first|(apply Zh Za;exact U)|(apply Zg Za;exact U)|(apply Zo Za;exact U)|refine Ze U U U Qt ?_|refine Zn U U U Qt ?_|refine Zk U Qt U U ?_|refine Zi U Qt U U ?_|refine Zd U Qt ?_|refine Zf U Qt ?_)
  all_goals exact Qe
 | true=>
  have hw:=hw rfl
  clear hF
  refine AP.ofA (Zl Tryz.func80 U Tryz.ntmps80 U U ?_)
  repeat'(first|rw[hw]|(apply Zh Za;exact U)|(apply Zg Za;exact U)|(apply Zo Za;exact U)|refine Ze U U U Qt ?_|refine Zn U U U Qt ?_|refine Zk U Qt U U ?_|refine Zi U Qt U U ?_|refine Zd U Qt ?_)
  all_goals exact Qe
theorem FN [Known](ty num fl F:Nat)(sum:Int)(d:List UInt8)(g:Bool)(hg:decide ((fl:Int) ≥ 16)=g)(hF:g=false->fl=F)(hw:g=true->IntKind.u64.wrap ((fl:Int)-16)=(F:Int))(t0:decide ((ty:Int)<1)=false)(t1:decide ((ty:Int)>255)=false)(t2:decide ((num:Int)<1)=false)(t3:decide ((num:Int)>255)=true) :
  AP Tryz.prog 80 [.agg [.int .u64 (ty:Int),.int .u64 (num:Int),.int .u64 (fl:Int),.int .i64 sum,byE d]] (.bool false) []:=by
 cases g with
 | false=>
  obtain rfl:=hF rfl
  clear hw hF
  refine AP.ofA (Zl Tryz.func80 U Tryz.ntmps80 U U ?_)
  repeat'(first|(apply Zh Za;exact U)|(apply Zg Za;exact U)|(apply Zo Za;exact U)|refine Ze U U U Qt ?_|refine Zn U U U Qt ?_|refine Zk U Qt U U ?_|refine Zi U Qt U U ?_|refine Zd U Qt ?_|refine Zf U Qt ?_)
  all_goals exact Qe
 | true=>
  have hw:=hw rfl
  clear hF
  refine AP.ofA (Zl Tryz.func80 U Tryz.ntmps80 U U ?_)
  repeat'(first|rw[hw]|(apply Zh Za;exact U)|(apply Zg Za;exact U)|(apply Zo Za;exact U)|refine Ze U U U Qt ?_|refine Zn U U U Qt ?_|refine Zk U Qt U U ?_|refine Zi U Qt U U ?_|refine Zd U Qt ?_)
  all_goals exact Qe
end Go.Proofs.YtmljabhmajehnaaGreatDoor
end
