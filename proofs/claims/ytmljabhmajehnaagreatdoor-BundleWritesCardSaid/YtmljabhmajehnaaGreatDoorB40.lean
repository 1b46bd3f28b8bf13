/- The document's blocks: the item that data are; an age, hops, a name. -/
import Derived.Test.YtmljabhmajehnaaGreatDoorB37
import Derived.Test.YtmljabhmajehnaaGreatDoorB33
import Derived.Test.YtmljabhmajehnaaGreatDoorB26
import Derived.Test.YtmljabhmajehnaaGreatDoorB39
set_option linter.unusedVariables false
set_option linter.unusedSimpArgs false
section
open Go.RowKit Go.Pl Go.Av
namespace Go.Proofs.YtmljabhmajehnaaGreatDoor
set_option maxHeartbeats 4000000
theorem Rc (d:List UInt8)(hd:d.length<=100000){y:It}{n:Nat}(h:Ye d 0=(y,n,0)):Wv d=(((n:Int)==(d.length:Int))&&(ZM y==d)):=by
 have e:Ye d 0=match ZN 6 256 d with
   | .error e=>(.mk 0 0 [] [],0,e)
   | .ok (x,r,_)=>(x,d.length-r.length,0):=by rw[Ye,if_neg (by omega)];rfl
 unfold Wv
 rw[e]at h
 cases hx:ZN 6 256 d with
 | error c=>
  rw[hx]at h
  injection h with _ h
  injection h with _ h
  exact absurd h (Uc _ _ _ _ hx)
 | ok z=>
  obtain⟨z,r,m1⟩:=z
  obtain⟨_,_,pre,hpre,hpos,_⟩:=Q0 6 (Nat.le_refl _) _ _ _ _ _ hx (by omega)
  rw[hx]at h
  injection h with h1 h2
  injection h2 with h2 _
  subst h1 h2
  have hpl:=congrArg List.length hpre
  rw[List.length_append]at hpl
  have e1:r.isEmpty=(((d.length-r.length:Nat):Int)==(d.length:Int)):=by
   cases r with
   | nil=>simp
   | cons c r=>
    have:¬ ((d.length-(c::r).length:Nat):Int)=(d.length:Int):=by simp only[List.length_cons]at hpl ⊢;omega
    simpa using this
  dsimp only
  rw[e1]
def KZ (d:List UInt8):It:=match Wv d with
 | true=>(Ye d 0).1
 | false=>.mk 0 0 [] []
theorem K0 [Known][KnownU8](d:List UInt8)(hd:d.length<=100000):AP Tryz.prog 69 [byE d] (.tup [itD (KZ d),.bool (Wv d)]) []:=by
 have hR:=L2 d 0 (by omega)
 unfold KZ
 rcases VA d (by omega) with⟨e,he,h,hs⟩ | ⟨y,m,h,hw,hr,hl,hm⟩
 ·rw[h]at hR
  rw[hs]
  replace hR:AP Tryz.prog _ _ (.tup [.agg [.int .i64 0,.int .u64 0,.sl .ext [],.sl .ext []],.int .i64 0,.int .i64 (e:Int)]) []:=hR
  have t1:((e:Int) != 0)=true:=by simpa using he
  refine AP.ofA (Zl Tryz.func69 U Tryz.ntmps69 U U ?_)
  repeat'(first|(apply Zb (hR);kernel_rfl;(iterate 4 exact U))|(apply Zh Za;exact U)|(apply Zg Za;exact U)|(apply Zo Za;exact U)|refine Zn U U U Qt ?_|refine Zj U Qt U U ?_|refine Zd U Qt ?_|(apply Zq 14 ZE;decide +kernel;kernel_rfl;kernel_rfl;kernel_rfl;exact U;exact U)|(apply Zt;(iterate 4 exact U))|exact AE.nil _ _ _ _|(apply Zx;exact U)|(apply Zz;exact U;exact U;decide +kernel;exact U)|(apply ZA;exact U)|exact AO.nil _ _ _|(apply Zs;(decide +kernel))|exact AOs.nil|exact ZF rfl rfl)
  all_goals exact Qe
 ·have hf:Yw y=true:=by
   have:=hr
   rw[Wc]at this
   simp only[Bool.and_eq_true]at this
   exact this.2.2
  have hW:=Q9 y hw hf (by omega)
  have hsh:=Rc d hd h
  have hdl:(d.map E.byte).length=d.length:=List.length_map ..
  rw[h]at hR
  rw[hsh,h]
  dsimp only
  generalize ZM y=P at *
  obtain⟨k,n,b,l⟩:=y
  replace hR:AP Tryz.prog _ _ (.tup [.agg (itC k n b l),.int .i64 (m:Int),.int .i64 0]) []:=hR
  cases t1:((m:Int)==(d.length:Int)) with
  | false=>
   have t1':((m:Int) != ((d.map E.byte).length:Int))=true:=by rw[hdl,bne,t1];rfl
   refine AP.ofA (Zl Tryz.func69 U Tryz.ntmps69 U U ?_)
   repeat'(first|(apply Zb (hR);kernel_rfl;(iterate 4 exact U))|(apply Zh Za;exact U)|(apply Zg Za;exact U)|(apply Zo Za;exact U)|refine Ze U U U Qt ?_|refine Zn U U U Qt ?_|refine Zj U Qt U U ?_|refine Zi U Qt U U ?_|refine Zd U Qt ?_|refine Zm Za U U U U ?_|(apply Zq 14 ZE;decide +kernel;kernel_rfl;kernel_rfl;kernel_rfl;exact U;exact U)|(apply Zt;(iterate 4 exact U))|exact AE.nil _ _ _ _|(apply Zx;exact U)|(apply Zz;exact U;exact U;decide +kernel;exact U)|(apply ZA;exact U)|exact AO.nil _ _ _|(apply Zs;(decide +kernel))|exact AOs.nil|exact ZF rfl rfl)
   all_goals exact Qe
  | true=>
   have t1':((m:Int) != ((d.map E.byte).length:Int))=false:=by rw[hdl,bne,t1];rfl
   cases t2:(P==d) with
   | false=>
    have t2':(P != d)=true:=by rw[bne,t2];rfl
    refine AP.ofA (Zl Tryz.func69 U Tryz.ntmps69 U U ?_)
    repeat'(first|(apply Zb (hR);kernel_rfl;(iterate 4 exact U))|(apply Zb (hW);kernel_rfl;(iterate 4 exact U))|(apply Zh Za;exact U)|(apply Zg Za;exact U)|(apply Zo Za;exact U)|refine Ze U U U Qt ?_|refine Zi U Qt U U ?_|refine Zd U Qt ?_|refine Zm Za U U U U ?_|(apply Zq 14 ZE;decide +kernel;kernel_rfl;kernel_rfl;kernel_rfl;exact U;exact U)|(apply Zt;(iterate 4 exact U))|exact AE.nil _ _ _ _|(apply Zx;exact U)|(apply Zz;exact U;exact U;decide +kernel;exact U)|(apply ZA;exact U)|exact AO.nil _ _ _|(apply Zs;(decide +kernel))|exact AOs.nil|exact ZF rfl rfl|refine Wi Za U U U U U U U U U ?_)
    all_goals exact Qe
   | true=>
    have t2':(P != d)=false:=by rw[bne,t2];rfl
    refine AP.ofA (Zl Tryz.func69 U Tryz.ntmps69 U U ?_)
    repeat'(first|(apply Zb (hR);kernel_rfl;(iterate 4 exact U))|(apply Zb (hW);kernel_rfl;(iterate 4 exact U))|(apply Zh Za;exact U)|(apply Zg Za;exact U)|(apply Zo Za;exact U)|refine Ze U U U Qt ?_|refine Zi U Qt U U ?_|refine Zf U Qt ?_|refine Zm Za U U U U ?_|(apply Zq 14 ZE;decide +kernel;kernel_rfl;kernel_rfl;kernel_rfl;exact U;exact U)|(apply Zt;(iterate 4 exact U))|exact AE.nil _ _ _ _|(apply Zx;exact U)|(apply Zz;exact U;exact U;decide +kernel;exact U)|(apply ZA;exact U)|exact AO.nil _ _ _|(apply Zs;(decide +kernel))|exact AOs.nil|exact ZF rfl rfl|refine Wi Za U U U U U U U U U ?_)
    all_goals exact Qe
theorem Mk {k:Int}{n:Nat}{b:List UInt8}{l:List It}(h:ZB (.mk k n b l)=true):(k==0)=It.beq (.mk k n b l) (.mk 0 n [] []):=by
 unfold ZB at h
 cases hw:Wf (.mk k n b l) 1 256 with
 | none=>rw[hw]at h;cases h
 | some m=>
  obtain⟨h1,h2,h3,h4⟩:=Vb hw
  cases hk:(k==0) with
  | false=>
   cases hb:It.beq (.mk k n b l) (.mk 0 n [] []) with
   | false=>rfl
   | true=>
    have:=It.beq_iff.1 hb
    injection this with e
    subst e
    simp at hk
  | true=>
   have hk:k=0:=by simpa using hk
   subst hk
   have:b=[]/\l=[]:=by simpa[Wl]using h3
   rw[this.1,this.2]
   exact(It.beq_iff.2 rfl).symm
def DJ (d:List UInt8):Nat:=match(Od d).2 with
 | true=>(Od d).1
 | false=>0
theorem JD (d:List UInt8)(hd:d.length<=100000):(Wv d=false/\KZ d=.mk 0 0 [] [])\/(Wv d=true/\KZ d=(Ye d 0).1/\ZB (Ye d 0).1=true/\wfI (Ye d 0).1):=by
 unfold KZ
 rcases VA d (by omega) with⟨e,he,h,hs⟩ | ⟨y,m,h,hw,hr,_⟩
 ·rw[hs];exact .inl ⟨rfl,rfl⟩
 ·rw[h]
  cases Wv d with
  | false=>exact .inl ⟨rfl,rfl⟩
  | true=>exact .inr ⟨rfl,rfl,hr,hw⟩
theorem SF [Known][KnownU8](d:List UInt8)(hd:d.length<=100000):AP Tryz.prog 125 [byE d] (.tup [.int .u64 (DJ d:Int),.bool (Od d).2]) []:=by
 have hI:=K0 d hd
 unfold DJ Od
 rcases JD d hd with⟨hs,hi⟩ | ⟨hs,hi,hr,hw⟩
 ·rw[hs,hi]at hI
  rw[hs]
  replace hI:AP Tryz.prog _ _ (.tup [.agg [.int .i64 0,.int .u64 0,.sl .ext [],.sl .ext []],.bool false]) []:=hI
  refine AP.ofA (Zl Tryz.func125 U Tryz.ntmps125 U U ?_)
  repeat'(first|(apply Zb (hI);kernel_rfl;(iterate 4 exact U))|(apply Zh Za;exact U)|(apply Zg Za;exact U)|(apply Zo Za;exact U)|refine Zn U U U Qt ?_|refine Zj U Qt U U ?_|refine Zd U Qt ?_)
  all_goals exact Qe
 ·rw[hs,hi]at hI
  rw[hs]
  generalize (Ye d 0).1=y at *
  obtain⟨k,n,b,l⟩:=y
  dsimp only
  rw[show(It.mk k n b l).n=n from rfl,<- Mk hr]
  replace hI:AP Tryz.prog _ _ (.tup [.agg (itC k n b l),.bool true]) []:=hI
  cases t1:(k==0) with
  | false=>
   have t1':(k != 0)=true:=by rw[bne,t1];rfl
   refine AP.ofA (Zl Tryz.func125 U Tryz.ntmps125 U U ?_)
   repeat'(first|(apply Zb (hI);kernel_rfl;(iterate 4 exact U))|(apply Zh Za;exact U)|(apply Zg Za;exact U)|(apply Zo Za;exact U)|refine Ze U U U Qt ?_|refine Zn U U U Qt ?_|refine Zj U Qt U U ?_|refine Zi U Qt U U ?_|refine Zd U Qt ?_)
   all_goals exact Qe
  | true=>
   have t1':(k != 0)=false:=by rw[bne,t1];rfl
   rcases Nat.lt_or_ge 1099511627776 n with h|h
   ·have t2:decide ((n:Int)<=1099511627776)=false:=decide_eq_false (by omega)
    have t3:decide ((n:Int)>1099511627776)=true:=decide_eq_true (by omega)
    rw[t2]
    refine AP.ofA (Zl Tryz.func125 U Tryz.ntmps125 U U ?_)
    repeat'(first|(apply Zb (hI);kernel_rfl;(iterate 4 exact U))|(apply Zh Za;exact U)|(apply Zg Za;exact U)|(apply Zo Za;exact U)|refine Ze U U U Qt ?_|refine Zi U Qt U U ?_|refine Zd U Qt ?_)
    all_goals exact Qe
   ·have t2:decide ((n:Int)<=1099511627776)=true:=decide_eq_true (by omega)
    have t3:decide ((n:Int)>1099511627776)=false:=decide_eq_false (by omega)
    rw[t2]
    refine AP.ofA (Zl Tryz.func125 U Tryz.ntmps125 U U ?_)
    repeat'(first|(apply Zb (hI);kernel_rfl;(iterate 4 exact U))|(apply Zh Za;exact U)|(apply Zg Za;exact U)|(apply Zo Za;exact U)|refine Ze U U U Qt ?_|refine Zi U Qt U U ?_|refine Zf U Qt ?_)
    all_goals exact Qe
theorem Rd [Known](n m:Nat):AP Tryz.prog 128 [.int .u64 (n:Int),.int .u64 (m:Int)] (itD (.mk 4 0 [] [.mk 0 n [] [],.mk 0 m [] []])) []:=by
 refine AP.ofA (Zl Tryz.func128 U Tryz.ntmps128 U U ?_)
 repeat'(first|(apply Zh Za;exact U)|(apply Zg Za;exact U)|refine ZO Za U U U U U U U U U U U U ?_)
 all_goals exact Qe
def Re (d:List UInt8):EidV:=match(Jm d).2 with
 | true=>(Jm d).1
 | false=>YS
theorem Rf [Known][KnownU8](d:List UInt8)(hd:d.length<=100000):AP Tryz.prog 124 [byE d] (.tup [.agg (eC (Re d)),.bool (Jm d).2]) []:=by
 have hI:=K0 d hd
 unfold Re Jm
 rcases JD d hd with⟨hs,hi⟩ | ⟨hs,hi,hr,hw⟩
 ·rw[hs,hi]at hI
  rw[hs]
  replace hI:AP Tryz.prog _ _ (.tup [.agg [.int .i64 0,.int .u64 0,.sl .ext [],.sl .ext []],.bool false]) []:=hI
  refine AP.ofA (Zl Tryz.func124 U Tryz.ntmps124 U U ?_)
  repeat'(first|(apply Zb (hI);kernel_rfl;(iterate 4 exact U))|(apply Zh Za;exact U)|(apply Zg Za;exact U)|(apply Zo Za;exact U)|refine Zd U Qt ?_)
  all_goals exact Qe
 ·rw[hs,hi]at hI
  rw[hs]
  have hlen:∀ y ∈ (Ye d 0).1.l,y.b.length<=1099511627000:=by
   rcases VA d (by omega) with⟨e,he,h,_⟩ | ⟨y,m,h,_,_,h3,h4⟩
   ·rw[h];simp[It.l]
   ·rw[h]
    obtain⟨k,n,b,l⟩:=y
    intro y hy
    have h1:=Hw (l:=l) hy
    have h2:=DI k n b l
    have h5:=Fs y
    omega
  have hRR:=Hv (Ye d 0).1 hw hlen
  have hRR':AP Tryz.prog 117 [itD (Ye d 0).1] (.tup [.agg (eC (match(ZT (Ye d 0).1).2 with|true=>(ZT (Ye d 0).1).1|false=>YS)),.bool (ZT (Ye d 0).1).2]) []:=by
   unfold KY at hRR
   cases h:(ZT (Ye d 0).1).2 with
   | true=>rw[h]at hRR;exact hRR
   | false=>rw[h]at hRR;exact hRR
  clear hRR hlen
  rw[Bool.true_and]
  dsimp only
  generalize ZT (Ye d 0).1=rv at *
  obtain⟨⟨zi,zn,zs,zh,zd⟩,ok⟩:=rv
  generalize (Ye d 0).1=y at *
  obtain⟨k,n,b,l⟩:=y
  replace hI:AP Tryz.prog _ _ (.tup [.agg (itC k n b l),.bool true]) []:=hI
  cases ok with
  | false=>
   replace hRR':AP Tryz.prog 117 [.agg (itC k n b l)] (.tup [.agg [.bool false,.int .u64 0,.int .u64 0,.str [],.str []],.bool false]) []:=hRR'
   refine AP.ofA (Zl Tryz.func124 U Tryz.ntmps124 U U ?_)
   repeat'(first|(apply Zb (hI);kernel_rfl;(iterate 4 exact U))|(apply Zb (hRR');kernel_rfl;(iterate 4 exact U))|(apply Zh Za;exact U)|(apply Zg Za;exact U)|refine Zf U Qt ?_)
   all_goals exact Qe
  | true=>
   replace hRR':AP Tryz.prog 117 [.agg (itC k n b l)] (.tup [.agg [.bool zi,.int .u64 (zn:Int),.int .u64 (zs:Int),.str zh,.str zd],.bool true]) []:=hRR'
   refine AP.ofA (Zl Tryz.func124 U Tryz.ntmps124 U U ?_)
   repeat'(first|(apply Zb (hI);kernel_rfl;(iterate 4 exact U))|(apply Zb (hRR');kernel_rfl;(iterate 4 exact U))|(apply Zh Za;exact U)|(apply Zg Za;exact U)|refine Zf U Qt ?_)
   all_goals exact Qe
def Rg (d:List UInt8):Nat × Nat:=match(UL d).2.2 with
 | true=>((UL d).1,(UL d).2.1)
 | false=>(0,0)
theorem Ml (k:Int)(n:Nat)(b:List UInt8)(k1:Int)(n1:Nat)(b1:List UInt8)(l1:List It)(k2:Int)(n2:Nat)(b2:List UInt8)(l2:List It) :
  (It.beq (.mk k n b [.mk k1 n1 b1 l1,.mk k2 n2 b2 l2]) (.mk 4 0 [] [.mk 0 n1 [] [],.mk 0 n2 [] []])=false/\(KK true (.mk k n b [.mk k1 n1 b1 l1,.mk k2 n2 b2 l2])).2.2=false) \/
  (It.beq (.mk k n b [.mk k1 n1 b1 l1,.mk k2 n2 b2 l2]) (.mk 4 0 [] [.mk 0 n1 [] [],.mk 0 n2 [] []])=true/\KK true (.mk k n b [.mk k1 n1 b1 l1,.mk k2 n2 b2 l2])=(n1,n2,decide ((n1:Int) ≥ 1)&&(decide ((n1:Int)<=255)&&decide ((n2:Int)<=(n1:Int))))):=by
 unfold KK
 dsimp only
 cases h:It.beq (.mk k n b [.mk k1 n1 b1 l1,.mk k2 n2 b2 l2]) (.mk 4 0 [] [.mk 0 n1 [] [],.mk 0 n2 [] []]) with
 | false=>
  refine .inl ⟨rfl,?_⟩
  cases k==4<;>rfl
 | true=>
  have:=It.beq_iff.1 h
  injection this with e
  subst e
  exact .inr ⟨rfl,by rw[show((4:Int)==4)=true from rfl];simp⟩
theorem Rh [Known][KnownU8](d:List UInt8)(hd:d.length<=100000):AP Tryz.prog 88 [byE d] (.tup [.int .u64 ((Rg d).1:Int),.int .u64 ((Rg d).2:Int),.bool (UL d).2.2]) []:=by
 have hI:=K0 d hd
 unfold Rg UL
 rcases JD d hd with⟨hs,hi⟩ | ⟨hs,hi,hr,hw⟩
 ·rw[hs,hi]at hI
  rw[hs]
  replace hI:AP Tryz.prog _ _ (.tup [.agg [.int .i64 0,.int .u64 0,.sl .ext [],.sl .ext []],.bool false]) []:=hI
  refine AP.ofA (Zl Tryz.func88 U Tryz.ntmps88 U U ?_)
  repeat'(first|(apply Zb (hI);kernel_rfl;(iterate 4 exact U))|(apply Zh Za;exact U)|(apply Zg Za;exact U)|(apply Zo Za;exact U)|refine Zn U U U Qt ?_|refine Zj U Qt U U ?_|refine Zd U Qt ?_|(apply Zq 21 ZE;decide +kernel;kernel_rfl;kernel_rfl;kernel_rfl;exact U;exact U)|(apply Zt;(iterate 4 exact U))|exact AE.nil _ _ _ _|(apply Zx;exact U)|(apply Zz;exact U;exact U;decide +kernel;exact U)|(apply ZA;exact U)|exact AO.nil _ _ _|(apply Zs;(decide +kernel))|exact AOs.nil|exact ZF rfl rfl)
  all_goals exact Qe
 ·rw[hs,hi]at hI
  rw[hs]
  generalize (Ye d 0).1=y at *
  obtain⟨k,n,b,l⟩:=y
  replace hI:AP Tryz.prog _ _ (.tup [.agg (itC k n b l),.bool true]) []:=hI
  have hlen:=Zw l
  have hU:=YH l
  have no:l.length ≠ 2->KK true (.mk k n b l)=(0,0,false):=fun h=>by
   unfold KK
   dsimp only
   cases k==4 with
   | false=>rfl
   | true=>
    dsimp only
    split
    ·simp at h
    ·rfl
  by_cases h2:l.length=2
  ·clear no
   match l,h2,hI,hw,hU,hlen with
   | [.mk k1 n1 b1 l1,.mk k2 n2 b2 l2],_,hI,hw,hU,hlen=>
   have t2:(((Zv [It.mk k1 n1 b1 l1,.mk k2 n2 b2 l2]).length:Int) != 2)=false:=by rw[hlen];rfl
   have hws:=hw.2.2.2
   have hS:=U9 _ hw (.mk 4 0 [] [.mk 0 n1 [] [],.mk 0 n2 [] []]) ⟨by decide,by simp,by simp,⟨hws.1.1,by simp,by simp,trivial⟩,⟨hws.2.1.1,by simp,by simp,trivial⟩,trivial⟩
   have hN:=Rd n1 n2
   rcases Ml k n b k1 n1 b1 l1 k2 n2 b2 l2 with⟨h1,h2⟩ | ⟨h1,h2⟩
   ·rw[h2]
    rw[h1]at hS
    refine AP.ofA (Zl Tryz.func88 U Tryz.ntmps88 U U ?_)
    repeat'(first|(apply Zb (hI);kernel_rfl;(iterate 4 exact U))|(apply Zb (hS);kernel_rfl;(iterate 4 exact U))|(apply Zb (hN);kernel_rfl;(iterate 4 exact U))|(apply Zh Za;exact U)|(apply Zg Za;exact U)|(apply Zo Za;exact U)|refine Ze U U U Qt ?_|refine Zi U Qt U U ?_|refine Zd U Qt ?_|refine Zm Za U U U U ?_|(apply Zq 21 ZE;decide +kernel;kernel_rfl;kernel_rfl;kernel_rfl;exact U;exact U)|(apply Zt;(iterate 4 exact U))|exact AE.nil _ _ _ _|(apply Zx;exact U)|(apply Zz;exact U;exact U;decide +kernel;exact U)|(apply ZA;exact U)|exact AO.nil _ _ _|(apply Zs;(decide +kernel))|exact AOs.nil|exact ZF rfl rfl|(apply Zr Za;(iterate 6 exact U);(first|exact Qt|rotate_left);(first|with_reducible assumption|decide +kernel|exact U);(first|exact Zk rfl|with_reducible assumption|decide +kernel|rotate_left)))
    all_goals exact Qe
   ·rw[h2]
    rw[h1]at hS
    rcases Nat.lt_or_ge n1 1 with g1|g1
    ·have a1:decide ((n1:Int)<1)=true:=decide_eq_true (by omega)
     have c1:decide ((n1:Int) ≥ 1)=false:=decide_eq_false (by omega)
     rw[c1]
     refine AP.ofA (Zl Tryz.func88 U Tryz.ntmps88 U U ?_)
     repeat'(first|(apply Zb (hI);kernel_rfl;(iterate 4 exact U))|(apply Zb (hS);kernel_rfl;(iterate 4 exact U))|(apply Zb (hN);kernel_rfl;(iterate 4 exact U))|(apply Zh Za;exact U)|(apply Zg Za;exact U)|(apply Zo Za;exact U)|refine Ze U U U Qt ?_|refine Zn U U U Qt ?_|refine Zj U Qt U U ?_|refine Zi U Qt U U ?_|refine Zd U Qt ?_|refine Zf U Qt ?_|refine Zm Za U U U U ?_|(apply Zq 11 ZE;decide +kernel;kernel_rfl;kernel_rfl;kernel_rfl;exact U;exact U)|(apply Zq 21 ZE;decide +kernel;kernel_rfl;kernel_rfl;kernel_rfl;exact U;exact U)|(apply Zt;(iterate 4 exact U))|exact AE.nil _ _ _ _|(apply Zx;exact U)|(apply Zz;exact U;exact U;decide +kernel;exact U)|(apply ZA;exact U)|exact AO.nil _ _ _|(apply Zs;(decide +kernel))|exact AOs.nil|exact ZF rfl rfl|(apply Zr Za;(iterate 6 exact U);(first|exact Qt|rotate_left);(first|with_reducible assumption|decide +kernel|exact U);(first|exact Zk rfl|with_reducible assumption|decide +kernel|rotate_left)))
     all_goals exact Qe
    have a1:decide ((n1:Int)<1)=false:=decide_eq_false (by omega)
    have c1:decide ((n1:Int) ≥ 1)=true:=decide_eq_true (by omega)
    rw[c1]
    rcases Nat.lt_or_ge 255 n1 with g2|g2
    ·have a2:decide ((n1:Int)>255)=true:=decide_eq_true (by omega)
     have c2:decide ((n1:Int)<=255)=false:=decide_eq_false (by omega)
     rw[c2]
     refine AP.ofA (Zl Tryz.func88 U Tryz.ntmps88 U U ?_)
     repeat'(first|(apply Zb (hI);kernel_rfl;(iterate 4 exact U))|(apply Zb (hS);kernel_rfl;(iterate 4 exact U))|(apply Zb (hN);kernel_rfl;(iterate 4 exact U))|(apply Zh Za;exact U)|(apply Zg Za;exact U)|(apply Zo Za;exact U)|refine Ze U U U Qt ?_|refine Zn U U U Qt ?_|refine Zj U Qt U U ?_|refine Zi U Qt U U ?_|refine Zd U Qt ?_|refine Zf U Qt ?_|refine Zm Za U U U U ?_|(apply Zq 11 ZE;decide +kernel;kernel_rfl;kernel_rfl;kernel_rfl;exact U;exact U)|(apply Zq 21 ZE;decide +kernel;kernel_rfl;kernel_rfl;kernel_rfl;exact U;exact U)|(apply Zt;(iterate 4 exact U))|exact AE.nil _ _ _ _|(apply Zx;exact U)|(apply Zz;exact U;exact U;decide +kernel;exact U)|(apply ZA;exact U)|exact AO.nil _ _ _|(apply Zs;(decide +kernel))|exact AOs.nil|exact ZF rfl rfl|(apply Zr Za;(iterate 6 exact U);(first|exact Qt|rotate_left);(first|with_reducible assumption|decide +kernel|exact U);(first|exact Zk rfl|with_reducible assumption|decide +kernel|rotate_left)))
     all_goals exact Qe
    have a2:decide ((n1:Int)>255)=false:=decide_eq_false (by omega)
    have c2:decide ((n1:Int)<=255)=true:=decide_eq_true (by omega)
    rw[c2]
    rcases Nat.lt_or_ge n1 n2 with g3|g3
    ·have a3:decide ((n2:Int)>(n1:Int))=true:=decide_eq_true (by omega)
     have c3:decide ((n2:Int)<=(n1:Int))=false:=decide_eq_false (by omega)
     rw[c3]
     refine AP.ofA (Zl Tryz.func88 U Tryz.ntmps88 U U ?_)
     repeat'(first|(apply Zb (hI);kernel_rfl;(iterate 4 exact U))|(apply Zb (hS);kernel_rfl;(iterate 4 exact U))|(apply Zb (hN);kernel_rfl;(iterate 4 exact U))|(apply Zh Za;exact U)|(apply Zg Za;exact U)|(apply Zo Za;exact U)|refine Ze U U U Qt ?_|refine Zi U Qt U U ?_|refine Zd U Qt ?_|refine Zf U Qt ?_|refine Zm Za U U U U ?_|(apply Zq 11 ZE;decide +kernel;kernel_rfl;kernel_rfl;kernel_rfl;exact U;exact U)|(apply Zq 21 ZE;decide +kernel;kernel_rfl;kernel_rfl;kernel_rfl;exact U;exact U)|(apply Zt;(iterate 4 exact U))|exact AE.nil _ _ _ _|(apply Zx;exact U)|(apply Zz;exact U;exact U;decide +kernel;exact U)|(apply ZA;exact U)|exact AO.nil _ _ _|(apply Zs;(decide +kernel))|exact AOs.nil|exact ZF rfl rfl|(apply Zr Za;(iterate 6 exact U);(first|exact Qt|rotate_left);(first|with_reducible assumption|decide +kernel|exact U);(first|exact Zk rfl|with_reducible assumption|decide +kernel|rotate_left)))
     all_goals exact Qe
    have a3:decide ((n2:Int)>(n1:Int))=false:=decide_eq_false (by omega)
    have c3:decide ((n2:Int)<=(n1:Int))=true:=decide_eq_true (by omega)
    rw[c3]
    refine AP.ofA (Zl Tryz.func88 U Tryz.ntmps88 U U ?_)
    repeat'(first|(apply Zb (hI);kernel_rfl;(iterate 4 exact U))|(apply Zb (hS);kernel_rfl;(iterate 4 exact U))|(apply Zb (hN);kernel_rfl;(iterate 4 exact U))|(apply Zh Za;exact U)|(apply Zg Za;exact U)|(apply Zo Za;exact U)|refine Ze U U U Qt ?_|refine Zi U Qt U U ?_|refine Zf U Qt ?_|refine Zm Za U U U U ?_|(apply Zq 11 ZE;decide +kernel;kernel_rfl;kernel_rfl;kernel_rfl;exact U;exact U)|(apply Zq 21 ZE;decide +kernel;kernel_rfl;kernel_rfl;kernel_rfl;exact U;exact U)|(apply Zt;(iterate 4 exact U))|exact AE.nil _ _ _ _|(apply Zx;exact U)|(apply Zz;exact U;exact U;decide +kernel;exact U)|(apply ZA;exact U)|exact AO.nil _ _ _|(apply Zs;(decide +kernel))|exact AOs.nil|exact ZF rfl rfl|(apply Zr Za;(iterate 6 exact U);(first|exact Qt|rotate_left);(first|with_reducible assumption|decide +kernel|exact U);(first|exact Zk rfl|with_reducible assumption|decide +kernel|rotate_left)))
    all_goals exact Qe
  ·rw[no h2]
   have t2:(((Zv l).length:Int) != 2)=true:=by rw[hlen];simp;omega
   refine AP.ofA (Zl Tryz.func88 U Tryz.ntmps88 U U ?_)
   repeat'(first|(apply Zb (hI);kernel_rfl;(iterate 4 exact U))|(apply Zh Za;exact U)|(apply Zg Za;exact U)|(apply Zo Za;exact U)|refine Ze U U U Qt ?_|refine Zn U U U Qt ?_|refine Zj U Qt U U ?_|refine Zi U Qt U U ?_|refine Zd U Qt ?_|refine Zm Za U U U U ?_|(apply Zq 21 ZE;decide +kernel;kernel_rfl;kernel_rfl;kernel_rfl;exact U;exact U)|(apply Zt;(iterate 4 exact U))|exact AE.nil _ _ _ _|(apply Zx;exact U)|(apply Zz;exact U;exact U;decide +kernel;exact U)|(apply ZA;exact U)|exact AO.nil _ _ _|(apply Zs;(decide +kernel))|exact AOs.nil|exact ZF rfl rfl)
   all_goals exact Qe
theorem Ft [Known](ty num fl F:Nat)(sum:Int)(d:List UInt8)(g:Bool)(hg:decide ((fl:Int) ≥ 16)=g)(hF:g=false->fl=F)(hw:g=true->IntKind.u64.wrap ((fl:Int)-16)=(F:Int))(t0:decide ((ty:Int)<1)=true) :
  AP Tryz.prog 80 [.agg [.int .u64 (ty:Int),.int .u64 (num:Int),.int .u64 (fl:Int),.int .i64 sum,byE d]] (.bool false) []:=by
 cases g with
 | false=>
  obtain rfl:=hF rfl
  clear hw hF
  refine AP.ofA (Zl Tryz.func80 U Tryz.ntmps80 U U ?_)
  repeat'(first|(apply Zh Za;exact U)|(apply Zg Za;exact U)|(apply Zo Za;exact U)|refine Zn U U U Qt ?_|refine Zj U Qt U U ?_|refine Zd U Qt ?_|refine Zf U Qt ?_)
  all_goals exact Qe
 | true=>
  have hw:=hw rfl
  clear hF
  refine AP.ofA (Zl Tryz.func80 U Tryz.ntmps80 U U ?_)
  repeat'(first|rw[hw]|(apply Zh Za;exact U)|(apply Zg Za;exact U)|(apply Zo Za;exact U)|refine Zn U U U Qt ?_|refine Zj U Qt U U ?_|refine Zd U Qt ?_)
  all_goals exact Qe
theorem Fu [Known](ty num fl F:Nat)(sum:Int)(d:List UInt8)(g:Bool)(hg:decide ((fl:Int) ≥ 16)=g)(hF:g=false->fl=F)(hw:g=true->IntKind.u64.wrap ((fl:Int)-16)=(F:Int))(t0:decide ((ty:Int)<1)=false)(t1:decide ((ty:Int)>255)=true) :
  AP Tryz.prog 80 [.agg [.int .u64 (ty:Int),.int .u64 (num:Int),.int .u64 (fl:Int),.int .i64 sum,byE d]] (.bool false) []:=by
 cases g with
 | false=>
  obtain rfl:=hF rfl
  clear hw hF
  refine AP.ofA (Zl Tryz.func80 U Tryz.ntmps80 U U ?_)
  repeat'(first|(apply Zh Za;exact U)|(apply Zg Za;exact U)|(apply Zo Za;exact U)|refine Ze U U U Qt ?_|refine Zn U U U Qt ?_|refine Zj U Qt U U ?_|refine Zi U Qt U U ?_|refine Zd U Qt ?_|refine Zf U Qt ?_)
  all_goals exact Qe
 | true=>
  have hw:=hw rfl
  clear hF
  refine AP.ofA (Zl Tryz.func80 U Tryz.ntmps80 U U ?_)
  repeat'(first|rw[hw]|(apply Zh Za;exact U)|(apply Zg Za;exact U)|(apply Zo Za;exact U)|refine Ze U U U Qt ?_|refine Zn U U U Qt ?_|refine Zj U Qt U U ?_|refine Zi U Qt U U ?_|refine Zd U Qt ?_)
  all_goals exact Qe
theorem Fv [Known](ty num fl F:Nat)(sum:Int)(d:List UInt8)(g:Bool)(hg:decide ((fl:Int) ≥ 16)=g)(hF:g=false->fl=F)(hw:g=true->IntKind.u64.wrap ((fl:Int)-16)=(F:Int))(t0:decide ((ty:Int)<1)=false)(t1:decide ((ty:Int)>255)=false)(t2:decide ((num:Int)<1)=true) :
  AP Tryz.prog 80 [.agg [.int .u64 (ty:Int),.int .u64 (num:Int),.int .u64 (fl:Int),.int .i64 sum,byE d]] (.bool false) []:=by
 cases g with
 | false=>
  obtain rfl:=hF rfl
  clear hw hF
  refine AP.ofA (Zl Tryz.func80 U Tryz.ntmps80 U U ?_)
  repeat'(first|(apply Zh Za;exact U)|(apply Zg Za;exact U)|(apply Zo Za;exact U)|refine Ze U U U Qt ?_|refine Zn U U U Qt ?_|refine Zj U Qt U U ?_|refine Zi U Qt U U ?_|refine Zd U Qt ?_|refine Zf U Qt ?_)
  all_goals exact Qe
 | true=>
  have hw:=hw rfl
  clear hF
  refine AP.ofA (Zl Tryz.func80 U Tryz.ntmps80 U U ?_)
  repeat'(first|rw[hw]|(apply Zh Za;exact U)|(apply Zg Za;exact U)|(apply Zo Za;exact U)|refine Ze U U U Qt ?_|refine Zn U U U Qt ?_|refine Zj U Qt U U ?_|refine Zi U Qt U U ?_|refine Zd U Qt ?_)
  all_goals exact Qe
theorem Fw [Known](ty num fl F:Nat)(sum:Int)(d:List UInt8)(g:Bool)(hg:decide ((fl:Int) ≥ 16)=g)(hF:g=false->fl=F)(hw:g=true->IntKind.u64.wrap ((fl:Int)-16)=(F:Int))(t0:decide ((ty:Int)<1)=false)(t1:decide ((ty:Int)>255)=false)(t2:decide ((num:Int)<1)=false)(t3:decide ((num:Int)>255)=true) :
  AP Tryz.prog 80 [.agg [.int .u64 (ty:Int),.int .u64 (num:Int),.int .u64 (fl:Int),.int .i64 sum,byE d]] (.bool false) []:=by
 cases g with
 | false=>
  obtain rfl:=hF rfl
  clear hw hF
  refine AP.ofA (Zl Tryz.func80 U Tryz.ntmps80 U U ?_)
  repeat'(first|(apply Zh Za;exact U)|(apply Zg Za;exact U)|(apply Zo Za;exact U)|refine Ze U U U Qt ?_|refine Zn U U U Qt ?_|refine Zj U Qt U U ?_|refine Zi U Qt U U ?_|refine Zd U Qt ?_|refine Zf U Qt ?_)
  all_goals exact Qe
 | true=>
  have hw:=hw rfl
  clear hF
  refine AP.ofA (Zl Tryz.func80 U Tryz.ntmps80 U U ?_)
  repeat'(first|rw[hw]|(apply Zh Za;exact U)|(apply Zg Za;exact U)|(apply Zo Za;exact U)|refine Ze U U U Qt ?_|refine Zn U U U Qt ?_|refine Zj U Qt U U ?_|refine Zi U Qt U U ?_|refine Zd U Qt ?_)
  all_goals exact Qe
end Go.Proofs.YtmljabhmajehnaaGreatDoor
end
