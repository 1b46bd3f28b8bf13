/- The document's blocks: an age, hops, a name. -/
import Derived.Test.YtakblclkflnnpaaGreatDoorM33
import Derived.Test.YtakblclkflnnpaaGreatDoorM30
set_option linter.unusedVariables false
set_option linter.unusedSimpArgs false
section
open Go.RowKit Go.Pl Go.Av
namespace Go.Proofs.YtakblclkflnnpaaGreatDoor
set_option maxHeartbeats 4000000
theorem Zk5 {k:Int}{n:Nat}{b:List UInt8}{l:List It}(h:ZaM (.mk k n b l)=true):(k==0)=It.beq (.mk k n b l) (.mk 0 n [] []):=by
 unfold ZaM at h
 cases hw:Zb2 (.mk k n b l) 1 256 with
 | none=>rw[hw]at h;cases h
 | some m=>
  obtain⟨h1,h2,h3,h4⟩:=Zcb hw
  cases hk:(k==0) with
  | false=>
   cases hb:It.beq (.mk k n b l) (.mk 0 n [] []) with
   | false=>rfl
   | true=>
    have:=It.beq_iff.1 hb
    injection this with e
    subst e
    simp at hk
  | true=>
   have hk:k=0:=by simpa using hk
   subst hk
   have:b=[]/\l=[]:=by simpa[Zdt]using h3
   rw[this.1,this.2]
   exact(It.beq_iff.2 rfl).symm
def ZpR (d:List UInt8):Nat:=match(ZhW d).2 with
 | true=>(ZhW d).1
 | false=>0
theorem Zew (d:List UInt8)(hd:d.length<=100000):(Zb3 d=false/\Zhu d=.mk 0 0 [] [])\/(Zb3 d=true/\Zhu d=(Zbn d 0).1/\ZaM (Zbn d 0).1=true/\wfI (Zbn d 0).1):=by
 unfold Zhu
 rcases Zdi d (by omega) with⟨e,he,h,hs⟩ | ⟨y,m,h,hw,hr,_⟩
 ·rw[hs];exact .inl ⟨rfl,rfl⟩
 ·rw[h]
  cases Zb3 d with
  | false=>exact .inl ⟨rfl,rfl⟩
  | true=>exact .inr ⟨rfl,rfl,hr,hw⟩
theorem ZnG [Known][KnownU8](d:List UInt8)(hd:d.length<=100000):AP Tryz.prog 39 [byE d] (.tup [.int .u64 (ZpR d:Int),.bool (ZhW d).2]) []:=by
 have hI:=Zgu d hd
 unfold ZpR ZhW
 rcases Zew d hd with⟨hs,hi⟩ | ⟨hs,hi,hr,hw⟩
 ·rw[hs,hi]at hI
  rw[hs]
  replace hI:AP Tryz.prog _ _ (.tup [.agg [.int .i64 0,.int .u64 0,.sl .ext [],.sl .ext []],.bool false]) []:=hI
  refine AP.ofA ?_
  refine Zan Tryz.func39 rfl Tryz.ntmps39 rfl rfl ?_
  repeat'(first|(apply Zaa (hI);kernel_rfl;(iterate 4 exact Z))|(apply Zai Zab;exact Z)|(apply Zah Zab;exact Z)|(apply Zaw Zab;exact Z)|(apply Zal;(iterate 3 exact Z);exact Go.Zqy)|(apply Zaj;exact Z;exact Go.Zqy;exact Z;exact Z)|(apply Zac;exact Z;exact Go.Zqy))
  all_goals(apply Zaz [];(apply Zad Zab;exact Z);(iterate 4 exact Z))
  all_goals rfl
 ·rw[hs,hi]at hI
  rw[hs]
  generalize (Zbn d 0).1=y at *
  obtain⟨k,n,b,l⟩:=y
  dsimp only
  rw[show(It.mk k n b l).n=n from rfl,<- Zk5 hr]
  replace hI:AP Tryz.prog _ _ (.tup [.agg (itC k n b l),.bool true]) []:=hI
  cases t1:(k==0) with
  | false=>
   have t1':(k != 0)=true:=by rw[bne,t1];rfl
   refine AP.ofA ?_
   refine Zan Tryz.func39 rfl Tryz.ntmps39 rfl rfl ?_
   repeat'(first|(apply Zaa (hI);kernel_rfl;(iterate 4 exact Z))|(apply Zai Zab;exact Z)|(apply Zah Zab;exact Z)|(apply Zaw Zab;exact Z)|(apply Zae;(iterate 3 exact Z);exact Go.Zqy)|(apply Zal;(iterate 3 exact Z);exact Go.Zqy)|(apply Zaj;exact Z;exact Go.Zqy;exact Z;exact Z)|(apply Zag;exact Z;exact Go.Zqy;exact Z;exact Z)|(apply Zac;exact Z;exact Go.Zqy))
   all_goals(apply Zaz [];(apply Zad Zab;exact Z);(iterate 4 exact Z))
   all_goals rfl
  | true=>
   have t1':(k != 0)=false:=by rw[bne,t1];rfl
   rcases Nat.lt_or_ge 1099511627776 n with h|h
   ·have t2:decide ((n:Int)<=1099511627776)=false:=decide_eq_false (by omega)
    have t3:decide ((n:Int)>1099511627776)=true:=decide_eq_true (by omega)
    rw[t2]
    refine AP.ofA ?_
    refine Zan Tryz.func39 rfl Tryz.ntmps39 rfl rfl ?_
    repeat'(first|(apply Zaa (hI);kernel_rfl;(iterate 4 exact Z))|(apply Zai Zab;exact Z)|(apply Zah Zab;exact Z)|(apply Zaw Zab;exact Z)|(apply Zae;(iterate 3 exact Z);exact Go.Zqy)|(apply Zag;exact Z;exact Go.Zqy;exact Z;exact Z)|(apply Zac;exact Z;exact Go.Zqy))
    all_goals(apply Zaz [];(apply Zad Zab;exact Z);(iterate 4 exact Z))
    all_goals rfl
   ·have t2:decide ((n:Int)<=1099511627776)=true:=decide_eq_true (by omega)
    have t3:decide ((n:Int)>1099511627776)=false:=decide_eq_false (by omega)
    rw[t2]
    refine AP.ofA ?_
    refine Zan Tryz.func39 rfl Tryz.ntmps39 rfl rfl ?_
    repeat'(first|(apply Zaa (hI);kernel_rfl;(iterate 4 exact Z))|(apply Zai Zab;exact Z)|(apply Zah Zab;exact Z)|(apply Zaw Zab;exact Z)|(apply Zae;(iterate 3 exact Z);exact Go.Zqy)|(apply Zag;exact Z;exact Go.Zqy;exact Z;exact Z)|(apply Zaf;exact Z;exact Go.Zqy))
    all_goals(apply Zaz [];(apply Zad Zab;exact Z);(iterate 4 exact Z))
    all_goals rfl
theorem Zmj [Known](n m:Nat):AP Tryz.prog 107 [.int .u64 (n:Int),.int .u64 (m:Int)] (itD (.mk 4 0 [] [.mk 0 n [] [],.mk 0 m [] []])) []:=by
 refine AP.ofA ?_
 refine Zan Tryz.func107 rfl Tryz.ntmps107 rfl rfl ?_
 repeat'(first|(apply Zai Zab;exact Z)|(apply Zah Zab;exact Z)|(apply ZaR Zab;(iterate 12 exact Z)))
 all_goals(apply Zaz [];(apply Zad Zab;exact Z);(iterate 4 exact Z))
 all_goals rfl
def ZnH (d:List UInt8):EidV:=match(ZfG d).2 with
 | true=>(ZfG d).1
 | false=>Zdv
theorem Zmk [Known][KnownU8](d:List UInt8)(hd:d.length<=100000):AP Tryz.prog 38 [byE d] (.tup [.agg (eC (ZnH d)),.bool (ZfG d).2]) []:=by
 have hI:=Zgu d hd
 unfold ZnH ZfG
 rcases Zew d hd with⟨hs,hi⟩ | ⟨hs,hi,hr,hw⟩
 ·rw[hs,hi]at hI
  rw[hs]
  replace hI:AP Tryz.prog _ _ (.tup [.agg [.int .i64 0,.int .u64 0,.sl .ext [],.sl .ext []],.bool false]) []:=hI
  refine AP.ofA ?_
  refine Zan Tryz.func38 rfl Tryz.ntmps38 rfl rfl ?_
  repeat'(first|(apply Zaa (hI);kernel_rfl;(iterate 4 exact Z))|(apply Zai Zab;exact Z)|(apply Zah Zab;exact Z)|(apply Zaw Zab;exact Z)|(apply Zac;exact Z;exact Go.Zqy))
  all_goals(apply Zaz [];(apply Zad Zab;exact Z);(iterate 4 exact Z))
  all_goals rfl
 ·rw[hs,hi]at hI
  rw[hs]
  have hlen:∀ y ∈ (Zbn d 0).1.l,y.b.length<=1099511627000:=by
   rcases Zdi d (by omega) with⟨e,he,h,_⟩ | ⟨y,m,h,_,_,h3,h4⟩
   ·rw[h];simp[It.l]
   ·rw[h]
    obtain⟨k,n,b,l⟩:=y
    intro y hy
    have h1:=Zi8 (l:=l) hy
    have h2:=Zpx k n b l
    have h5:=Zqe y
    omega
  have hRR:=Zh7 (Zbn d 0).1 hw hlen
  have hRR':AP Tryz.prog 90 [itD (Zbn d 0).1] (.tup [.agg (eC (match(Zbc (Zbn d 0).1).2 with|true=>(Zbc (Zbn d 0).1).1|false=>Zdv)),.bool (Zbc (Zbn d 0).1).2]) []:=by
   unfold Zh6 at hRR
   cases h:(Zbc (Zbn d 0).1).2 with
   | true=>rw[h]at hRR;exact hRR
   | false=>rw[h]at hRR;exact hRR
  clear hRR hlen
  rw[Bool.true_and]
  dsimp only
  generalize Zbc (Zbn d 0).1=rv at *
  obtain⟨⟨zi,zn,zs,zh,zd⟩,ok⟩:=rv
  generalize (Zbn d 0).1=y at *
  obtain⟨k,n,b,l⟩:=y
  replace hI:AP Tryz.prog _ _ (.tup [.agg (itC k n b l),.bool true]) []:=hI
  cases ok with
  | false=>
   replace hRR':AP Tryz.prog 90 [.agg (itC k n b l)] (.tup [.agg [.bool false,.int .u64 0,.int .u64 0,.str [],.str []],.bool false]) []:=hRR'
   refine AP.ofA ?_
   refine Zan Tryz.func38 rfl Tryz.ntmps38 rfl rfl ?_
   repeat'(first|(apply Zaa (hI);kernel_rfl;(iterate 4 exact Z))|(apply Zaa (hRR');kernel_rfl;(iterate 4 exact Z))|(apply Zai Zab;exact Z)|(apply Zah Zab;exact Z)|(apply Zaf;exact Z;exact Go.Zqy))
   all_goals(apply Zaz [];(apply Zad Zab;exact Z);(iterate 4 exact Z))
   all_goals rfl
  | true=>
   replace hRR':AP Tryz.prog 90 [.agg (itC k n b l)] (.tup [.agg [.bool zi,.int .u64 (zn:Int),.int .u64 (zs:Int),.str zh,.str zd],.bool true]) []:=hRR'
   refine AP.ofA ?_
   refine Zan Tryz.func38 rfl Tryz.ntmps38 rfl rfl ?_
   repeat'(first|(apply Zaa (hI);kernel_rfl;(iterate 4 exact Z))|(apply Zaa (hRR');kernel_rfl;(iterate 4 exact Z))|(apply Zai Zab;exact Z)|(apply Zah Zab;exact Z)|(apply Zaf;exact Z;exact Go.Zqy))
   all_goals(apply Zaz [];(apply Zad Zab;exact Z);(iterate 4 exact Z))
   all_goals rfl
def ZnI (d:List UInt8):Nat × Nat:=match(ZcL d).2.2 with
 | true=>((ZcL d).1,(ZcL d).2.1)
 | false=>(0,0)
theorem Zk6 (k:Int)(n:Nat)(b:List UInt8)(k1:Int)(n1:Nat)(b1:List UInt8)(l1:List It)(k2:Int)(n2:Nat)(b2:List UInt8)(l2:List It) :
  (It.beq (.mk k n b [.mk k1 n1 b1 l1,.mk k2 n2 b2 l2]) (.mk 4 0 [] [.mk 0 n1 [] [],.mk 0 n2 [] []])=false/\(ZhX true (.mk k n b [.mk k1 n1 b1 l1,.mk k2 n2 b2 l2])).2.2=false) \/
  (It.beq (.mk k n b [.mk k1 n1 b1 l1,.mk k2 n2 b2 l2]) (.mk 4 0 [] [.mk 0 n1 [] [],.mk 0 n2 [] []])=true/\ZhX true (.mk k n b [.mk k1 n1 b1 l1,.mk k2 n2 b2 l2])=(n1,n2,decide ((n1:Int) ≥ 1)&&(decide ((n1:Int)<=255)&&decide ((n2:Int)<=(n1:Int))))):=by
 unfold ZhX
 dsimp only
 cases h:It.beq (.mk k n b [.mk k1 n1 b1 l1,.mk k2 n2 b2 l2]) (.mk 4 0 [] [.mk 0 n1 [] [],.mk 0 n2 [] []]) with
 | false=>
  refine .inl ⟨rfl,?_⟩
  cases k==4<;>rfl
 | true=>
  have:=It.beq_iff.1 h
  injection this with e
  subst e
  exact .inr ⟨rfl,by rw[show((4:Int)==4)=true from rfl];simp⟩
theorem Zml [Known][KnownU8](d:List UInt8)(hd:d.length<=100000):AP Tryz.prog 40 [byE d] (.tup [.int .u64 ((ZnI d).1:Int),.int .u64 ((ZnI d).2:Int),.bool (ZcL d).2.2]) []:=by
 have hI:=Zgu d hd
 unfold ZnI ZcL
 rcases Zew d hd with⟨hs,hi⟩ | ⟨hs,hi,hr,hw⟩
 ·rw[hs,hi]at hI
  rw[hs]
  replace hI:AP Tryz.prog _ _ (.tup [.agg [.int .i64 0,.int .u64 0,.sl .ext [],.sl .ext []],.bool false]) []:=hI
  refine AP.ofA ?_
  refine Zan Tryz.func40 rfl Tryz.ntmps40 rfl rfl ?_
  repeat'(first|(apply Zaa (hI);kernel_rfl;(iterate 4 exact Z))|(apply Zai Zab;exact Z)|(apply Zah Zab;exact Z)|(apply Zaw Zab;exact Z)|(apply Zal;(iterate 3 exact Z);exact Go.Zqy)|(apply Zaj;exact Z;exact Go.Zqy;exact Z;exact Z)|(apply Zac;exact Z;exact Go.Zqy)|(apply Zam 21 ZaK;decide +kernel;kernel_rfl;kernel_rfl;kernel_rfl;exact Z;exact Z)|(apply Zaq;(iterate 4 exact Z))|exact AE.nil _ _ _ _|(apply Zat;exact Z)|(apply Zax;exact Z;exact Z;decide +kernel;exact Z)|(apply Zay;exact Z)|exact AO.nil _ _ _|(apply Zap;(decide +kernel))|exact AOs.nil|exact ZaE rfl rfl)
  all_goals(apply Zaz [];(apply Zad Zab;exact Z);(iterate 4 exact Z))
  all_goals rfl
 ·rw[hs,hi]at hI
  rw[hs]
  generalize (Zbn d 0).1=y at *
  obtain⟨k,n,b,l⟩:=y
  replace hI:AP Tryz.prog _ _ (.tup [.agg (itC k n b l),.bool true]) []:=hI
  have hlen:=Zas l
  have hU:=Zcd l
  have no:l.length ≠ 2->ZhX true (.mk k n b l)=(0,0,false):=fun h=>by
   unfold ZhX
   dsimp only
   cases k==4 with
   | false=>rfl
   | true=>
    dsimp only
    split
    ·simp at h
    ·rfl
  by_cases h2:l.length=2
  ·clear no
   match l,h2,hI,hw,hU,hlen with
   | [.mk k1 n1 b1 l1,.mk k2 n2 b2 l2],_,hI,hw,hU,hlen=>
   have t2:(((ZaC [It.mk k1 n1 b1 l1,.mk k2 n2 b2 l2]).length:Int) != 2)=false:=by rw[hlen];rfl
   have hws:=hw.2.2.2
   have hS:=Zdq _ hw (.mk 4 0 [] [.mk 0 n1 [] [],.mk 0 n2 [] []]) ⟨by decide,by simp,by simp,⟨hws.1.1,by simp,by simp,trivial⟩,⟨hws.2.1.1,by simp,by simp,trivial⟩,trivial⟩
   have hN:=Zmj n1 n2
   rcases Zk6 k n b k1 n1 b1 l1 k2 n2 b2 l2 with⟨h1,h2⟩ | ⟨h1,h2⟩
   ·rw[h2]
    rw[h1]at hS
    refine AP.ofA ?_
    refine Zan Tryz.func40 rfl Tryz.ntmps40 rfl rfl ?_
    repeat'(first|(apply Zaa (hI);kernel_rfl;(iterate 4 exact Z))|(apply Zaa (hS);kernel_rfl;(iterate 4 exact Z))|(apply Zaa (hN);kernel_rfl;(iterate 4 exact Z))|(apply Zai Zab;exact Z)|(apply Zah Zab;exact Z)|(apply Zaw Zab;exact Z)|(apply Zae;(iterate 3 exact Z);exact Go.Zqy)|(apply Zag;exact Z;exact Go.Zqy;exact Z;exact Z)|(apply Zac;exact Z;exact Go.Zqy)|(apply Zao Zab;(iterate 4 exact Z))|(apply Zam 21 ZaK;decide +kernel;kernel_rfl;kernel_rfl;kernel_rfl;exact Z;exact Z)|(apply Zaq;(iterate 4 exact Z))|exact AE.nil _ _ _ _|(apply Zat;exact Z)|(apply Zax;exact Z;exact Z;decide +kernel;exact Z)|(apply Zay;exact Z)|exact AO.nil _ _ _|(apply Zap;(decide +kernel))|exact AOs.nil|exact ZaE rfl rfl|(apply Zav Zab;(iterate 6 exact Z);(first|exact Go.Zqy|rotate_left);(first|with_reducible assumption|decide +kernel|exact Z);(first|exact Zak rfl|with_reducible assumption|decide +kernel|rotate_left)))
    all_goals(apply Zaz [];(apply Zad Zab;exact Z);(iterate 4 exact Z))
    all_goals rfl
   ·rw[h2]
    rw[h1]at hS
    rcases Nat.lt_or_ge n1 1 with g1|g1
    ·have a1:decide ((n1:Int)<1)=true:=decide_eq_true (by omega)
     have c1:decide ((n1:Int) ≥ 1)=false:=decide_eq_false (by omega)
     rw[c1]
     refine AP.ofA ?_
     refine Zan Tryz.func40 rfl Tryz.ntmps40 rfl rfl ?_
     repeat'(first|(apply Zaa (hI);kernel_rfl;(iterate 4 exact Z))|(apply Zaa (hS);kernel_rfl;(iterate 4 exact Z))|(apply Zaa (hN);kernel_rfl;(iterate 4 exact Z))|(apply Zai Zab;exact Z)|(apply Zah Zab;exact Z)|(apply Zaw Zab;exact Z)|(apply Zae;(iterate 3 exact Z);exact Go.Zqy)|(apply Zal;(iterate 3 exact Z);exact Go.Zqy)|(apply Zaj;exact Z;exact Go.Zqy;exact Z;exact Z)|(apply Zag;exact Z;exact Go.Zqy;exact Z;exact Z)|(apply Zac;exact Z;exact Go.Zqy)|(apply Zaf;exact Z;exact Go.Zqy)|(apply Zao Zab;(iterate 4 exact Z))|(apply Zam 11 ZaK;decide +kernel;kernel_rfl;kernel_rfl;kernel_rfl;exact Z;exact Z)|(apply Zam 21 ZaK;decide +kernel;kernel_rfl;kernel_rfl;kernel_rfl;exact Z;exact Z)|(apply Zaq;(iterate 4 exact Z))|exact AE.nil _ _ _ _|(apply Zat;exact Z)|(apply Zax;exact Z;exact Z;decide +kernel;exact Z)|(apply Zay;exact Z)|exact AO.nil _ _ _|(apply Zap;(decide +kernel))|exact AOs.nil|exact ZaE rfl rfl|(apply Zav Zab;(iterate 6 exact Z);(first|exact Go.Zqy|rotate_left);(first|with_reducible assumption|decide +kernel|exact Z);(first|exact Zak rfl|with_reducible assumption|decide +kernel|rotate_left)))
     all_goals(apply Zaz [];(apply Zad Zab;exact Z);(iterate 4 exact Z))
     all_goals rfl
    have a1:decide ((n1:Int)<1)=false:=decide_eq_false (by omega)
    have c1:decide ((n1:Int) ≥ 1)=true:=decide_eq_true (by omega)
    rw[c1]
    rcases Nat.lt_or_ge 255 n1 with g2|g2
    ·have a2:decide ((n1:Int)>255)=true:=decide_eq_true (by omega)
     have c2:decide ((n1:Int)<=255)=false:=decide_eq_false (by omega)
     rw[c2]
     refine AP.ofA ?_
     refine Zan Tryz.func40 rfl Tryz.ntmps40 rfl rfl ?_
     repeat'(first|(apply Zaa (hI);kernel_rfl;(iterate 4 exact Z))|(apply Zaa (hS);kernel_rfl;(iterate 4 exact Z))|(apply Zaa (hN);kernel_rfl;(iterate 4 exact Z))|(apply Zai Zab;exact Z)|(apply Zah Zab;exact Z)|(apply Zaw Zab;exact Z)|(apply Zae;(iterate 3 exact Z);exact Go.Zqy)|(apply Zal;(iterate 3 exact Z);exact Go.Zqy)|(apply Zaj;exact Z;exact Go.Zqy;exact Z;exact Z)|(apply Zag;exact Z;exact Go.Zqy;exact Z;exact Z)|(apply Zac;exact Z;exact Go.Zqy)|(apply Zaf;exact Z;exact Go.Zqy)|(apply Zao Zab;(iterate 4 exact Z))|(apply Zam 11 ZaK;decide +kernel;kernel_rfl;kernel_rfl;kernel_rfl;exact Z;exact Z)|(apply Zam 21 ZaK;decide +kernel;kernel_rfl;kernel_rfl;kernel_rfl;exact Z;exact Z)|(apply Zaq;(iterate 4 exact Z))|exact AE.nil _ _ _ _|(apply Zat;exact Z)|(apply Zax;exact Z;exact Z;decide +kernel;exact Z)|(apply Zay;exact Z)|exact AO.nil _ _ _|(apply Zap;(decide +kernel))|exact AOs.nil|exact ZaE rfl rfl|(apply Zav Zab;(iterate 6 exact Z);(first|exact Go.Zqy|rotate_left);(first|with_reducible assumption|decide +kernel|exact Z);(first|exact Zak rfl|with_reducible assumption|decide +kernel|rotate_left)))
     all_goals(apply Zaz [];(apply Zad Zab;exact Z);(iterate 4 exact Z))
     all_goals rfl
    have a2:decide ((n1:Int)>255)=false:=decide_eq_false (by omega)
    have c2:decide ((n1:Int)<=255)=true:=decide_eq_true (by omega)
    rw[c2]
    rcases Nat.lt_or_ge n1 n2 with g3|g3
    ·have a3:decide ((n2:Int)>(n1:Int))=true:=decide_eq_true (by omega)
     have c3:decide ((n2:Int)<=(n1:Int))=false:=decide_eq_false (by omega)
     rw[c3]
     refine AP.ofA ?_
     refine Zan Tryz.func40 rfl Tryz.ntmps40 rfl rfl ?_
     repeat'(first|(apply Zaa (hI);kernel_rfl;(iterate 4 exact Z))|(apply Zaa (hS);kernel_rfl;(iterate 4 exact Z))|(apply Zaa (hN);kernel_rfl;(iterate 4 exact Z))|(apply Zai Zab;exact Z)|(apply Zah Zab;exact Z)|(apply Zaw Zab;exact Z)|(apply Zae;(iterate 3 exact Z);exact Go.Zqy)|(apply Zag;exact Z;exact Go.Zqy;exact Z;exact Z)|(apply Zac;exact Z;exact Go.Zqy)|(apply Zaf;exact Z;exact Go.Zqy)|(apply Zao Zab;(iterate 4 exact Z))|(apply Zam 11 ZaK;decide +kernel;kernel_rfl;kernel_rfl;kernel_rfl;exact Z;exact Z)|(apply Zam 21 ZaK;decide +kernel;kernel_rfl;kernel_rfl;kernel_rfl;exact Z;exact Z)|(apply Zaq;(iterate 4 exact Z))|exact AE.nil _ _ _ _|(apply Zat;exact Z)|(apply Zax;exact Z;exact Z;decide +kernel;exact Z)|(apply Zay;exact Z)|exact AO.nil _ _ _|(apply Zap;(decide +kernel))|exact AOs.nil|exact ZaE rfl rfl|(apply Zav Zab;(iterate 6 exact Z);(first|exact Go.Zqy|rotate_left);(first|with_reducible assumption|decide +kernel|exact Z);(first|exact Zak rfl|with_reducible assumption|decide +kernel|rotate_left)))
     all_goals(apply Zaz [];(apply Zad Zab;exact Z);(iterate 4 exact Z))
     all_goals rfl
    have a3:decide ((n2:Int)>(n1:Int))=false:=decide_eq_false (by omega)
    have c3:decide ((n2:Int)<=(n1:Int))=true:=decide_eq_true (by omega)
    rw[c3]
    refine AP.ofA ?_
    refine Zan Tryz.func40 rfl Tryz.ntmps40 rfl rfl ?_
    repeat'(first|(apply Zaa (hI);kernel_rfl;(iterate 4 exact Z))|(apply Zaa (hS);kernel_rfl;(iterate 4 exact Z))|(apply Zaa (hN);kernel_rfl;(iterate 4 exact Z))|(apply Zai Zab;exact Z)|(apply Zah Zab;exact Z)|(apply Zaw Zab;exact Z)|(apply Zae;(iterate 3 exact Z);exact Go.Zqy)|(apply Zag;exact Z;exact Go.Zqy;exact Z;exact Z)|(apply Zaf;exact Z;exact Go.Zqy)|(apply Zao Zab;(iterate 4 exact Z))|(apply Zam 11 ZaK;decide +kernel;kernel_rfl;kernel_rfl;kernel_rfl;exact Z;exact Z)|(apply Zam 21 ZaK;decide +kernel;kernel_rfl;kernel_rfl;kernel_rfl;exact Z;exact Z)|(apply Zaq;(iterate 4 exact Z))|exact AE.nil _ _ _ _|(apply Zat;exact Z)|(apply Zax;exact Z;exact Z;decide +kernel;exact Z)|(apply Zay;exact Z)|exact AO.nil _ _ _|(apply Zap;(decide +kernel))|exact AOs.nil|exact ZaE rfl rfl|(apply Zav Zab;(iterate 6 exact Z);(first|exact Go.Zqy|rotate_left);(first|with_reducible assumption|decide +kernel|exact Z);(first|exact Zak rfl|with_reducible assumption|decide +kernel|rotate_left)))
    all_goals(apply Zaz [];(apply Zad Zab;exact Z);(iterate 4 exact Z))
    all_goals rfl
  ·rw[no h2]
   have t2:(((ZaC l).length:Int) != 2)=true:=by rw[hlen];simp;omega
   refine AP.ofA ?_
   refine Zan Tryz.func40 rfl Tryz.ntmps40 rfl rfl ?_
   repeat'(first|(apply Zaa (hI);kernel_rfl;(iterate 4 exact Z))|(apply Zai Zab;exact Z)|(apply Zah Zab;exact Z)|(apply Zaw Zab;exact Z)|(apply Zae;(iterate 3 exact Z);exact Go.Zqy)|(apply Zal;(iterate 3 exact Z);exact Go.Zqy)|(apply Zaj;exact Z;exact Go.Zqy;exact Z;exact Z)|(apply Zag;exact Z;exact Go.Zqy;exact Z;exact Z)|(apply Zac;exact Z;exact Go.Zqy)|(apply Zao Zab;(iterate 4 exact Z))|(apply Zam 21 ZaK;decide +kernel;kernel_rfl;kernel_rfl;kernel_rfl;exact Z;exact Z)|(apply Zaq;(iterate 4 exact Z))|exact AE.nil _ _ _ _|(apply Zat;exact Z)|(apply Zax;exact Z;exact Z;decide +kernel;exact Z)|(apply Zay;exact Z)|exact AO.nil _ _ _|(apply Zap;(decide +kernel))|exact AOs.nil|exact ZaE rfl rfl)
   all_goals(apply Zaz [];(apply Zad Zab;exact Z);(iterate 4 exact Z))
   all_goals rfl
theorem Zqg [Known][KnownU8](d:List UInt8)(k:Int)(n:Nat)(b:List UInt8)(L:List E)(k1:Int)(n1:Nat)(b1:List UInt8)(l1:List It)(k2:Int)(n2:Nat)(b2:List UInt8)(l2:List It)(s:Bool)(N:D)
  (hI:AP Tryz.prog 156 [byE d] (.tup [.agg [.int .i64 k,.int .u64 (n:Int),byE b,.sl .ext L],.bool true]) []) (tk2:(k != 4)=false) (t2:((L.length:Int) != 2)=false) (hU:Uni 4 L)
  (hv0:L[(0:Int).toNat]?=some (.agg [.int .i64 k1,.int .u64 (n1:Int),.sl (b1.map E.byte),.sl (ZaC l1)])) (hv1:L[(1:Int).toNat]?=some (.agg [.int .i64 k2,.int .u64 (n2:Int),.sl (b2.map E.byte),.sl (ZaC l2)]))
  (hN:AP Tryz.prog 96 [.sl .ext [.int .u64 (n1:Int),.int .u64 (n2:Int)]] (.agg [.int .i64 4,.int .u64 0,.sl .ext [],.sl .ext [nmE n1,nmE n2]]) []) (hS:AP Tryz.prog 88 [.agg [.int .i64 k,.int .u64 (n:Int),byE b,.sl .ext L],.agg [.int .i64 4,.int .u64 0,.sl .ext [],.sl .ext [nmE n1,nmE n2]]] (.bool s) []) (ts:s=false) :
  AP Tryz.prog 105 [byE d] (.tup [.int .u64 (n1:Int),.int .u64 (n2:Int),.bool false]) []:=by
 subst ts
 refine AP.ofA ?_
 refine Zan Tryz.func105 rfl Tryz.ntmps105 rfl rfl ?_
 repeat'(first|(apply Zaa (hI);kernel_rfl;(iterate 4 exact Z))|(apply Zaa (hS);kernel_rfl;(iterate 4 exact Z))|(apply Zaa (hN);kernel_rfl;(iterate 4 exact Z))|(apply Zai Zab;exact Z)|(apply Zah Zab;exact Z)|(apply Zaw Zab;exact Z)|(apply Zae;(iterate 3 exact Z);exact Go.Zqy)|(apply Zau;(iterate 3 exact Z);exact Go.Zqy)|(apply Zag;exact Z;exact Go.Zqy;exact Z;exact Z)|(apply Zaf;exact Z;exact Go.Zqy)|(apply Zao Zab;(iterate 4 exact Z))|(apply ZaR Zab;(iterate 12 exact Z))|(apply Zam 11 ZaK;decide +kernel;kernel_rfl;kernel_rfl;kernel_rfl;exact Z;exact Z)|(apply Zam 23 ZaK;decide +kernel;kernel_rfl;kernel_rfl;kernel_rfl;exact Z;exact Z)|(apply Zaq;(iterate 4 exact Z))|exact AE.nil _ _ _ _|(apply Zat;exact Z)|(apply Zax;exact Z;exact Z;decide +kernel;exact Z)|(apply Zay;exact Z)|exact AO.nil _ _ _|(apply Zap;(decide +kernel))|exact AOs.nil|exact ZaE rfl rfl|exact Zc6 rfl rfl rfl rfl rfl|(apply Zav Zab;(iterate 6 exact Z);(first|exact Go.Zqy|rotate_left);(first|with_reducible assumption|decide +kernel|exact Z);(first|exact Zak rfl|with_reducible assumption|decide +kernel|rotate_left)))
 all_goals(apply Zaz [];(apply Zad Zab;exact Z);(iterate 4 exact Z))
 all_goals rfl
theorem Zqh [Known][KnownU8](d:List UInt8)(k:Int)(n:Nat)(b:List UInt8)(L:List E)(k1:Int)(n1:Nat)(b1:List UInt8)(l1:List It)(k2:Int)(n2:Nat)(b2:List UInt8)(l2:List It)(s:Bool)(N:D)
  (hI:AP Tryz.prog 156 [byE d] (.tup [.agg [.int .i64 k,.int .u64 (n:Int),byE b,.sl .ext L],.bool true]) []) (tk2:(k != 4)=false) (t2:((L.length:Int) != 2)=false) (hU:Uni 4 L)
  (hv0:L[(0:Int).toNat]?=some (.agg [.int .i64 k1,.int .u64 (n1:Int),.sl (b1.map E.byte),.sl (ZaC l1)])) (hv1:L[(1:Int).toNat]?=some (.agg [.int .i64 k2,.int .u64 (n2:Int),.sl (b2.map E.byte),.sl (ZaC l2)]))
  (hN:AP Tryz.prog 96 [.sl .ext [.int .u64 (n1:Int),.int .u64 (n2:Int)]] (.agg [.int .i64 4,.int .u64 0,.sl .ext [],.sl .ext [nmE n1,nmE n2]]) []) (hS:AP Tryz.prog 88 [.agg [.int .i64 k,.int .u64 (n:Int),byE b,.sl .ext L],.agg [.int .i64 4,.int .u64 0,.sl .ext [],.sl .ext [nmE n1,nmE n2]]] (.bool s) []) (ts:s=true) (t4:decide ((n1:Int) ≥ 1)=false) :
  AP Tryz.prog 105 [byE d] (.tup [.int .u64 (n1:Int),.int .u64 (n2:Int),.bool false]) []:=by
 subst ts
 refine AP.ofA ?_
 refine Zan Tryz.func105 rfl Tryz.ntmps105 rfl rfl ?_
 repeat'(first|(apply Zaa (hI);kernel_rfl;(iterate 4 exact Z))|(apply Zaa (hS);kernel_rfl;(iterate 4 exact Z))|(apply Zaa (hN);kernel_rfl;(iterate 4 exact Z))|(apply Zai Zab;exact Z)|(apply Zah Zab;exact Z)|(apply Zaw Zab;exact Z)|(apply Zae;(iterate 3 exact Z);exact Go.Zqy)|(apply Zau;(iterate 3 exact Z);exact Go.Zqy)|(apply Zaj;exact Z;exact Go.Zqy;exact Z;exact Z)|(apply Zag;exact Z;exact Go.Zqy;exact Z;exact Z)|(apply Zaf;exact Z;exact Go.Zqy)|(apply Zao Zab;(iterate 4 exact Z))|(apply ZaR Zab;(iterate 12 exact Z))|(apply Zam 11 ZaK;decide +kernel;kernel_rfl;kernel_rfl;kernel_rfl;exact Z;exact Z)|(apply Zam 23 ZaK;decide +kernel;kernel_rfl;kernel_rfl;kernel_rfl;exact Z;exact Z)|(apply Zaq;(iterate 4 exact Z))|exact AE.nil _ _ _ _|(apply Zat;exact Z)|(apply Zax;exact Z;exact Z;decide +kernel;exact Z)|(apply Zay;exact Z)|exact AO.nil _ _ _|(apply Zap;(decide +kernel))|exact AOs.nil|exact ZaE rfl rfl|exact Zc6 rfl rfl rfl rfl rfl|(apply Zav Zab;(iterate 6 exact Z);(first|exact Go.Zqy|rotate_left);(first|with_reducible assumption|decide +kernel|exact Z);(first|exact Zak rfl|with_reducible assumption|decide +kernel|rotate_left)))
 all_goals(apply Zaz [];(apply Zad Zab;exact Z);(iterate 4 exact Z))
 all_goals rfl
theorem Zqi [Known][KnownU8](d:List UInt8)(k:Int)(n:Nat)(b:List UInt8)(L:List E)(k1:Int)(n1:Nat)(b1:List UInt8)(l1:List It)(k2:Int)(n2:Nat)(b2:List UInt8)(l2:List It)(s:Bool)(N:D)
  (hI:AP Tryz.prog 156 [byE d] (.tup [.agg [.int .i64 k,.int .u64 (n:Int),byE b,.sl .ext L],.bool true]) []) (tk2:(k != 4)=false) (t2:((L.length:Int) != 2)=false) (hU:Uni 4 L)
  (hv0:L[(0:Int).toNat]?=some (.agg [.int .i64 k1,.int .u64 (n1:Int),.sl (b1.map E.byte),.sl (ZaC l1)])) (hv1:L[(1:Int).toNat]?=some (.agg [.int .i64 k2,.int .u64 (n2:Int),.sl (b2.map E.byte),.sl (ZaC l2)]))
  (hN:AP Tryz.prog 96 [.sl .ext [.int .u64 (n1:Int),.int .u64 (n2:Int)]] (.agg [.int .i64 4,.int .u64 0,.sl .ext [],.sl .ext [nmE n1,nmE n2]]) []) (hS:AP Tryz.prog 88 [.agg [.int .i64 k,.int .u64 (n:Int),byE b,.sl .ext L],.agg [.int .i64 4,.int .u64 0,.sl .ext [],.sl .ext [nmE n1,nmE n2]]] (.bool s) []) (ts:s=true) (t4:decide ((n1:Int) ≥ 1)=true) (t5:decide ((n1:Int)<=255)=false) :
  AP Tryz.prog 105 [byE d] (.tup [.int .u64 (n1:Int),.int .u64 (n2:Int),.bool false]) []:=by
 subst ts
 refine AP.ofA ?_
 refine Zan Tryz.func105 rfl Tryz.ntmps105 rfl rfl ?_
 repeat'(first|(apply Zaa (hI);kernel_rfl;(iterate 4 exact Z))|(apply Zaa (hS);kernel_rfl;(iterate 4 exact Z))|(apply Zaa (hN);kernel_rfl;(iterate 4 exact Z))|(apply Zai Zab;exact Z)|(apply Zah Zab;exact Z)|(apply Zaw Zab;exact Z)|(apply Zae;(iterate 3 exact Z);exact Go.Zqy)|(apply Zau;(iterate 3 exact Z);exact Go.Zqy)|(apply Zaj;exact Z;exact Go.Zqy;exact Z;exact Z)|(apply Zag;exact Z;exact Go.Zqy;exact Z;exact Z)|(apply Zaf;exact Z;exact Go.Zqy)|(apply Zao Zab;(iterate 4 exact Z))|(apply ZaR Zab;(iterate 12 exact Z))|(apply Zam 11 ZaK;decide +kernel;kernel_rfl;kernel_rfl;kernel_rfl;exact Z;exact Z)|(apply Zam 23 ZaK;decide +kernel;kernel_rfl;kernel_rfl;kernel_rfl;exact Z;exact Z)|(apply Zaq;(iterate 4 exact Z))|exact AE.nil _ _ _ _|(apply Zat;exact Z)|(apply Zax;exact Z;exact Z;decide +kernel;exact Z)|(apply Zay;exact Z)|exact AO.nil _ _ _|(apply Zap;(decide +kernel))|exact AOs.nil|exact ZaE rfl rfl|exact Zc6 rfl rfl rfl rfl rfl|(apply Zav Zab;(iterate 6 exact Z);(first|exact Go.Zqy|rotate_left);(first|with_reducible assumption|decide +kernel|exact Z);(first|exact Zak rfl|with_reducible assumption|decide +kernel|rotate_left)))
 all_goals(apply Zaz [];(apply Zad Zab;exact Z);(iterate 4 exact Z))
 all_goals rfl
theorem Zqj [Known][KnownU8](d:List UInt8)(k:Int)(n:Nat)(b:List UInt8)(L:List E)(k1:Int)(n1:Nat)(b1:List UInt8)(l1:List It)(k2:Int)(n2:Nat)(b2:List UInt8)(l2:List It)(s:Bool)(N:D)
  (hI:AP Tryz.prog 156 [byE d] (.tup [.agg [.int .i64 k,.int .u64 (n:Int),byE b,.sl .ext L],.bool true]) []) (tk2:(k != 4)=false) (t2:((L.length:Int) != 2)=false) (hU:Uni 4 L)
  (hv0:L[(0:Int).toNat]?=some (.agg [.int .i64 k1,.int .u64 (n1:Int),.sl (b1.map E.byte),.sl (ZaC l1)])) (hv1:L[(1:Int).toNat]?=some (.agg [.int .i64 k2,.int .u64 (n2:Int),.sl (b2.map E.byte),.sl (ZaC l2)]))
  (hN:AP Tryz.prog 96 [.sl .ext [.int .u64 (n1:Int),.int .u64 (n2:Int)]] (.agg [.int .i64 4,.int .u64 0,.sl .ext [],.sl .ext [nmE n1,nmE n2]]) []) (hS:AP Tryz.prog 88 [.agg [.int .i64 k,.int .u64 (n:Int),byE b,.sl .ext L],.agg [.int .i64 4,.int .u64 0,.sl .ext [],.sl .ext [nmE n1,nmE n2]]] (.bool s) []) (ts:s=true) (t4:decide ((n1:Int) ≥ 1)=true) (t5:decide ((n1:Int)<=255)=true) :
  AP Tryz.prog 105 [byE d] (.tup [.int .u64 (n1:Int),.int .u64 (n2:Int),.bool (decide ((n2:Int)<=(n1:Int)))]) []:=by
 subst ts
 refine AP.ofA ?_
 refine Zan Tryz.func105 rfl Tryz.ntmps105 rfl rfl ?_
 repeat'(first|(apply Zaa (hI);kernel_rfl;(iterate 4 exact Z))|(apply Zaa (hS);kernel_rfl;(iterate 4 exact Z))|(apply Zaa (hN);kernel_rfl;(iterate 4 exact Z))|(apply Zai Zab;exact Z)|(apply Zah Zab;exact Z)|(apply Zaw Zab;exact Z)|(apply Zae;(iterate 3 exact Z);exact Go.Zqy)|(apply Zaj;exact Z;exact Go.Zqy;exact Z;exact Z)|(apply Zag;exact Z;exact Go.Zqy;exact Z;exact Z)|(apply Zaf;exact Z;exact Go.Zqy)|(apply Zao Zab;(iterate 4 exact Z))|(apply ZaR Zab;(iterate 12 exact Z))|(apply Zam 11 ZaK;decide +kernel;kernel_rfl;kernel_rfl;kernel_rfl;exact Z;exact Z)|(apply Zam 23 ZaK;decide +kernel;kernel_rfl;kernel_rfl;kernel_rfl;exact Z;exact Z)|(apply Zaq;(iterate 4 exact Z))|exact AE.nil _ _ _ _|(apply Zat;exact Z)|(apply Zax;exact Z;exact Z;decide +kernel;exact Z)|(apply Zay;exact Z)|exact AO.nil _ _ _|(apply Zap;(decide +kernel))|exact AOs.nil|exact ZaE rfl rfl|exact Zc6 rfl rfl rfl rfl rfl|(apply Zav Zab;(iterate 6 exact Z);(first|exact Go.Zqy|rotate_left);(first|with_reducible assumption|decide +kernel|exact Z);(first|exact Zak rfl|with_reducible assumption|decide +kernel|rotate_left)))
 all_goals(apply Zaz [];(apply Zad Zab;exact Z);(iterate 4 exact Z))
 all_goals rfl
theorem Zk7 [Known][KnownU8](d:List UInt8)(hd:d.length<=100000):AP Tryz.prog 105 [byE d] (.tup [.int .u64 ((ZcL d).1:Int),.int .u64 ((ZcL d).2.1:Int),.bool (ZcL d).2.2]) []:=by
 have hI:=ZhU d hd
 have hw:=Znw d hd
 unfold ZcL
 generalize (Zbn d 0).1=x at *
 obtain⟨k,n,b,l⟩:=x
 cases hs:Zb3 d with
 | false=>
  rw[hs]at hI
  exact Zp2 d k n b l hI
 | true=>
 rw[hs]at hI
 unfold ZhX
 dsimp only
 cases tk:(k==4) with
 | false=>exact Zp3 d k n b l hI tk
 | true=>
 have tk2:(k != 4)=false:=by rw[bne,tk];rfl
 match l,hI,hw with
 | [],hI,_=>exact Zpu d k n b _ hI tk (by simp)
 | [.mk _ _ _ _],hI,_=>exact Zpu d k n b _ hI tk (by simp)
 | .mk _ _ _ _::.mk _ _ _ _::_::_,hI,_=>exact Zpu d k n b _ hI tk (by simp)
 | [.mk k1 n1 b1 l1,.mk k2 n2 b2 l2],hI,hw=>
 have t2:(((ZaC [It.mk k1 n1 b1 l1,.mk k2 n2 b2 l2]).length:Int) != 2)=false:=by rw[Zas];rfl
 have hU:=Zcd [It.mk k1 n1 b1 l1,.mk k2 n2 b2 l2]
 have hws:=hw.2.2.2
 have hS:=Zen _ hw (.mk 4 0 [] [.mk 0 n1 [] [],.mk 0 n2 [] []]) ⟨by decide,by simp,by simp,⟨hws.1.1,by simp,by simp,trivial⟩,⟨hws.2.1.1,by simp,by simp,trivial⟩,trivial⟩
 have hN:=Zfq n1 n2
 dsimp only
 cases t3:It.beq (.mk k n b [.mk k1 n1 b1 l1,.mk k2 n2 b2 l2]) (.mk 4 0 [] [.mk 0 n1 [] [],.mk 0 n2 [] []]) with
 | false=>exact Zqg d k n b _ k1 n1 b1 l1 k2 n2 b2 l2 _ .junk hI tk2 t2 hU rfl rfl hN hS t3
 | true=>
 cases t4:decide ((n1:Int) ≥ 1) with
 | false=>exact Zqh d k n b _ k1 n1 b1 l1 k2 n2 b2 l2 _ .junk hI tk2 t2 hU rfl rfl hN hS t3 t4
 | true=>
 cases t5:decide ((n1:Int)<=255) with
 | false=>exact Zqi d k n b _ k1 n1 b1 l1 k2 n2 b2 l2 _ .junk hI tk2 t2 hU rfl rfl hN hS t3 t4 t5
 | true=>exact Zqj d k n b _ k1 n1 b1 l1 k2 n2 b2 l2 _ .junk hI tk2 t2 hU rfl rfl hN hS t3 t4 t5
end Go.Proofs.YtakblclkflnnpaaGreatDoor
end
