/- The document's reading of items: an item, at a place. -/
import Derived.Test.YtmljabhmajehnaaGreatDoorO34
import Derived.Test.YtmljabhmajehnaaGreatDoorO27
import Derived.Lib.ItoaNum
import Derived.Test.YtmljabhmajehnaaGreatDoorO26
set_option linter.unusedVariables false
set_option linter.unusedSimpArgs false
section
open Go.RowKit Go.Pl Go.Av
namespace Go.Proofs.YtmljabhmajehnaaGreatDoor
set_option maxHeartbeats 4000000
theorem Ri {s r:List UInt8}{k:Int}{n:Nat}{o:Bool}(h:rdS s=.ok ((k,n,o),r)):∃ kn:Nat,k=(kn:Int):=by
 cases s with
 | nil=>cases h
 | cons c t=>
  rw[rdS]at h
  repeat' split at h
  all_goals first|(injection h with h;injection h with h _;injection h with h _;exact⟨_,h.symm⟩)|cases h
theorem Mx {k:Int}{n:Nat}(hk:k=(n:Int))(h:okK k=false):(k==1)=true\/((k==1)=false/\decide (k>4)=true):=by
 obtain⟨k0,k2,k3,k4⟩:=Nh h
 have h0:k ≠ 0:=by simpa using k0
 have h2:k ≠ 2:=by simpa using k2
 have h3:k ≠ 3:=by simpa using k3
 have h4:k ≠ 4:=by simpa using k4
 by_cases h1:k=1
 ·exact .inl (by simp[h1])
 ·exact .inr ⟨by simp[h1],decide_eq_true (by omega)⟩
theorem NC [Known](b:List UInt8)(hb:b.length<=1099511627776):∀(d deep:Nat),deep+d=7->∀ p m:Nat,p<=b.length->m<=256->AP Tryz.prog 151 [byE b,.int .i64 (p:Int),.int .i64 (deep:Int),.int .i64 (m:Int)] (D1 b (ZS d m (b.drop p)) (QS d m (b.drop p))) []
 | d,deep=>fun hdd p m hp hm=>by
  have hhd:=K1 b (p:Int) (by omega)
  rw[Xu b p hp]at hhd
  cases hr:rdS (b.drop p) with
  | error e=>
   rw[hr]at hhd
   have hi:ZS d m (b.drop p)=.error e:=by cases d<;>rw[ZS,hr]
   have hj:QS d m (b.drop p)=(itZ,0):=by
    cases d with
    | zero=>rw[QS]
    | succ d=>rw[QS,hr]
   rw[hi,hj]
   have te:(((e:Nat):Int) != 0)=true:=by rcases IJ hr with rfl|rfl<;>rfl
   replace hhd:AP Tryz.prog _ [byE b,.int .i64 (p:Int)] (.tup [.agg [.int .i64 0,.int .u64 0,.bool false],.int .i64 0,.int .i64 (e:Int)]) []:=hhd
   show AP Tryz.prog _ _ (.tup [.agg [.int .i64 0,.int .u64 0,.sl .ext [],.sl .ext []],.int .i64 0,.int .i64 0,.int .i64 (e:Int)]) []
   refine AP.ofA (Zl Tryz.func151 U Tryz.ntmps151 U U ?_)
   repeat'(first|(apply Zb (hhd);kernel_rfl;(iterate 4 exact U))|(apply Zh Za;exact U)|(apply Zg Za;exact U)|(apply Zo Za;exact U)|refine Zd U Qt ?_)
   all_goals exact Qe
  | ok y=>
   obtain⟨⟨k,n,o⟩,r⟩:=y
   rw[hr]at hhd
   dsimp only at hhd
   obtain⟨hkn,hn,pre,hpre,_,hpos⟩:=Xq hr
   dsimp only at hn
   obtain⟨q1,q2,q3⟩:=Wf hp hpre
   have hkN:∃ kn:Nat,k=(kn:Int):=by
    have:=Ri hr
    exact this
   obtain⟨kn,hkn⟩:=hkN
   generalize hp2:b.length-r.length=p2 at q1 q2 q3 hhd
   replace hhd:AP Tryz.prog _ [byE b,.int .i64 (p:Int)] (.tup [.agg [.int .i64 k,.int .u64 (n:Int),.bool o],.int .i64 (p2:Int),.int .i64 0]) []:=hhd
   cases hk:okK k with
   | false=>
    have hi:ZS d m (b.drop p)=.error 3:=by cases d<;>rw[ZS,hr]<;>dsimp only<;>rw[hk]<;>rfl
    have hj:QS d m (b.drop p)=(itZ,0):=by
     cases d with
     | zero=>rw[QS]
     | succ d=>rw[QS,hr];dsimp only;rw[hk];rfl
    rw[hi,hj]
    show AP Tryz.prog _ _ (.tup [.agg [.int .i64 0,.int .u64 0,.sl .ext [],.sl .ext []],.int .i64 0,.int .i64 0,.int .i64 3]) []
    rcases Mx hkn hk with h1|⟨h1,h2⟩
    ·refine AP.ofA ?_
     refine Zl Tryz.func151 rfl Tryz.ntmps151 rfl rfl ?_
     repeat'(first|(apply Zb (hhd);kernel_rfl;(iterate 4 exact U))|(apply Zh Za;exact U)|(apply Zg Za;exact U)|(apply Zo Za;exact U)|refine Zn U U U Qt ?_|refine Zk U Qt U U ?_|refine Zd U Qt ?_|refine Zf U Qt ?_)
     all_goals exact Qe
    ·refine AP.ofA ?_
     refine Zl Tryz.func151 rfl Tryz.ntmps151 rfl rfl ?_
     repeat'(first|(apply Zb (hhd);kernel_rfl;(iterate 4 exact U))|(apply Zh Za;exact U)|(apply Zg Za;exact U)|(apply Zo Za;exact U)|refine Ze U U U Qt ?_|refine Zi U Qt U U ?_|refine Zd U Qt ?_|refine Zf U Qt ?_)
     all_goals exact Qe
   | true=>
    have hk':=Xs hk
    cases d with
    | zero=>
     have hi:ZS 0 m (b.drop p)=.error 9:=by rw[ZS,hr];dsimp only;rw[hk];rfl
     have hj:QS 0 m (b.drop p)=(itZ,0):=by rw[QS]
     rw[hi,hj]
     show AP Tryz.prog _ _ (.tup [.agg [.int .i64 0,.int .u64 0,.sl .ext [],.sl .ext []],.int .i64 0,.int .i64 0,.int .i64 9]) []
     obtain rfl:deep=7:=by omega
     rcases hk' with rfl|rfl|rfl|rfl
     all_goals
      refine AP.ofA (Zl Tryz.func151 U Tryz.ntmps151 U U ?_)
      repeat'(first|(apply Zb (hhd);kernel_rfl;(iterate 4 exact U))|(apply Zh Za;exact U)|(apply Zg Za;exact U)|(apply Zo Za;exact U)|refine Ze U U U Qt ?_|refine Zi U Qt U U ?_|refine Zd U Qt ?_|refine Zf U Qt ?_)
      all_goals exact Qe
    | succ d=>
     have dd:decide ((deep:Int)>6)=false:=decide_eq_false (by omega)
     by_cases hm0:m=0
     ·have hi:ZS (d+1) m (b.drop p)=.error 2:=by rw[ZS,hr];dsimp only;rw[hk,if_neg (by simp),if_pos hm0]
      have hj:QS (d+1) m (b.drop p)=(itZ,0):=by rw[QS,hr];dsimp only;rw[hk,if_neg (by simp),if_pos hm0]
      rw[hi,hj]
      show AP Tryz.prog _ _ (.tup [.agg [.int .i64 0,.int .u64 0,.sl .ext [],.sl .ext []],.int .i64 0,.int .i64 0,.int .i64 2]) []
      subst hm0
      rcases hk' with rfl|rfl|rfl|rfl
      all_goals
       refine AP.ofA (Zl Tryz.func151 U Tryz.ntmps151 U U ?_)
       repeat'(first|rw[dd]|(apply Zb (hhd);kernel_rfl;(iterate 4 exact U))|(apply Zh Za;exact U)|(apply Zg Za;exact U)|(apply Zo Za;exact U)|refine Ze U U U Qt ?_|refine Zi U Qt U U ?_|refine Zd U Qt ?_|refine Zf U Qt ?_)
       all_goals exact Qe
     ·have hi:ZS (d+1) m (b.drop p)=WC (ZS d) (k,n,o) (m-1) r:=by rw[ZS,hr];dsimp only;rw[hk,if_neg (by simp),if_neg hm0]
      have hj:QS (d+1) m (b.drop p)=if k=0 then(itZ,0) else if k=4 then(.mk 4 0 [] (Mw (ZS d) (k,n,o) (m-1) r),0) else(.mk k 0 (Tw (k,n,o) r) [],m-1):=by rw[QS,hr];dsimp only;rw[hk,if_neg (by simp),if_neg hm0]
      rw[hi,hj]
      have dm:((m:Int)==0)=false:=by simpa using hm0
      have em:IntKind.i64.wrap ((m:Int)-1)=((m-1:Nat):Int):=by rw[IntWalk.i64_in _ (by omega)];omega
      rcases hk' with rfl|rfl|rfl|rfl
      ·unfold WC
       rw[if_pos rfl]
       show AP Tryz.prog _ _ (.tup [.agg [.int .i64 0,.int .u64 (n:Int),.sl .ext [],.sl .ext []],.int .i64 ((b.length-r.length:Nat):Int),.int .i64 ((m-1:Nat):Int),.int .i64 0]) []
       rw[hp2]
       refine AP.ofA (Zl Tryz.func151 U Tryz.ntmps151 U U ?_)
       repeat'(first|rw[dd]|rw[dm]|rw[em]|(apply Zb (hhd);kernel_rfl;(iterate 4 exact U))|(apply Zh Za;exact U)|(apply Zg Za;exact U)|(apply Zo Za;exact U)|refine Ze U U U Qt ?_|refine Zi U Qt U U ?_|refine Zd U Qt ?_|refine Zf U Qt ?_)
       all_goals exact Qe
      ·have hs:=Hk (2,n,o) b p2 hb q2 hn
       rw[q1]at hs
       unfold WC
       rw[if_neg (by simp),if_neg (by simp),if_neg (by simp),if_neg (by simp)]
       generalize Tw (2,n,o) r=TE at *
       cases ht:U9 (2,n,o) r with
       | error e=>
        rw[ht]at hs
        replace hs:AP Tryz.prog 177 [byE b,.int .i64 (p2:Int),.agg [.int .i64 2,.int .u64 (n:Int),.bool o]] (.tup [.agg [.int .i64 2,.int .u64 0,.sl .ext (TE.map E.byte),.sl .ext []],.int .i64 0,.int .i64 (e:Int)]) []:=hs
        show AP Tryz.prog _ _ (.tup [.agg [.int .i64 2,.int .u64 0,.sl .ext (TE.map E.byte),.sl .ext []],.int .i64 0,.int .i64 ((m-1:Nat):Int),.int .i64 (e:Int)]) []
        refine AP.ofA (Zl Tryz.func151 U Tryz.ntmps151 U U ?_)
        repeat'(first|rw[dd]|rw[dm]|rw[em]|(apply Zb (hhd);kernel_rfl;(iterate 4 exact U))|(apply Zb (hs);kernel_rfl;(iterate 4 exact U))|(apply Zh Za;exact U)|(apply Zg Za;exact U)|(apply Zo Za;exact U)|refine Ze U U U Qt ?_|refine Zi U Qt U U ?_|refine Zf U Qt ?_)
        all_goals exact Qe
       | ok y=>
        obtain⟨c,r2⟩:=y
        rw[ht]at hs
        replace hs:AP Tryz.prog 177 [byE b,.int .i64 (p2:Int),.agg [.int .i64 2,.int .u64 (n:Int),.bool o]] (.tup [.agg [.int .i64 2,.int .u64 0,.sl .ext (c.map E.byte),.sl .ext []],.int .i64 ((b.length-r2.length:Nat):Int),.int .i64 0]) []:=hs
        show AP Tryz.prog _ _ (.tup [.agg [.int .i64 2,.int .u64 0,.sl .ext (c.map E.byte),.sl .ext []],.int .i64 ((b.length-r2.length:Nat):Int),.int .i64 ((m-1:Nat):Int),.int .i64 0]) []
        refine AP.ofA (Zl Tryz.func151 U Tryz.ntmps151 U U ?_)
        repeat'(first|rw[dd]|rw[dm]|rw[em]|(apply Zb (hhd);kernel_rfl;(iterate 4 exact U))|(apply Zb (hs);kernel_rfl;(iterate 4 exact U))|(apply Zh Za;exact U)|(apply Zg Za;exact U)|(apply Zo Za;exact U)|refine Ze U U U Qt ?_|refine Zi U Qt U U ?_|refine Zf U Qt ?_)
        all_goals exact Qe
      ·have hs:=Hk (3,n,o) b p2 hb q2 hn
       rw[q1]at hs
       unfold WC
       rw[if_neg (by simp),if_neg (by simp),if_neg (by simp),if_neg (by simp)]
       generalize Tw (3,n,o) r=TE at *
       cases ht:U9 (3,n,o) r with
       | error e=>
        rw[ht]at hs
        replace hs:AP Tryz.prog 177 [byE b,.int .i64 (p2:Int),.agg [.int .i64 3,.int .u64 (n:Int),.bool o]] (.tup [.agg [.int .i64 3,.int .u64 0,.sl .ext (TE.map E.byte),.sl .ext []],.int .i64 0,.int .i64 (e:Int)]) []:=hs
        show AP Tryz.prog _ _ (.tup [.agg [.int .i64 3,.int .u64 0,.sl .ext (TE.map E.byte),.sl .ext []],.int .i64 0,.int .i64 ((m-1:Nat):Int),.int .i64 (e:Int)]) []
        refine AP.ofA (Zl Tryz.func151 U Tryz.ntmps151 U U ?_)
        repeat'(first|rw[dd]|rw[dm]|rw[em]|(apply Zb (hhd);kernel_rfl;(iterate 4 exact U))|(apply Zb (hs);kernel_rfl;(iterate 4 exact U))|(apply Zh Za;exact U)|(apply Zg Za;exact U)|(apply Zo Za;exact U)|refine Ze U U U Qt ?_|refine Zi U Qt U U ?_|refine Zf U Qt ?_)
        all_goals exact Qe
       | ok y=>
        obtain⟨c,r2⟩:=y
        rw[ht]at hs
        replace hs:AP Tryz.prog 177 [byE b,.int .i64 (p2:Int),.agg [.int .i64 3,.int .u64 (n:Int),.bool o]] (.tup [.agg [.int .i64 3,.int .u64 0,.sl .ext (c.map E.byte),.sl .ext []],.int .i64 ((b.length-r2.length:Nat):Int),.int .i64 0]) []:=hs
        show AP Tryz.prog _ _ (.tup [.agg [.int .i64 3,.int .u64 0,.sl .ext (c.map E.byte),.sl .ext []],.int .i64 ((b.length-r2.length:Nat):Int),.int .i64 ((m-1:Nat):Int),.int .i64 0]) []
        refine AP.ofA (Zl Tryz.func151 U Tryz.ntmps151 U U ?_)
        repeat'(first|rw[dd]|rw[dm]|rw[em]|(apply Zb (hhd);kernel_rfl;(iterate 4 exact U))|(apply Zb (hs);kernel_rfl;(iterate 4 exact U))|(apply Zh Za;exact U)|(apply Zg Za;exact U)|(apply Zo Za;exact U)|refine Ze U U U Qt ?_|refine Zi U Qt U U ?_|refine Zf U Qt ?_)
        all_goals exact Qe
      ·have hs:=Rh d deep (by omega) b hb (fun p m hp hm=>NC b hb d (deep+1) (by omega) p m hp hm) n o p2 (m-1) q2 (by omega) hn
       rw[q1]at hs
       unfold WC
       rw[if_neg (by simp),if_pos rfl,if_neg (by simp),if_pos rfl]
       generalize Mw (ZS d) (4,n,o) (m-1) r=LE at *
       cases ht:JB (ZS d) (4,n,o) (m-1) r with
       | error e=>
        rw[ht]at hs
        replace hs:AP Tryz.prog 176 [byE b,.int .i64 (p2:Int),.agg [.int .i64 4,.int .u64 (n:Int),.bool o],.int .i64 (deep:Int),.int .i64 ((m-1:Nat):Int)] (.tup [.agg [.int .i64 4,.int .u64 0,.sl .ext [],.sl .ext (Zx LE)],.int .i64 0,.int .i64 0,.int .i64 (e:Int)]) []:=hs
        show AP Tryz.prog _ _ (.tup [.agg [.int .i64 4,.int .u64 0,.sl .ext [],.sl .ext (Zx LE)],.int .i64 0,.int .i64 0,.int .i64 (e:Int)]) []
        refine AP.ofA (Zl Tryz.func151 U Tryz.ntmps151 U U ?_)
        repeat'(first|rw[dd]|rw[dm]|rw[em]|(apply Zb (hhd);kernel_rfl;(iterate 4 exact U))|(apply Zb (hs);kernel_rfl;(iterate 4 exact U))|(apply Zh Za;exact U)|(apply Zg Za;exact U)|(apply Zo Za;exact U)|refine Ze U U U Qt ?_|refine Zi U Qt U U ?_|refine Zd U Qt ?_|refine Zf U Qt ?_)
        all_goals exact Qe
       | ok y=>
        obtain⟨l,r2,m2⟩:=y
        rw[ht]at hs
        replace hs:AP Tryz.prog 176 [byE b,.int .i64 (p2:Int),.agg [.int .i64 4,.int .u64 (n:Int),.bool o],.int .i64 (deep:Int),.int .i64 ((m-1:Nat):Int)] (.tup [.agg [.int .i64 4,.int .u64 0,.sl .ext [],.sl .ext (Zx l)],.int .i64 ((b.length-r2.length:Nat):Int),.int .i64 (m2:Int),.int .i64 0]) []:=hs
        show AP Tryz.prog _ _ (.tup [.agg [.int .i64 4,.int .u64 0,.sl .ext [],.sl .ext (Zx l)],.int .i64 ((b.length-r2.length:Nat):Int),.int .i64 (m2:Int),.int .i64 0]) []
        refine AP.ofA (Zl Tryz.func151 U Tryz.ntmps151 U U ?_)
        repeat'(first|rw[dd]|rw[dm]|rw[em]|(apply Zb (hhd);kernel_rfl;(iterate 4 exact U))|(apply Zb (hs);kernel_rfl;(iterate 4 exact U))|(apply Zh Za;exact U)|(apply Zg Za;exact U)|(apply Zo Za;exact U)|refine Ze U U U Qt ?_|refine Zi U Qt U U ?_|refine Zd U Qt ?_|refine Zf U Qt ?_)
        all_goals exact Qe
 termination_by d=>d
theorem Rj [Known](b:List UInt8)(p:Int)(hb:b.length<=1099511627776):AP Tryz.prog 116 [byE b,.int .i64 p] (rdI (Yl b p)) []:=by
 have hlm:(b.map E.byte).length=b.length:=List.length_map ..
 unfold Yl
 by_cases hp:p<0\/(b.length:Int)<p
 ·rw[if_pos hp]
  show AP Tryz.prog _ _ (.tup [.agg [.int .i64 0,.int .u64 0,.sl .ext [],.sl .ext []],.int .i64 0,.int .i64 1]) []
  cases t1:decide (p<0) with
  | true=>
   refine AP.ofA (Zl Tryz.func116 U Tryz.ntmps116 U U ?_)
   repeat'(first|(apply Zh Za;exact U)|(apply Zg Za;exact U)|(apply Zo Za;exact U)|refine Zn U U U Qt ?_|refine Zk U Qt U U ?_|refine Zd U Qt ?_)
   all_goals exact Qe
  | false=>
   have t2:decide (p>((b.map E.byte).length:Int))=true:=decide_eq_true (by have:=of_decide_eq_false t1;omega)
   refine AP.ofA (Zl Tryz.func116 U Tryz.ntmps116 U U ?_)
   repeat'(first|(apply Zh Za;exact U)|(apply Zg Za;exact U)|(apply Zo Za;exact U)|refine Ze U U U Qt ?_|refine Zi U Qt U U ?_|refine Zd U Qt ?_|refine Zm Za U U U U ?_)
   all_goals exact Qe
 ·rw[if_neg hp]
  have t1:decide (p<0)=false:=decide_eq_false (by omega)
  have t2:decide (p>((b.map E.byte).length:Int))=false:=decide_eq_false (by omega)
  obtain⟨q,rfl⟩:∃ q:Nat,p=(q:Int):=⟨p.toNat,by omega⟩
  rw[Int.toNat_natCast]
  have hI:=NC b hb 6 1 rfl q 256 (by omega) (Nat.le_refl _)
  cases hi:ZS 6 256 (b.drop q) with
  | error e=>
   rw[hi]at hI
   have te:(((e:Nat):Int) != 0)=true:=by have:=Uh _ _ _ _ hi;simpa using this
   generalize QS 6 256 (b.drop q)=R at hI
   obtain⟨⟨k0,n0,b0,l0⟩,r0⟩:=R
   replace hI:AP Tryz.prog 151 [byE b,.int .i64 (q:Int),.int .i64 1,.int .i64 256] (.tup [.agg [.int .i64 k0,.int .u64 (n0:Int),.sl .ext (b0.map E.byte),.sl .ext (Zx l0)],.int .i64 0,.int .i64 (r0:Int),.int .i64 (e:Int)]) []:=hI
   show AP Tryz.prog _ _ (.tup [.agg [.int .i64 0,.int .u64 0,.sl .ext [],.sl .ext []],.int .i64 0,.int .i64 (e:Int)]) []
   refine AP.ofA (Zl Tryz.func116 U Tryz.ntmps116 U U ?_)
   repeat'(first|(apply Zb (hI);kernel_rfl;(iterate 4 exact U))|(apply Zh Za;exact U)|(apply Zg Za;exact U)|(apply Zo Za;exact U)|refine Ze U U U Qt ?_|refine Zi U Qt U U ?_|refine Zd U Qt ?_|refine Zf U Qt ?_|refine Zm Za U U U U ?_)
   all_goals exact Qe
  | ok y=>
   obtain⟨⟨k1,n1,b1,l1⟩,r,m1⟩:=y
   rw[hi]at hI
   replace hI:AP Tryz.prog 151 [byE b,.int .i64 (q:Int),.int .i64 1,.int .i64 256] (.tup [.agg [.int .i64 k1,.int .u64 (n1:Int),.sl .ext (b1.map E.byte),.sl .ext (Zx l1)],.int .i64 ((b.length-r.length:Nat):Int),.int .i64 (m1:Int),.int .i64 0]) []:=hI
   show AP Tryz.prog _ _ (.tup [.agg [.int .i64 k1,.int .u64 (n1:Int),.sl .ext (b1.map E.byte),.sl .ext (Zx l1)],.int .i64 ((b.length-r.length:Nat):Int),.int .i64 0]) []
   refine AP.ofA (Zl Tryz.func116 U Tryz.ntmps116 U U ?_)
   repeat'(first|(apply Zb (hI);kernel_rfl;(iterate 4 exact U))|(apply Zh Za;exact U)|(apply Zg Za;exact U)|(apply Zo Za;exact U)|refine Ze U U U Qt ?_|refine Zi U Qt U U ?_|refine Zf U Qt ?_|refine Zm Za U U U U ?_)
   all_goals exact Qe
theorem Hn {x:EidV}(hi:x.i=true):ZE x=true ↔ x.h=[]/\x.d=[]/\1<=(x.n:Int)/\(x.n:Int)<=4294967295/\(x.s:Int)<=4294967295:=by
 have hz:isZ x=false:=by simp[isZ,hi]
 rw[KP hz hi]
 simp[hi,and_assoc]
theorem Rk {x:EidV}(hi:x.i=false):isZ x=true ↔ (x.n:Int)=0/\(x.s:Int)=0/\x.h=[]/\x.d=[]:=by
 simp[isZ,hi]
theorem Ho {x:EidV}(hi:x.i=false)(hz:isZ x=false):ZE x=true ↔ (x.n:Int)=0/\(x.s:Int)=0/\(x.h.length:Int) ≥ 1/\(x.h.length:Int)<=16/\(x.d.length:Int)<=24/\x.h.all (okB 45)=true/\x.d.all (okB 47)=true:=by
 rw[KQ hz hi]
 simp only[Bool.and_eq_true,beq_iff_eq,decide_eq_true_eq,and_true,true_and,and_assoc,hi,beq_self_eq_true]
def YT (x:EidV):Int:=if x.i then(if ZE x then 1 else -1) else if isZ x then 0 else if ZE x then 2 else -1
theorem Jf (x:EidV):decide (YT x ≥ 0)=ZE x:=by
 unfold YT
 cases hi:x.i with
 | true=>cases ZE x<;>rfl
 | false=>
  cases hz:isZ x with
  | true=>rw[KO hz];rfl
  | false=>cases ZE x<;>rfl
theorem Kn (x:EidV):decide (YT x<1)=(!(ZE x)||isZ x):=by
 unfold YT
 cases hi:x.i with
 | true=>
  have hz:isZ x=false:=by simp[isZ,hi]
  rw[hz];cases ZE x<;>rfl
 | false=>
  cases hz:isZ x with
  | true=>rw[KO hz];rfl
  | false=>cases ZE x<;>rfl
theorem X3 [Known](s:List UInt8)(b:Bool)(m:Nat)(hm:m=if b then 47 else 45)(hs:s.length<=9223372036854775807):AP Tryz.prog 127 [.str s,.bool b] (.bool (s.all (okB m))) []:=by
 refine AP.ofA (Zl Tryz.func127 U Tryz.ntmps127 U U ?_)
 repeat'(first|(apply Zg Za;exact U))
 refine ZJ (fun k tm bx fr=>∃ i,k+i=s.length/\(∀ c ∈ s.take i,okB m c=true)/\tm=[(0,.str s),(1,.bool b),(5,.int .i64 (i:Int))]/\bx=[]/\fr=[]) (s.length+1) (Lands.mk' (m:=s.length) (Nat.lt_succ_self _) ⟨0,rfl,by simp,rfl,rfl,rfl⟩ ?_ rfl rfl rfl rfl rfl rfl) ?_
 ·exact .cons rfl (.cons rfl (.cons rfl .nil))
 rintro k tm bx fr ⟨i,hk,hall,rfl,rfl,rfl⟩
 rcases Nat.lt_or_ge i s.length with hlt|hge
 ·have hd:decide ((i:Int)<(s.length:Int))=true:=by simp;omega
  obtain⟨c,hc⟩:∃ c,s[i]?=some c:=⟨_,List.getElem?_eq_getElem hlt⟩
  have hv:s[((i:Nat):Int).toNat]?=some c:=by simpa using hc
  have ei:IntKind.i64.wrap ((i:Int)+1)=((i+1:Nat):Int):=by rw[IntWalk.i64_in _ (by omega)];omega
  have hstep:okB m c=true->∀ x ∈ s.take (i+1),okB m x=true:=fun h x hx=>by
   rw[List.take_add_one,hc]at hx
   rcases List.mem_append.1 hx with hx|hx
   ·exact hall x hx
   ·simp at hx;subst hx;exact h
  have hbad:¬ okB m c=true->s.all (okB m)=false:=fun h=>List.all_eq_false.2 ⟨c,List.mem_of_getElem? hc,h⟩
  cases b with
  | false=>
   have hm':m=45:=hm
   subst hm'
   repeat'(first|rw[ei]|refine V0 Za U U U U U (Int.natCast_nonneg _) hv ?_|(apply Zh Za;exact U)|(apply Zg Za;exact U)|(apply Zo Za;exact U)|(apply Ze;(iterate 3 exact U);(first|with_reducible assumption|(solve|simp only[bn])))|(apply Zr;(iterate 3 exact U);(first|with_reducible assumption|(solve|simp only[bn])))|(apply Zn;(iterate 3 exact U);(first|with_reducible assumption|(solve|simp only[bn])))|refine UE U U U ?_|(apply Ys;exact U;exact U;all_goals intro hb)|(apply Zk;exact U;(first|with_reducible assumption|(solve|simp only[bn]));exact U;exact U)|(apply Zi;exact U;(first|with_reducible assumption|(solve|simp only[bn]));exact U;exact U)|(apply Zd;exact U;(first|with_reducible assumption|(solve|simp only[bn])))|(apply Zf;exact U;(first|with_reducible assumption|(solve|simp only[bn])))|refine Z0 ?_|refine Yh Za U U U U ?_)
   all_goals first
    | (refine Lands.mk' (m:=k-1) (by omega) ⟨i+1,by omega,hstep ?_,rfl,rfl,rfl⟩ ?_ rfl rfl rfl rfl rfl rfl
       ·rw[Ui]
        clear hstep hbad hall
        simp only[decide_eq_true_eq,decide_eq_false_iff_not,beq_iff_eq,beq_eq_false_iff_ne,ne_eq,Bool.not_eq_false',Bool.not_eq_true']at *
        omega
       ·exact .cons rfl (.cons rfl (.cons rfl .nil)))
    | ((apply Zp [];(apply Zc Za;exact U);(iterate 4 exact U))
       ·rw[hbad (fun h=>by
          rw[Ui]at h
          clear hstep hbad hall
          simp only[decide_eq_true_eq,decide_eq_false_iff_not,beq_iff_eq,beq_eq_false_iff_ne,ne_eq,Bool.not_eq_false',Bool.not_eq_true']at *
          omega)]
       ·rfl)
  | true=>
   have hm':m=47:=hm
   subst hm'
   repeat'(first|rw[ei]|refine V0 Za U U U U U (Int.natCast_nonneg _) hv ?_|(apply Zh Za;exact U)|(apply Zg Za;exact U)|(apply Zo Za;exact U)|(apply Ze;(iterate 3 exact U);(first|with_reducible assumption|(solve|simp only[bn])))|(apply Zr;(iterate 3 exact U);(first|with_reducible assumption|(solve|simp only[bn])))|(apply Zn;(iterate 3 exact U);(first|with_reducible assumption|(solve|simp only[bn])))|refine UE U U U ?_|(apply Ys;exact U;exact U;all_goals intro hb)|(apply Zk;exact U;(first|with_reducible assumption|(solve|simp only[bn]));exact U;exact U)|(apply Zi;exact U;(first|with_reducible assumption|(solve|simp only[bn]));exact U;exact U)|(apply Zd;exact U;(first|with_reducible assumption|(solve|simp only[bn])))|(apply Zf;exact U;(first|with_reducible assumption|(solve|simp only[bn])))|(apply YJ;exact U;all_goals intro hb)|refine Z0 ?_|refine Yh Za U U U U ?_)
   all_goals first
    | (refine Lands.mk' (m:=k-1) (by omega) ⟨i+1,by omega,hstep ?_,rfl,rfl,rfl⟩ ?_ rfl rfl rfl rfl rfl rfl
       ·rw[Ui]
        clear hstep hbad hall
        simp only[decide_eq_true_eq,decide_eq_false_iff_not,beq_iff_eq,beq_eq_false_iff_ne,ne_eq,Bool.not_eq_false',Bool.not_eq_true']at *
        omega
       ·exact .cons rfl (.cons rfl (.cons rfl .nil)))
    | ((apply Zp [];(apply Zc Za;exact U);(iterate 4 exact U))
       ·rw[hbad (fun h=>by
          rw[Ui]at h
          clear hstep hbad hall
          simp only[decide_eq_true_eq,decide_eq_false_iff_not,beq_iff_eq,beq_eq_false_iff_ne,ne_eq,Bool.not_eq_false',Bool.not_eq_true']at *
          omega)]
       ·rfl)
 ·have hd:decide ((i:Int)<(s.length:Int))=false:=by simp;omega
  repeat'(first|(apply Zh Za;exact U)|(apply Zg Za;exact U)|(apply Zo Za;exact U)|(apply Zf;exact U;(first|with_reducible assumption|(solve|simp only[bn])))|refine Yh Za U U U U ?_)
  (apply Zp [];(apply Zc Za;exact U);(iterate 4 exact U))
  ·rw[List.take_of_length_le hge]at hall
   rw[List.all_eq_true.2 hall]
  ·rfl
def Fit (x:EidV):Prop:=x.h.length<=9223372036854775807/\x.d.length<=9223372036854775807
theorem WZ [Known](x:EidV)(hx:Fit x):AP Tryz.prog 87 [.agg (eC x)] (.int .i64 (YT x)) []:=by
 refine AP.ofA (Zl Tryz.func87 U Tryz.ntmps87 U U ?_)
 cases hi:x.i with
 | true=>
  have hE:=Hn hi
  repeat'(first|(apply Zh Za;exact U)|(apply Zg Za;exact U)|(apply Zo Za;exact U)|(apply Ze;(iterate 3 exact U);(first|with_reducible assumption|(solve|simp only[bn])))|(apply Zn;(iterate 3 exact U);(first|with_reducible assumption|(solve|simp only[bn])))|(apply Ys;exact U;exact U;all_goals intro hb)|(apply Zk;exact U;(first|with_reducible assumption|(solve|simp only[bn]));exact U;exact U)|(apply Zi;exact U;(first|with_reducible assumption|(solve|simp only[bn]));exact U;exact U)|(apply Zd;exact U;(first|with_reducible assumption|(solve|simp only[bn])))|(apply YJ;exact U;all_goals intro hb))
  all_goals(apply Zp [];(apply Zc Za;exact U);(iterate 4 exact U))
  all_goals first
   | rfl
   | (unfold YT
      rw[hi]
      simp only[if_true]
      simp only[decide_eq_true_eq,decide_eq_false_iff_not,beq_iff_eq,beq_eq_false_iff_ne,ne_eq,bne_iff_ne,bne_eq_false_iff_eq,Bool.not_eq_false',Bool.not_eq_true']at *
      split
      ·first
         | rfl
         | (exfalso;rename_i h;obtain⟨h1,h2,h3,h4,h5⟩:=hE.1 h;first|contradiction|omega)
      ·first
         | rfl
         | (exfalso;rename_i h;exact h (hE.2 ⟨by assumption,by assumption,by omega,by omega,by omega⟩)))
 | false=>
  have hZ:=Rk hi
  have hE:=fun hz=>Ho (x:=x) hi hz
  repeat'(first|(apply Zb (X3 x.h false 45 rfl hx.1);kernel_rfl;(iterate 4 exact U))|(apply Zb (X3 x.d true 47 rfl hx.2);kernel_rfl;(iterate 4 exact U))|(apply Zh Za;exact U)|(apply Zg Za;exact U)|(apply Zo Za;exact U)|(apply Ze;(iterate 3 exact U);(first|with_reducible assumption|(solve|simp only[bn])))|(apply Zr;(iterate 3 exact U);(first|with_reducible assumption|(solve|simp only[bn])))|(apply Zn;(iterate 3 exact U);(first|with_reducible assumption|(solve|simp only[bn])))|(apply Ys;exact U;exact U;all_goals intro hb)|(apply Zk;exact U;(first|with_reducible assumption|(solve|simp only[bn]));exact U;exact U)|(apply Zi;exact U;(first|with_reducible assumption|(solve|simp only[bn]));exact U;exact U)|(apply Zd;exact U;(first|with_reducible assumption|(solve|simp only[bn])))|(apply Zf;exact U;(first|with_reducible assumption|(solve|simp only[bn])))|(apply YJ;exact U;all_goals intro hb)|refine Yh Za U U U U ?_)
  all_goals(apply Zp [];(apply Zc Za;exact U);(iterate 4 exact U))
  all_goals first
   | rfl
   | (unfold YT
      rw[hi]
      simp only[Bool.false_eq_true,if_false]
      simp only[decide_eq_true_eq,decide_eq_false_iff_not,beq_iff_eq,beq_eq_false_iff_ne,ne_eq,bne_iff_ne,bne_eq_false_iff_eq,Bool.not_eq_false',Bool.not_eq_true']at *
      split
      ·first
         | rfl
         | (exfalso;rename_i h;obtain⟨h1,h2,h3,h4⟩:=hZ.1 h;first|contradiction|omega)
      ·rename_i hz
       have hz':isZ x=false:=by simpa using hz
       split
       ·first
          | rfl
          | (exfalso;rename_i h;obtain⟨h1,h2,h3,h4,h5,h6,h7⟩:=(hE hz').1 h;first|contradiction|omega|(simp_all;done))
       ·first
          | rfl
          | (exfalso;rename_i h;exact h ((hE hz').2 ⟨by omega,by omega,by omega,by omega,by omega,by assumption,by assumption⟩))
          | (exfalso;exact hz (hZ.2 ⟨by assumption,by assumption,by assumption,by assumption⟩)))
theorem IU [Known](x:EidV):AP Tryz.prog 28 [.agg (eC x)] (.agg (eC x)) []:=by
 refine AP.ofA (Zl Tryz.func28 U Tryz.ntmps28 U U ?_)
 repeat'(first|(apply Zg Za;exact U))
 (apply Zp [];(apply Zc Za;exact U);(iterate 4 exact U))
 all_goals rfl
theorem Rl {n:Nat}(h:0<n/10):Lib.decDigits n=Lib.decDigits (n/10)++[UInt8.ofNat (48+n % 10)]:=by
 rw[Lib.decDigits,dif_neg (by omega)]
theorem Hp {n:Nat}(h:n/10=0):Lib.decDigits n=[UInt8.ofNat (48+n % 10)]:=by
 rw[Lib.decDigits,dif_pos (by omega),Nat.mod_eq_of_lt (by omega)]
theorem Rm {k:Nat}(h:k<10):(UInt8.ofNat (48+k)).toNat=48+k:=by
 rw[UInt8.toNat_ofNat'];omega
theorem Tx:∀(k u:Nat),u<10 ^ (k+1)->(Lib.decDigits u).length<=k+1
 | 0,u,h=>by rw[Lib.decDigits,dif_pos (by simpa using h)];simp
 | k+1,u,h=>by
  rw[Lib.decDigits]
  by_cases h1:u<10
  ·rw[dif_pos h1];simp
  ·rw[dif_neg h1,List.length_append]
   have:=Tx k (u/10) (by rw[Nat.pow_succ]at h;omega)
   simp;omega
theorem Ig [Known](N:Nat)(hN:N<18446744073709551616):AP Tryz.prog 193 [.int .u64 (N:Int)] (.str (Lib.decDigits N)) []:=by
 refine AP.ofA (Zl Tryz.func193 U Tryz.ntmps193 U U ?_)
 repeat'(first|(apply Zg Za;exact U))
 refine ZJ (fun k tm bx fr=>∃(n:Nat) (out:List UInt8),k=n+(if out=[] then 1 else 0)/\n<=N/\((out=[]/\n=N)\/(out ≠ []/\(if n=0 then out=Lib.decDigits N else Lib.decDigits n++out=Lib.decDigits N)))/\tm=[(0,.int .u64 (n:Int)),(2,.str []),(3,.str out)]/\bx=[]/\fr=[]) (N+2) (Lands.mk' (m:=N+1) (by omega) ⟨N,[],by simp,Nat.le_refl _,.inl ⟨rfl,rfl⟩,rfl,rfl,rfl⟩ ?_ rfl rfl rfl rfl rfl rfl) ?_
 ·exact .cons rfl (.cons rfl (.cons rfl .nil))
 rintro k tm bx fr ⟨n,out,hk,hn,hI,rfl,rfl,rfl⟩
 have hol:out.length<=20:=by
  have hd:=Tx 19 N (by omega)
  rcases hI with⟨rfl,_⟩ | ⟨_,h⟩
  ·simp
  ·split at h
   ·rw[h];exact hd
   ·rw[<- h,List.length_append]at hd;omega
 have e0:IntKind.u8.wrap (IntKind.u64.wrap (48+((n:Int)).tmod 10))=((UInt8.ofNat (48+n % 10)).toNat:Int):=by
  have hm:((n:Int)).tmod 10=((n % 10:Nat):Int):=by rw[Int.tmod_eq_emod_of_nonneg (by omega)];omega
  rw[hm,IntWalk.u64_in _ (by omega),Rm (by omega),IntWalk.u8_in _ (by omega)];omega
 have e1:((n:Int)).tdiv 10=((n/10:Nat):Int):=by rw[Int.tdiv_eq_ediv_of_nonneg (by omega)];omega
 have e2:IntKind.u64.wrap ((n/10:Nat):Int)=((n/10:Nat):Int):=IntWalk.u64_in _ (by omega)
 have l1:[UInt8.ofNat (48+n % 10)].length+out.length<=maxLen:=by simp;unfold maxLen;omega
 have hgo:((out=[]/\n=N)\/(out ≠ []/\0<n/\Lib.decDigits n++out=Lib.decDigits N))->(if n/10=0 then [UInt8.ofNat (48+n % 10)]++out=Lib.decDigits N else Lib.decDigits (n/10)++([UInt8.ofNat (48+n % 10)]++out)=Lib.decDigits N):=fun h=>by
  have hh:Lib.decDigits n++out=Lib.decDigits N:=by
   rcases h with⟨rfl,rfl⟩ | ⟨_,_,h⟩
   ·simp
   ·exact h
  split
  ·rename_i h1;rw[<- hh,Hp h1]
  ·rename_i h1;rw[<- hh,Rl (n:=n) (by omega),List.append_assoc]
 rcases Nat.eq_zero_or_pos n with h0|h0
 ·subst h0
  have t1:decide (((0:Nat):Int)>0)=false:=by decide
  cases out with
  | nil=>
   repeat'(first|rw[e0]|rw[e2]|rw[e1]|refine Vo Za U (show _=[UInt8.ofNat (48+0 % 10)].map E.byte from rfl) U U U U U U U ?_|refine QB U U l1 U ?_|(apply Zh Za;exact U)|(apply Zg Za;exact U)|(apply Zo Za;exact U)|refine Ze U U U Qt ?_|refine Zi U Qt U U ?_|refine Zd U Qt ?_|refine Z6 ?_|refine QE Za U U U U U U U U U U U U ?_|(apply U4;exact U;exact U;(first|exact Qt|rotate_left);exact U)|(apply U5;exact U;exact U;(first|exact Qt|rotate_left);exact U))
   refine Lands.mk' (m:=0) (by simp at hk;omega) ⟨0,[UInt8.ofNat (48+0 % 10)]++[],by simp,by omega,.inr ⟨by simp,?_⟩,rfl,rfl,rfl⟩ ?_ rfl rfl rfl rfl rfl rfl
   ·rw[if_pos rfl]
    rcases hI with⟨_,rfl⟩ | ⟨h,_⟩
    ·rw[Hp (by omega)];rfl
    ·exact absurd rfl h
   ·exact .cons rfl (.cons rfl (.cons rfl .nil))
  | cons c r=>
   have t2:(c::r==[])=false:=by simp
   have hR:c::r=Lib.decDigits N:=by
    rcases hI with⟨h,_⟩ | ⟨_,h⟩
    ·cases h
    ·exact h
   repeat'(first|(apply Zh Za;exact U)|(apply Zg Za;exact U)|(apply Zo Za;exact U)|refine Ze U U U Qt ?_|refine Zi U Qt U U ?_|refine Zf U Qt ?_)
   all_goals(apply Zp [];(apply Zc Za;exact U);(iterate 4 exact U))
   all_goals first|rfl|(rw[hR];done)|(rw[<- hR];rfl)
 ·have t1:decide ((n:Int)>0)=true:=decide_eq_true (by omega)
  have hx:=hgo (by
   rcases hI with h|⟨h,h2⟩
   ·exact .inl h
   ·rw[if_neg (by omega)]at h2;exact .inr ⟨h,h0,h2⟩)
  repeat'(first|rw[e0]|rw[e2]|rw[e1]|refine Vo Za U (show _=[UInt8.ofNat (48+n % 10)].map E.byte from rfl) U U U U U U U ?_|refine QB U U l1 U ?_|(apply Zh Za;exact U)|(apply Zg Za;exact U)|(apply Zo Za;exact U)|refine Zn U U U Qt ?_|refine Zk U Qt U U ?_|refine Zd U Qt ?_|refine Z6 ?_|refine QE Za U U U U U U U U U U U U ?_|(apply U4;exact U;exact U;(first|exact Qt|rotate_left);exact U)|(apply U5;exact U;exact U;(first|exact Qt|rotate_left);exact U))
  refine Lands.mk' (m:=n/10) (by omega) ⟨n/10,[UInt8.ofNat (48+n % 10)]++out,by simp,by omega,.inr ⟨by simp,hx⟩,rfl,rfl,rfl⟩ ?_ rfl rfl rfl rfl rfl rfl
  exact .cons rfl (.cons rfl (.cons rfl .nil))
def isD (c:UInt8):Bool:=decide ((c.toNat:Int) ≥ 48)&&decide ((c.toNat:Int)<=57)
def Wu:Nat->Nat->List UInt8->Nat × Nat
 | 0,a,_=>(a,0)
 | f+1,a,[]=>(a,0)
 | f+1,a,c::r=>if isD c then((Wu f (10*a+(c.toNat-48)) r).1,(Wu f (10*a+(c.toNat-48)) r).2+1) else(a,0)
theorem Ko {c:UInt8}:isD c=true ↔ 48<=c.toNat/\c.toNat<=57:=by
 simp only[isD,Bool.and_eq_true,decide_eq_true_eq];omega
theorem ND (n:Nat)(hn:n<18446744073709551616):(Lib.decDigits n).length<=20:=by
 rw[Lib.decDigits_length]
 rcases Nat.eq_zero_or_pos n with rfl|h
 ·rw[Lib.nDigits_small (by omega)];omega
 ·have:=Lib.numDigits_eq n h hn;split at this<;>omega
def WT (x:EidV):List UInt8:=
 if isZ x then [100,116,110,58,110,111,110,101]
 else if x.i then [105,112,110,58]++Lib.decDigits x.n++[46]++Lib.decDigits x.s
 else [100,116,110,58]++Y5 x
end Go.Proofs.YtmljabhmajehnaaGreatDoor
end
