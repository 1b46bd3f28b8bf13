/- The document's reading of items: an item, at a place. -/
import Derived.Test.YtmljabhmajehnaaGreatDoorR39
import Derived.Test.YtmljabhmajehnaaGreatDoorR34
import Derived.Test.YtmljabhmajehnaaGreatDoorR29
import Derived.Test.YtmljabhmajehnaaGreatDoorR25
set_option linter.unusedVariables false
set_option linter.unusedSimpArgs false
section
open Go.RowKit Go.Pl Go.Av
namespace Go.Proofs.YtmljabhmajehnaaGreatDoor
set_option maxHeartbeats 4000000
theorem Rd {s r:List UInt8}{k:Int}{n:Nat}{o:Bool}(h:rdS s=.ok ((k,n,o),r)):∃ kn:Nat,k=(kn:Int):=by
 cases s with
 | nil=>cases h
 | cons c t=>
  rw[rdS]at h
  repeat' split at h
  all_goals first|(injection h with h;injection h with h _;injection h with h _;exact⟨_,h.symm⟩)|cases h
theorem Mo {k:Int}{n:Nat}(hk:k=(n:Int))(h:okK k=false):(k==1)=true\/((k==1)=false/\decide (k>4)=true):=by
 obtain⟨k0,k2,k3,k4⟩:=Nr h
 have h0:k ≠ 0:=by simpa using k0
 have h2:k ≠ 2:=by simpa using k2
 have h3:k ≠ 3:=by simpa using k3
 have h4:k ≠ 4:=by simpa using k4
 by_cases h1:k=1
 ·exact .inl (by simp[h1])
 ·exact .inr ⟨by simp[h1],decide_eq_true (by omega)⟩
theorem Nv [Known](b:List UInt8)(hb:b.length<=1099511627776):∀(d deep:Nat),deep+d=7->∀ p m:Nat,p<=b.length->m<=256->AP Tryz.prog 151 [byE b,.int .i64 (p:Int),.int .i64 (deep:Int),.int .i64 (m:Int)] (DT b (ZN d m (b.drop p)) (QU d m (b.drop p))) []
 | d,deep=>fun hdd p m hp hm=>by
  have hhd:=Od b (p:Int) (by omega)
  rw[XG b p hp]at hhd
  cases hr:rdS (b.drop p) with
  | error e=>
   rw[hr]at hhd
   have hi:ZN d m (b.drop p)=.error e:=by cases d<;>rw[ZN,hr]
   have hj:QU d m (b.drop p)=(itZ,0):=by
    cases d with
    | zero=>rw[QU]
    | succ d=>rw[QU,hr]
   rw[hi,hj]
   have te:(((e:Nat):Int) != 0)=true:=by rcases IP hr with rfl|rfl<;>rfl
   replace hhd:AP Tryz.prog _ [byE b,.int .i64 (p:Int)] (.tup [.agg [.int .i64 0,.int .u64 0,.bool false],.int .i64 0,.int .i64 (e:Int)]) []:=hhd
   show AP Tryz.prog _ _ (.tup [.agg [.int .i64 0,.int .u64 0,.sl .ext [],.sl .ext []],.int .i64 0,.int .i64 0,.int .i64 (e:Int)]) []
   refine AP.ofA (Zl Tryz.func151 U Tryz.ntmps151 U U ?_)
   repeat'(first|(apply Zb (hhd);kernel_rfl;(iterate 4 exact U))|(apply Zi Za;exact U)|(apply Zg Za;exact U)|(apply Zp Za;exact U)|refine Zd U Qt ?_)
   all_goals exact Qe
  | ok y=>
   obtain⟨⟨k,n,o⟩,r⟩:=y
   rw[hr]at hhd
   dsimp only at hhd
   obtain⟨hkn,hn,pre,hpre,_,hpos⟩:=Xs hr
   dsimp only at hn
   obtain⟨q1,q2,q3⟩:=Wr hp hpre
   have hkN:∃ kn:Nat,k=(kn:Int):=by
    have:=Rd hr
    exact this
   obtain⟨kn,hkn⟩:=hkN
   generalize hp2:b.length-r.length=p2 at q1 q2 q3 hhd
   replace hhd:AP Tryz.prog _ [byE b,.int .i64 (p:Int)] (.tup [.agg [.int .i64 k,.int .u64 (n:Int),.bool o],.int .i64 (p2:Int),.int .i64 0]) []:=hhd
   cases hk:okK k with
   | false=>
    have hi:ZN d m (b.drop p)=.error 3:=by cases d<;>rw[ZN,hr]<;>dsimp only<;>rw[hk]<;>rfl
    have hj:QU d m (b.drop p)=(itZ,0):=by
     cases d with
     | zero=>rw[QU]
     | succ d=>rw[QU,hr];dsimp only;rw[hk];rfl
    rw[hi,hj]
    show AP Tryz.prog _ _ (.tup [.agg [.int .i64 0,.int .u64 0,.sl .ext [],.sl .ext []],.int .i64 0,.int .i64 0,.int .i64 3]) []
    rcases Mo hkn hk with h1|⟨h1,h2⟩
    ·refine AP.ofA ?_
     refine Zl Tryz.func151 rfl Tryz.ntmps151 rfl rfl ?_
     repeat'(first|(apply Zb (hhd);kernel_rfl;(iterate 4 exact U))|(apply Zi Za;exact U)|(apply Zg Za;exact U)|(apply Zp Za;exact U)|refine Zm U U U Qt ?_|refine Zj U Qt U U ?_|refine Zd U Qt ?_|refine Zf U Qt ?_)
     all_goals exact Qe
    ·refine AP.ofA ?_
     refine Zl Tryz.func151 rfl Tryz.ntmps151 rfl rfl ?_
     repeat'(first|(apply Zb (hhd);kernel_rfl;(iterate 4 exact U))|(apply Zi Za;exact U)|(apply Zg Za;exact U)|(apply Zp Za;exact U)|refine Ze U U U Qt ?_|refine Zh U Qt U U ?_|refine Zd U Qt ?_|refine Zf U Qt ?_)
     all_goals exact Qe
   | true=>
    have hk':=Xu hk
    cases d with
    | zero=>
     have hi:ZN 0 m (b.drop p)=.error 9:=by rw[ZN,hr];dsimp only;rw[hk];rfl
     have hj:QU 0 m (b.drop p)=(itZ,0):=by rw[QU]
     rw[hi,hj]
     show AP Tryz.prog _ _ (.tup [.agg [.int .i64 0,.int .u64 0,.sl .ext [],.sl .ext []],.int .i64 0,.int .i64 0,.int .i64 9]) []
     obtain rfl:deep=7:=by omega
     rcases hk' with rfl|rfl|rfl|rfl
     all_goals
      refine AP.ofA (Zl Tryz.func151 U Tryz.ntmps151 U U ?_)
      repeat'(first|(apply Zb (hhd);kernel_rfl;(iterate 4 exact U))|(apply Zi Za;exact U)|(apply Zg Za;exact U)|(apply Zp Za;exact U)|refine Ze U U U Qt ?_|refine Zh U Qt U U ?_|refine Zd U Qt ?_|refine Zf U Qt ?_)
      all_goals exact Qe
    | succ d=>
     have dd:decide ((deep:Int)>6)=false:=decide_eq_false (by omega)
     by_cases hm0:m=0
     ·have hi:ZN (d+1) m (b.drop p)=.error 2:=by rw[ZN,hr];dsimp only;rw[hk,if_neg (by simp),if_pos hm0]
      have hj:QU (d+1) m (b.drop p)=(itZ,0):=by rw[QU,hr];dsimp only;rw[hk,if_neg (by simp),if_pos hm0]
      rw[hi,hj]
      show AP Tryz.prog _ _ (.tup [.agg [.int .i64 0,.int .u64 0,.sl .ext [],.sl .ext []],.int .i64 0,.int .i64 0,.int .i64 2]) []
      subst hm0
      rcases hk' with rfl|rfl|rfl|rfl
      all_goals
       refine AP.ofA (Zl Tryz.func151 U Tryz.ntmps151 U U ?_)
       repeat'(first|rw[dd]|(apply Zb (hhd);kernel_rfl;(iterate 4 exact U))|(apply Zi Za;exact U)|(apply Zg Za;exact U)|(apply Zp Za;exact U)|refine Ze U U U Qt ?_|refine Zh U Qt U U ?_|refine Zd U Qt ?_|refine Zf U Qt ?_)
       all_goals exact Qe
     ·have hi:ZN (d+1) m (b.drop p)=WI (ZN d) (k,n,o) (m-1) r:=by rw[ZN,hr];dsimp only;rw[hk,if_neg (by simp),if_neg hm0]
      have hj:QU (d+1) m (b.drop p)=if k=0 then(itZ,0) else if k=4 then(.mk 4 0 [] (Mn (ZN d) (k,n,o) (m-1) r),0) else(.mk k 0 (TD (k,n,o) r) [],m-1):=by rw[QU,hr];dsimp only;rw[hk,if_neg (by simp),if_neg hm0]
      rw[hi,hj]
      have dm:((m:Int)==0)=false:=by simpa using hm0
      have em:IntKind.i64.wrap ((m:Int)-1)=((m-1:Nat):Int):=by rw[IntWalk.i64_in _ (by omega)];omega
      rcases hk' with rfl|rfl|rfl|rfl
      ·unfold WI
       rw[if_pos rfl]
       show AP Tryz.prog _ _ (.tup [.agg [.int .i64 0,.int .u64 (n:Int),.sl .ext [],.sl .ext []],.int .i64 ((b.length-r.length:Nat):Int),.int .i64 ((m-1:Nat):Int),.int .i64 0]) []
       rw[hp2]
       refine AP.ofA (Zl Tryz.func151 U Tryz.ntmps151 U U ?_)
       repeat'(first|rw[dd]|rw[dm]|rw[em]|(apply Zb (hhd);kernel_rfl;(iterate 4 exact U))|(apply Zi Za;exact U)|(apply Zg Za;exact U)|(apply Zp Za;exact U)|refine Ze U U U Qt ?_|refine Zh U Qt U U ?_|refine Zd U Qt ?_|refine Zf U Qt ?_)
       all_goals exact Qe
      ·have hs:=Ho (2,n,o) b p2 hb q2 hn
       rw[q1]at hs
       unfold WI
       rw[if_neg (by simp),if_neg (by simp),if_neg (by simp),if_neg (by simp)]
       generalize TD (2,n,o) r=TE at *
       cases ht:U8 (2,n,o) r with
       | error e=>
        rw[ht]at hs
        replace hs:AP Tryz.prog 177 [byE b,.int .i64 (p2:Int),.agg [.int .i64 2,.int .u64 (n:Int),.bool o]] (.tup [.agg [.int .i64 2,.int .u64 0,.sl .ext (TE.map E.byte),.sl .ext []],.int .i64 0,.int .i64 (e:Int)]) []:=hs
        show AP Tryz.prog _ _ (.tup [.agg [.int .i64 2,.int .u64 0,.sl .ext (TE.map E.byte),.sl .ext []],.int .i64 0,.int .i64 ((m-1:Nat):Int),.int .i64 (e:Int)]) []
        refine AP.ofA (Zl Tryz.func151 U Tryz.ntmps151 U U ?_)
        repeat'(first|rw[dd]|rw[dm]|rw[em]|(apply Zb (hhd);kernel_rfl;(iterate 4 exact U))|(apply Zb (hs);kernel_rfl;(iterate 4 exact U))|(apply Zi Za;exact U)|(apply Zg Za;exact U)|(apply Zp Za;exact U)|refine Ze U U U Qt ?_|refine Zh U Qt U U ?_|refine Zf U Qt ?_)
        all_goals exact Qe
       | ok y=>
        obtain⟨c,r2⟩:=y
        rw[ht]at hs
        replace hs:AP Tryz.prog 177 [byE b,.int .i64 (p2:Int),.agg [.int .i64 2,.int .u64 (n:Int),.bool o]] (.tup [.agg [.int .i64 2,.int .u64 0,.sl .ext (c.map E.byte),.sl .ext []],.int .i64 ((b.length-r2.length:Nat):Int),.int .i64 0]) []:=hs
        show AP Tryz.prog _ _ (.tup [.agg [.int .i64 2,.int .u64 0,.sl .ext (c.map E.byte),.sl .ext []],.int .i64 ((b.length-r2.length:Nat):Int),.int .i64 ((m-1:Nat):Int),.int .i64 0]) []
        refine AP.ofA (Zl Tryz.func151 U Tryz.ntmps151 U U ?_)
        repeat'(first|rw[dd]|rw[dm]|rw[em]|(apply Zb (hhd);kernel_rfl;(iterate 4 exact U))|(apply Zb (hs);kernel_rfl;(iterate 4 exact U))|(apply Zi Za;exact U)|(apply Zg Za;exact U)|(apply Zp Za;exact U)|refine Ze U U U Qt ?_|refine Zh U Qt U U ?_|refine Zf U Qt ?_)
        all_goals exact Qe
      ·have hs:=Ho (3,n,o) b p2 hb q2 hn
       rw[q1]at hs
       unfold WI
       rw[if_neg (by simp),if_neg (by simp),if_neg (by simp),if_neg (by simp)]
       generalize TD (3,n,o) r=TE at *
       cases ht:U8 (3,n,o) r with
       | error e=>
        rw[ht]at hs
        replace hs:AP Tryz.prog 177 [byE b,.int .i64 (p2:Int),.agg [.int .i64 3,.int .u64 (n:Int),.bool o]] (.tup [.agg [.int .i64 3,.int .u64 0,.sl .ext (TE.map E.byte),.sl .ext []],.int .i64 0,.int .i64 (e:Int)]) []:=hs
        show AP Tryz.prog _ _ (.tup [.agg [.int .i64 3,.int .u64 0,.sl .ext (TE.map E.byte),.sl .ext []],.int .i64 0,.int .i64 ((m-1:Nat):Int),.int .i64 (e:Int)]) []
        refine AP.ofA (Zl Tryz.func151 U Tryz.ntmps151 U U ?_)
        repeat'(first|rw[dd]|rw[dm]|rw[em]|(apply Zb (hhd);kernel_rfl;(iterate 4 exact U))|(apply Zb (hs);kernel_rfl;(iterate 4 exact U))|(apply Zi Za;exact U)|(apply Zg Za;exact U)|(apply Zp Za;exact U)|refine Ze U U U Qt ?_|refine Zh U Qt U U ?_|refine Zf U Qt ?_)
        all_goals exact Qe
       | ok y=>
        obtain⟨c,r2⟩:=y
        rw[ht]at hs
        replace hs:AP Tryz.prog 177 [byE b,.int .i64 (p2:Int),.agg [.int .i64 3,.int .u64 (n:Int),.bool o]] (.tup [.agg [.int .i64 3,.int .u64 0,.sl .ext (c.map E.byte),.sl .ext []],.int .i64 ((b.length-r2.length:Nat):Int),.int .i64 0]) []:=hs
        show AP Tryz.prog _ _ (.tup [.agg [.int .i64 3,.int .u64 0,.sl .ext (c.map E.byte),.sl .ext []],.int .i64 ((b.length-r2.length:Nat):Int),.int .i64 ((m-1:Nat):Int),.int .i64 0]) []
        refine AP.ofA (Zl Tryz.func151 U Tryz.ntmps151 U U ?_)
        repeat'(first|rw[dd]|rw[dm]|rw[em]|(apply Zb (hhd);kernel_rfl;(iterate 4 exact U))|(apply Zb (hs);kernel_rfl;(iterate 4 exact U))|(apply Zi Za;exact U)|(apply Zg Za;exact U)|(apply Zp Za;exact U)|refine Ze U U U Qt ?_|refine Zh U Qt U U ?_|refine Zf U Qt ?_)
        all_goals exact Qe
      ·have hs:=Rc d deep (by omega) b hb (fun p m hp hm=>Nv b hb d (deep+1) (by omega) p m hp hm) n o p2 (m-1) q2 (by omega) hn
       rw[q1]at hs
       unfold WI
       rw[if_neg (by simp),if_pos rfl,if_neg (by simp),if_pos rfl]
       generalize Mn (ZN d) (4,n,o) (m-1) r=LE at *
       cases ht:JB (ZN d) (4,n,o) (m-1) r with
       | error e=>
        rw[ht]at hs
        replace hs:AP Tryz.prog 176 [byE b,.int .i64 (p2:Int),.agg [.int .i64 4,.int .u64 (n:Int),.bool o],.int .i64 (deep:Int),.int .i64 ((m-1:Nat):Int)] (.tup [.agg [.int .i64 4,.int .u64 0,.sl .ext [],.sl .ext (Zv LE)],.int .i64 0,.int .i64 0,.int .i64 (e:Int)]) []:=hs
        show AP Tryz.prog _ _ (.tup [.agg [.int .i64 4,.int .u64 0,.sl .ext [],.sl .ext (Zv LE)],.int .i64 0,.int .i64 0,.int .i64 (e:Int)]) []
        refine AP.ofA (Zl Tryz.func151 U Tryz.ntmps151 U U ?_)
        repeat'(first|rw[dd]|rw[dm]|rw[em]|(apply Zb (hhd);kernel_rfl;(iterate 4 exact U))|(apply Zb (hs);kernel_rfl;(iterate 4 exact U))|(apply Zi Za;exact U)|(apply Zg Za;exact U)|(apply Zp Za;exact U)|refine Ze U U U Qt ?_|refine Zh U Qt U U ?_|refine Zd U Qt ?_|refine Zf U Qt ?_)
        all_goals exact Qe
       | ok y=>
        obtain⟨l,r2,m2⟩:=y
        rw[ht]at hs
        replace hs:AP Tryz.prog 176 [byE b,.int .i64 (p2:Int),.agg [.int .i64 4,.int .u64 (n:Int),.bool o],.int .i64 (deep:Int),.int .i64 ((m-1:Nat):Int)] (.tup [.agg [.int .i64 4,.int .u64 0,.sl .ext [],.sl .ext (Zv l)],.int .i64 ((b.length-r2.length:Nat):Int),.int .i64 (m2:Int),.int .i64 0]) []:=hs
        show AP Tryz.prog _ _ (.tup [.agg [.int .i64 4,.int .u64 0,.sl .ext [],.sl .ext (Zv l)],.int .i64 ((b.length-r2.length:Nat):Int),.int .i64 (m2:Int),.int .i64 0]) []
        refine AP.ofA (Zl Tryz.func151 U Tryz.ntmps151 U U ?_)
        repeat'(first|rw[dd]|rw[dm]|rw[em]|(apply Zb (hhd);kernel_rfl;(iterate 4 exact U))|(apply Zb (hs);kernel_rfl;(iterate 4 exact U))|(apply Zi Za;exact U)|(apply Zg Za;exact U)|(apply Zp Za;exact U)|refine Ze U U U Qt ?_|refine Zh U Qt U U ?_|refine Zd U Qt ?_|refine Zf U Qt ?_)
        all_goals exact Qe
 termination_by d=>d
theorem Re [Known](b:List UInt8)(p:Int)(hb:b.length<=1099511627776):AP Tryz.prog 116 [byE b,.int .i64 p] (rdI (Z8 b p)) []:=by
 have hlm:(b.map E.byte).length=b.length:=List.length_map ..
 unfold Z8
 by_cases hp:p<0\/(b.length:Int)<p
 ·rw[if_pos hp]
  show AP Tryz.prog _ _ (.tup [.agg [.int .i64 0,.int .u64 0,.sl .ext [],.sl .ext []],.int .i64 0,.int .i64 1]) []
  cases t1:decide (p<0) with
  | true=>
   refine AP.ofA (Zl Tryz.func116 U Tryz.ntmps116 U U ?_)
   repeat'(first|(apply Zi Za;exact U)|(apply Zg Za;exact U)|(apply Zp Za;exact U)|refine Zm U U U Qt ?_|refine Zj U Qt U U ?_|refine Zd U Qt ?_)
   all_goals exact Qe
  | false=>
   have t2:decide (p>((b.map E.byte).length:Int))=true:=decide_eq_true (by have:=of_decide_eq_false t1;omega)
   refine AP.ofA (Zl Tryz.func116 U Tryz.ntmps116 U U ?_)
   repeat'(first|(apply Zi Za;exact U)|(apply Zg Za;exact U)|(apply Zp Za;exact U)|refine Ze U U U Qt ?_|refine Zh U Qt U U ?_|refine Zd U Qt ?_|refine Zn Za U U U U ?_)
   all_goals exact Qe
 ·rw[if_neg hp]
  have t1:decide (p<0)=false:=decide_eq_false (by omega)
  have t2:decide (p>((b.map E.byte).length:Int))=false:=decide_eq_false (by omega)
  obtain⟨q,rfl⟩:∃ q:Nat,p=(q:Int):=⟨p.toNat,by omega⟩
  rw[Int.toNat_natCast]
  have hI:=Nv b hb 6 1 rfl q 256 (by omega) (Nat.le_refl _)
  cases hi:ZN 6 256 (b.drop q) with
  | error e=>
   rw[hi]at hI
   have te:(((e:Nat):Int) != 0)=true:=by have:=Uk _ _ _ _ hi;simpa using this
   generalize QU 6 256 (b.drop q)=R at hI
   obtain⟨⟨k0,n0,b0,l0⟩,r0⟩:=R
   replace hI:AP Tryz.prog 151 [byE b,.int .i64 (q:Int),.int .i64 1,.int .i64 256] (.tup [.agg [.int .i64 k0,.int .u64 (n0:Int),.sl .ext (b0.map E.byte),.sl .ext (Zv l0)],.int .i64 0,.int .i64 (r0:Int),.int .i64 (e:Int)]) []:=hI
   show AP Tryz.prog _ _ (.tup [.agg [.int .i64 0,.int .u64 0,.sl .ext [],.sl .ext []],.int .i64 0,.int .i64 (e:Int)]) []
   refine AP.ofA (Zl Tryz.func116 U Tryz.ntmps116 U U ?_)
   repeat'(first|(apply Zb (hI);kernel_rfl;(iterate 4 exact U))|(apply Zi Za;exact U)|(apply Zg Za;exact U)|(apply Zp Za;exact U)|refine Ze U U U Qt ?_|refine Zh U Qt U U ?_|refine Zd U Qt ?_|refine Zf U Qt ?_|refine Zn Za U U U U ?_)
   all_goals exact Qe
  | ok y=>
   obtain⟨⟨k1,n1,b1,l1⟩,r,m1⟩:=y
   rw[hi]at hI
   replace hI:AP Tryz.prog 151 [byE b,.int .i64 (q:Int),.int .i64 1,.int .i64 256] (.tup [.agg [.int .i64 k1,.int .u64 (n1:Int),.sl .ext (b1.map E.byte),.sl .ext (Zv l1)],.int .i64 ((b.length-r.length:Nat):Int),.int .i64 (m1:Int),.int .i64 0]) []:=hI
   show AP Tryz.prog _ _ (.tup [.agg [.int .i64 k1,.int .u64 (n1:Int),.sl .ext (b1.map E.byte),.sl .ext (Zv l1)],.int .i64 ((b.length-r.length:Nat):Int),.int .i64 0]) []
   refine AP.ofA (Zl Tryz.func116 U Tryz.ntmps116 U U ?_)
   repeat'(first|(apply Zb (hI);kernel_rfl;(iterate 4 exact U))|(apply Zi Za;exact U)|(apply Zg Za;exact U)|(apply Zp Za;exact U)|refine Ze U U U Qt ?_|refine Zh U Qt U U ?_|refine Zf U Qt ?_|refine Zn Za U U U U ?_)
   all_goals exact Qe
theorem Oe (d:List UInt8)(hd:d.length<=100000){y:It}{n:Nat}(h:Z8 d 0=(y,n,0)):Y5 d=(((n:Int)==(d.length:Int))&&(ZI y==d)):=by
 have e:Z8 d 0=match ZN 6 256 d with
   | .error e=>(.mk 0 0 [] [],0,e)
   | .ok (x,r,_)=>(x,d.length-r.length,0):=by rw[Z8,if_neg (by omega)];rfl
 unfold Y5
 rw[e]at h
 cases hx:ZN 6 256 d with
 | error c=>
  rw[hx]at h
  injection h with _ h
  injection h with _ h
  exact absurd h (Uk _ _ _ _ hx)
 | ok z=>
  obtain⟨z,r,m1⟩:=z
  obtain⟨_,_,pre,hpre,hpos,_⟩:=Q7 6 (Nat.le_refl _) _ _ _ _ _ hx (by omega)
  rw[hx]at h
  injection h with h1 h2
  injection h2 with h2 _
  subst h1 h2
  have hpl:=congrArg List.length hpre
  rw[List.length_append]at hpl
  have e1:r.isEmpty=(((d.length-r.length:Nat):Int)==(d.length:Int)):=by
   cases r with
   | nil=>simp
   | cons c r=>
    have:¬ ((d.length-(c::r).length:Nat):Int)=(d.length:Int):=by simp only[List.length_cons]at hpl ⊢;omega
    simpa using this
  dsimp only
  rw[e1]
def Of (d:List UInt8):It:=match Y5 d with
 | true=>(Z8 d 0).1
 | false=>.mk 0 0 [] []
theorem Xe [Known][KnownU8](d:List UInt8)(hd:d.length<=100000):AP Tryz.prog 69 [byE d] (.tup [itD (Of d),.bool (Y5 d)]) []:=by
 have hR:=Re d 0 (by omega)
 unfold Of
 rcases VD d (by omega) with⟨e,he,h,hs⟩ | ⟨y,m,h,hw,hr,hl,hm⟩
 ·rw[h]at hR
  rw[hs]
  replace hR:AP Tryz.prog _ _ (.tup [.agg [.int .i64 0,.int .u64 0,.sl .ext [],.sl .ext []],.int .i64 0,.int .i64 (e:Int)]) []:=hR
  have t1:((e:Int) != 0)=true:=by simpa using he
  refine AP.ofA (Zl Tryz.func69 U Tryz.ntmps69 U U ?_)
  repeat'(first|(apply Zb (hR);kernel_rfl;(iterate 4 exact U))|(apply Zi Za;exact U)|(apply Zg Za;exact U)|(apply Zp Za;exact U)|refine Zm U U U Qt ?_|refine Zj U Qt U U ?_|refine Zd U Qt ?_|(apply Zo 14 ZB;decide +kernel;kernel_rfl;kernel_rfl;kernel_rfl;exact U;exact U)|(apply Zs;(iterate 4 exact U))|exact AE.nil _ _ _ _|(apply Zx;exact U)|(apply Zz;exact U;exact U;decide +kernel;exact U)|(apply ZA;exact U)|exact AO.nil _ _ _|(apply Zr;(decide +kernel))|exact AOs.nil|exact ZF rfl rfl)
  all_goals exact Qe
 ·have hf:Yz y=true:=by
   have:=hr
   rw[YY]at this
   simp only[Bool.and_eq_true]at this
   exact this.2.2
  have hW:=UX y hw hf (by omega)
  have hsh:=Oe d hd h
  have hdl:(d.map E.byte).length=d.length:=List.length_map ..
  rw[h]at hR
  rw[hsh,h]
  dsimp only
  generalize ZI y=P at *
  obtain⟨k,n,b,l⟩:=y
  replace hR:AP Tryz.prog _ _ (.tup [.agg (itC k n b l),.int .i64 (m:Int),.int .i64 0]) []:=hR
  cases t1:((m:Int)==(d.length:Int)) with
  | false=>
   have t1':((m:Int) != ((d.map E.byte).length:Int))=true:=by rw[hdl,bne,t1];rfl
   refine AP.ofA (Zl Tryz.func69 U Tryz.ntmps69 U U ?_)
   repeat'(first|(apply Zb (hR);kernel_rfl;(iterate 4 exact U))|(apply Zi Za;exact U)|(apply Zg Za;exact U)|(apply Zp Za;exact U)|refine Ze U U U Qt ?_|refine Zm U U U Qt ?_|refine Zj U Qt U U ?_|refine Zh U Qt U U ?_|refine Zd U Qt ?_|refine Zn Za U U U U ?_|(apply Zo 14 ZB;decide +kernel;kernel_rfl;kernel_rfl;kernel_rfl;exact U;exact U)|(apply Zs;(iterate 4 exact U))|exact AE.nil _ _ _ _|(apply Zx;exact U)|(apply Zz;exact U;exact U;decide +kernel;exact U)|(apply ZA;exact U)|exact AO.nil _ _ _|(apply Zr;(decide +kernel))|exact AOs.nil|exact ZF rfl rfl)
   all_goals exact Qe
  | true=>
   have t1':((m:Int) != ((d.map E.byte).length:Int))=false:=by rw[hdl,bne,t1];rfl
   cases t2:(P==d) with
   | false=>
    have t2':(P != d)=true:=by rw[bne,t2];rfl
    refine AP.ofA (Zl Tryz.func69 U Tryz.ntmps69 U U ?_)
    repeat'(first|(apply Zb (hR);kernel_rfl;(iterate 4 exact U))|(apply Zb (hW);kernel_rfl;(iterate 4 exact U))|(apply Zi Za;exact U)|(apply Zg Za;exact U)|(apply Zp Za;exact U)|refine Ze U U U Qt ?_|refine Zh U Qt U U ?_|refine Zd U Qt ?_|refine Zn Za U U U U ?_|(apply Zo 14 ZB;decide +kernel;kernel_rfl;kernel_rfl;kernel_rfl;exact U;exact U)|(apply Zs;(iterate 4 exact U))|exact AE.nil _ _ _ _|(apply Zx;exact U)|(apply Zz;exact U;exact U;decide +kernel;exact U)|(apply ZA;exact U)|exact AO.nil _ _ _|(apply Zr;(decide +kernel))|exact AOs.nil|exact ZF rfl rfl|refine Vf Za U U U U U U U U U ?_)
    all_goals exact Qe
   | true=>
    have t2':(P != d)=false:=by rw[bne,t2];rfl
    refine AP.ofA (Zl Tryz.func69 U Tryz.ntmps69 U U ?_)
    repeat'(first|(apply Zb (hR);kernel_rfl;(iterate 4 exact U))|(apply Zb (hW);kernel_rfl;(iterate 4 exact U))|(apply Zi Za;exact U)|(apply Zg Za;exact U)|(apply Zp Za;exact U)|refine Ze U U U Qt ?_|refine Zh U Qt U U ?_|refine Zf U Qt ?_|refine Zn Za U U U U ?_|(apply Zo 14 ZB;decide +kernel;kernel_rfl;kernel_rfl;kernel_rfl;exact U;exact U)|(apply Zs;(iterate 4 exact U))|exact AE.nil _ _ _ _|(apply Zx;exact U)|(apply Zz;exact U;exact U;decide +kernel;exact U)|(apply ZA;exact U)|exact AO.nil _ _ _|(apply Zr;(decide +kernel))|exact AOs.nil|exact ZF rfl rfl|refine Vf Za U U U U U U U U U ?_)
    all_goals exact Qe
theorem Mp {k:Int}{n:Nat}{b:List UInt8}{l:List It}(h:ZC (.mk k n b l)=true):(k==0)=It.beq (.mk k n b l) (.mk 0 n [] []):=by
 unfold ZC at h
 cases hw:Wq (.mk k n b l) 1 256 with
 | none=>rw[hw]at h;cases h
 | some m=>
  obtain⟨h1,h2,h3,h4⟩:=Vc hw
  cases hk:(k==0) with
  | false=>
   cases hb:It.beq (.mk k n b l) (.mk 0 n [] []) with
   | false=>rfl
   | true=>
    have:=It.beq_iff.1 hb
    injection this with e
    subst e
    simp at hk
  | true=>
   have hk:k=0:=by simpa using hk
   subst hk
   have:b=[]/\l=[]:=by simpa[Wp]using h3
   rw[this.1,this.2]
   exact(It.beq_iff.2 rfl).symm
def DU (d:List UInt8):Nat:=match(Ot d).2 with
 | true=>(Ot d).1
 | false=>0
theorem Qo (d:List UInt8)(hd:d.length<=100000):(Y5 d=false/\Of d=.mk 0 0 [] [])\/(Y5 d=true/\Of d=(Z8 d 0).1/\ZC (Z8 d 0).1=true/\wfI (Z8 d 0).1):=by
 unfold Of
 rcases VD d (by omega) with⟨e,he,h,hs⟩ | ⟨y,m,h,hw,hr,_⟩
 ·rw[hs];exact .inl ⟨rfl,rfl⟩
 ·rw[h]
  cases Y5 d with
  | false=>exact .inl ⟨rfl,rfl⟩
  | true=>exact .inr ⟨rfl,rfl,hr,hw⟩
theorem SA [Known][KnownU8](d:List UInt8)(hd:d.length<=100000):AP Tryz.prog 125 [byE d] (.tup [.int .u64 (DU d:Int),.bool (Ot d).2]) []:=by
 have hI:=Xe d hd
 unfold DU Ot
 rcases Qo d hd with⟨hs,hi⟩ | ⟨hs,hi,hr,hw⟩
 ·rw[hs,hi]at hI
  rw[hs]
  replace hI:AP Tryz.prog _ _ (.tup [.agg [.int .i64 0,.int .u64 0,.sl .ext [],.sl .ext []],.bool false]) []:=hI
  refine AP.ofA (Zl Tryz.func125 U Tryz.ntmps125 U U ?_)
  repeat'(first|(apply Zb (hI);kernel_rfl;(iterate 4 exact U))|(apply Zi Za;exact U)|(apply Zg Za;exact U)|(apply Zp Za;exact U)|refine Zm U U U Qt ?_|refine Zj U Qt U U ?_|refine Zd U Qt ?_)
  all_goals exact Qe
 ·rw[hs,hi]at hI
  rw[hs]
  generalize (Z8 d 0).1=y at *
  obtain⟨k,n,b,l⟩:=y
  dsimp only
  rw[show(It.mk k n b l).n=n from rfl,<- Mp hr]
  replace hI:AP Tryz.prog _ _ (.tup [.agg (itC k n b l),.bool true]) []:=hI
  cases t1:(k==0) with
  | false=>
   have t1':(k != 0)=true:=by rw[bne,t1];rfl
   refine AP.ofA (Zl Tryz.func125 U Tryz.ntmps125 U U ?_)
   repeat'(first|(apply Zb (hI);kernel_rfl;(iterate 4 exact U))|(apply Zi Za;exact U)|(apply Zg Za;exact U)|(apply Zp Za;exact U)|refine Ze U U U Qt ?_|refine Zm U U U Qt ?_|refine Zj U Qt U U ?_|refine Zh U Qt U U ?_|refine Zd U Qt ?_)
   all_goals exact Qe
  | true=>
   have t1':(k != 0)=false:=by rw[bne,t1];rfl
   rcases Nat.lt_or_ge 1099511627776 n with h|h
   ·have t2:decide ((n:Int)<=1099511627776)=false:=decide_eq_false (by omega)
    have t3:decide ((n:Int)>1099511627776)=true:=decide_eq_true (by omega)
    rw[t2]
    refine AP.ofA (Zl Tryz.func125 U Tryz.ntmps125 U U ?_)
    repeat'(first|(apply Zb (hI);kernel_rfl;(iterate 4 exact U))|(apply Zi Za;exact U)|(apply Zg Za;exact U)|(apply Zp Za;exact U)|refine Ze U U U Qt ?_|refine Zh U Qt U U ?_|refine Zd U Qt ?_)
    all_goals exact Qe
   ·have t2:decide ((n:Int)<=1099511627776)=true:=decide_eq_true (by omega)
    have t3:decide ((n:Int)>1099511627776)=false:=decide_eq_false (by omega)
    rw[t2]
    refine AP.ofA (Zl Tryz.func125 U Tryz.ntmps125 U U ?_)
    repeat'(first|(apply Zb (hI);kernel_rfl;(iterate 4 exact U))|(apply Zi Za;exact U)|(apply Zg Za;exact U)|(apply Zp Za;exact U)|refine Ze U U U Qt ?_|refine Zh U Qt U U ?_|refine Zf U Qt ?_)
    all_goals exact Qe
theorem Rf [Known](n m:Nat):AP Tryz.prog 128 [.int .u64 (n:Int),.int .u64 (m:Int)] (itD (.mk 4 0 [] [.mk 0 n [] [],.mk 0 m [] []])) []:=by
 refine AP.ofA (Zl Tryz.func128 U Tryz.ntmps128 U U ?_)
 repeat'(first|(apply Zi Za;exact U)|(apply Zg Za;exact U)|refine ZM Za U U U U U U U U U U U U ?_)
 all_goals exact Qe
def Rg (d:List UInt8):EidV:=match(Ju d).2 with
 | true=>(Ju d).1
 | false=>Yi
theorem Rh [Known][KnownU8](d:List UInt8)(hd:d.length<=100000):AP Tryz.prog 124 [byE d] (.tup [.agg (eC (Rg d)),.bool (Ju d).2]) []:=by
 have hI:=Xe d hd
 unfold Rg Ju
 rcases Qo d hd with⟨hs,hi⟩ | ⟨hs,hi,hr,hw⟩
 ·rw[hs,hi]at hI
  rw[hs]
  replace hI:AP Tryz.prog _ _ (.tup [.agg [.int .i64 0,.int .u64 0,.sl .ext [],.sl .ext []],.bool false]) []:=hI
  refine AP.ofA (Zl Tryz.func124 U Tryz.ntmps124 U U ?_)
  repeat'(first|(apply Zb (hI);kernel_rfl;(iterate 4 exact U))|(apply Zi Za;exact U)|(apply Zg Za;exact U)|(apply Zp Za;exact U)|refine Zd U Qt ?_)
  all_goals exact Qe
 ·rw[hs,hi]at hI
  rw[hs]
  have hlen:∀ y ∈ (Z8 d 0).1.l,y.b.length<=1099511627000:=by
   rcases VD d (by omega) with⟨e,he,h,_⟩ | ⟨y,m,h,_,_,h3,h4⟩
   ·rw[h];simp[It.l]
   ·rw[h]
    obtain⟨k,n,b,l⟩:=y
    intro y hy
    have h1:=UQ (l:=l) hy
    have h2:=G1 k n b l
    have h5:=Dw y
    omega
  have hRR:=X7 (Z8 d 0).1 hw hlen
  have hRR':AP Tryz.prog 117 [itD (Z8 d 0).1] (.tup [.agg (eC (match(ZS (Z8 d 0).1).2 with|true=>(ZS (Z8 d 0).1).1|false=>Yi)),.bool (ZS (Z8 d 0).1).2]) []:=by
   unfold KQ at hRR
   cases h:(ZS (Z8 d 0).1).2 with
   | true=>rw[h]at hRR;exact hRR
   | false=>rw[h]at hRR;exact hRR
  clear hRR hlen
  rw[Bool.true_and]
  dsimp only
  generalize ZS (Z8 d 0).1=rv at *
  obtain⟨⟨zi,zn,zs,zh,zd⟩,ok⟩:=rv
  generalize (Z8 d 0).1=y at *
  obtain⟨k,n,b,l⟩:=y
  replace hI:AP Tryz.prog _ _ (.tup [.agg (itC k n b l),.bool true]) []:=hI
  cases ok with
  | false=>
   replace hRR':AP Tryz.prog 117 [.agg (itC k n b l)] (.tup [.agg [.bool false,.int .u64 0,.int .u64 0,.str [],.str []],.bool false]) []:=hRR'
   refine AP.ofA (Zl Tryz.func124 U Tryz.ntmps124 U U ?_)
   repeat'(first|(apply Zb (hI);kernel_rfl;(iterate 4 exact U))|(apply Zb (hRR');kernel_rfl;(iterate 4 exact U))|(apply Zi Za;exact U)|(apply Zg Za;exact U)|refine Zf U Qt ?_)
   all_goals exact Qe
  | true=>
   replace hRR':AP Tryz.prog 117 [.agg (itC k n b l)] (.tup [.agg [.bool zi,.int .u64 (zn:Int),.int .u64 (zs:Int),.str zh,.str zd],.bool true]) []:=hRR'
   refine AP.ofA (Zl Tryz.func124 U Tryz.ntmps124 U U ?_)
   repeat'(first|(apply Zb (hI);kernel_rfl;(iterate 4 exact U))|(apply Zb (hRR');kernel_rfl;(iterate 4 exact U))|(apply Zi Za;exact U)|(apply Zg Za;exact U)|refine Zf U Qt ?_)
   all_goals exact Qe
end Go.Proofs.YtmljabhmajehnaaGreatDoor
end
