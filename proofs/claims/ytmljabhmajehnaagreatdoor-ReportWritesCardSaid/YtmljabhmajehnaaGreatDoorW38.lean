/- The document's reading of items: an item, at a place. -/
import Derived.Test.YtmljabhmajehnaaGreatDoorW37
import Derived.Test.YtmljabhmajehnaaGreatDoorW32
import Derived.Test.YtmljabhmajehnaaGreatDoorW28
import Derived.Test.YtmljabhmajehnaaGreatDoorW24
import Derived.Test.YtmljabhmajehnaaGreatDoorW33
import Derived.Test.YtmljabhmajehnaaGreatDoorW35
set_option linter.unusedVariables false
set_option linter.unusedSimpArgs false
section
open Go.RowKit Go.Pl Go.Av
namespace Go.Proofs.YtmljabhmajehnaaGreatDoor
set_option maxHeartbeats 4000000
theorem Md {s r:List UInt8}{k:Int}{n:Nat}{o:Bool}(h:rdS s=.ok ((k,n,o),r)):∃ kn:Nat,k=(kn:Int):=by
 cases s with
 | nil=>cases h
 | cons c t=>
  rw[rdS]at h
  repeat' split at h
  all_goals first|(injection h with h;injection h with h _;injection h with h _;exact⟨_,h.symm⟩)|cases h
theorem TB {k:Int}{n:Nat}(hk:k=(n:Int))(h:okK k=false):(k==1)=true\/((k==1)=false/\decide (k>4)=true):=by
 obtain⟨k0,k2,k3,k4⟩:=HC h
 have h0:k ≠ 0:=by simpa using k0
 have h2:k ≠ 2:=by simpa using k2
 have h3:k ≠ 3:=by simpa using k3
 have h4:k ≠ 4:=by simpa using k4
 by_cases h1:k=1
 ·exact .inl (by simp[h1])
 ·exact .inr ⟨by simp[h1],decide_eq_true (by omega)⟩
theorem HJ [Known](b:List UInt8)(hb:b.length<=1099511627776):∀(d deep:Nat),deep+d=7->∀ p m:Nat,p<=b.length->m<=256->AP Tryz.prog 151 [byE b,.int .i64 (p:Int),.int .i64 (deep:Int),.int .i64 (m:Int)] (Sk b (ZI d m (b.drop p)) (U5 d m (b.drop p))) []
 | d,deep=>fun hdd p m hp hm=>by
  have hhd:=Ka b (p:Int) (by omega)
  rw[JQ b p hp]at hhd
  cases hr:rdS (b.drop p) with
  | error e=>
   rw[hr]at hhd
   have hi:ZI d m (b.drop p)=.error e:=by cases d<;>rw[ZI,hr]
   have hj:U5 d m (b.drop p)=(itZ,0):=by
    cases d with
    | zero=>rw[U5]
    | succ d=>rw[U5,hr]
   rw[hi,hj]
   have te:(((e:Nat):Int) != 0)=true:=by rcases OA hr with rfl|rfl<;>rfl
   replace hhd:AP Tryz.prog _ [byE b,.int .i64 (p:Int)] (.tup [.agg [.int .i64 0,.int .u64 0,.bool false],.int .i64 0,.int .i64 (e:Int)]) []:=hhd
   show AP Tryz.prog _ _ (.tup [.agg [.int .i64 0,.int .u64 0,.sl .ext [],.sl .ext []],.int .i64 0,.int .i64 0,.int .i64 (e:Int)]) []
   refine AP.ofA (Zl Tryz.func151 Z Tryz.ntmps151 Z Z ?_)
   repeat'(first|(apply Zb (hhd);kernel_rfl;(iterate 4 exact Z))|(apply Zi Za;exact Z)|(apply Zf Za;exact Z)|(apply Zp Za;exact Z)|refine Zd Z Qt ?_)
   all_goals exact Qe
  | ok y=>
   obtain⟨⟨k,n,o⟩,r⟩:=y
   rw[hr]at hhd
   dsimp only at hhd
   obtain⟨hkn,hn,pre,hpre,_,hpos⟩:=JF hr
   dsimp only at hn
   obtain⟨q1,q2,q3⟩:=Y1 hp hpre
   have hkN:∃ kn:Nat,k=(kn:Int):=by
    have:=Md hr
    exact this
   obtain⟨kn,hkn⟩:=hkN
   generalize hp2:b.length-r.length=p2 at q1 q2 q3 hhd
   replace hhd:AP Tryz.prog _ [byE b,.int .i64 (p:Int)] (.tup [.agg [.int .i64 k,.int .u64 (n:Int),.bool o],.int .i64 (p2:Int),.int .i64 0]) []:=hhd
   cases hk:okK k with
   | false=>
    have hi:ZI d m (b.drop p)=.error 3:=by cases d<;>rw[ZI,hr]<;>dsimp only<;>rw[hk]<;>rfl
    have hj:U5 d m (b.drop p)=(itZ,0):=by
     cases d with
     | zero=>rw[U5]
     | succ d=>rw[U5,hr];dsimp only;rw[hk];rfl
    rw[hi,hj]
    show AP Tryz.prog _ _ (.tup [.agg [.int .i64 0,.int .u64 0,.sl .ext [],.sl .ext []],.int .i64 0,.int .i64 0,.int .i64 3]) []
    rcases TB hkn hk with h1|⟨h1,h2⟩
    ·refine AP.ofA ?_
     refine Zl Tryz.func151 rfl Tryz.ntmps151 rfl rfl ?_
     repeat'(first|(apply Zb (hhd);kernel_rfl;(iterate 4 exact Z))|(apply Zi Za;exact Z)|(apply Zf Za;exact Z)|(apply Zp Za;exact Z)|refine Zn Z Z Z Qt ?_|refine Zj Z Qt Z Z ?_|refine Zd Z Qt ?_|refine Zg Z Qt ?_)
     all_goals exact Qe
    ·refine AP.ofA ?_
     refine Zl Tryz.func151 rfl Tryz.ntmps151 rfl rfl ?_
     repeat'(first|(apply Zb (hhd);kernel_rfl;(iterate 4 exact Z))|(apply Zi Za;exact Z)|(apply Zf Za;exact Z)|(apply Zp Za;exact Z)|refine Ze Z Z Z Qt ?_|refine Zh Z Qt Z Z ?_|refine Zd Z Qt ?_|refine Zg Z Qt ?_)
     all_goals exact Qe
   | true=>
    have hk':=JH hk
    cases d with
    | zero=>
     have hi:ZI 0 m (b.drop p)=.error 9:=by rw[ZI,hr];dsimp only;rw[hk];rfl
     have hj:U5 0 m (b.drop p)=(itZ,0):=by rw[U5]
     rw[hi,hj]
     show AP Tryz.prog _ _ (.tup [.agg [.int .i64 0,.int .u64 0,.sl .ext [],.sl .ext []],.int .i64 0,.int .i64 0,.int .i64 9]) []
     obtain rfl:deep=7:=by omega
     rcases hk' with rfl|rfl|rfl|rfl
     all_goals
      refine AP.ofA (Zl Tryz.func151 Z Tryz.ntmps151 Z Z ?_)
      repeat'(first|(apply Zb (hhd);kernel_rfl;(iterate 4 exact Z))|(apply Zi Za;exact Z)|(apply Zf Za;exact Z)|(apply Zp Za;exact Z)|refine Ze Z Z Z Qt ?_|refine Zh Z Qt Z Z ?_|refine Zd Z Qt ?_|refine Zg Z Qt ?_)
      all_goals exact Qe
    | succ d=>
     have dd:decide ((deep:Int)>6)=false:=decide_eq_false (by omega)
     by_cases hm0:m=0
     ·have hi:ZI (d+1) m (b.drop p)=.error 2:=by rw[ZI,hr];dsimp only;rw[hk,if_neg (by simp),if_pos hm0]
      have hj:U5 (d+1) m (b.drop p)=(itZ,0):=by rw[U5,hr];dsimp only;rw[hk,if_neg (by simp),if_pos hm0]
      rw[hi,hj]
      show AP Tryz.prog _ _ (.tup [.agg [.int .i64 0,.int .u64 0,.sl .ext [],.sl .ext []],.int .i64 0,.int .i64 0,.int .i64 2]) []
      subst hm0
      rcases hk' with rfl|rfl|rfl|rfl
      all_goals
       refine AP.ofA (Zl Tryz.func151 Z Tryz.ntmps151 Z Z ?_)
       repeat'(first|rw[dd]|(apply Zb (hhd);kernel_rfl;(iterate 4 exact Z))|(apply Zi Za;exact Z)|(apply Zf Za;exact Z)|(apply Zp Za;exact Z)|refine Ze Z Z Z Qt ?_|refine Zh Z Qt Z Z ?_|refine Zd Z Qt ?_|refine Zg Z Qt ?_)
       all_goals exact Qe
     ·have hi:ZI (d+1) m (b.drop p)=Wh (ZI d) (k,n,o) (m-1) r:=by rw[ZI,hr];dsimp only;rw[hk,if_neg (by simp),if_neg hm0]
      have hj:U5 (d+1) m (b.drop p)=if k=0 then(itZ,0) else if k=4 then(.mk 4 0 [] (TA (ZI d) (k,n,o) (m-1) r),0) else(.mk k 0 (GT (k,n,o) r) [],m-1):=by rw[U5,hr];dsimp only;rw[hk,if_neg (by simp),if_neg hm0]
      rw[hi,hj]
      have dm:((m:Int)==0)=false:=by simpa using hm0
      have em:IntKind.i64.wrap ((m:Int)-1)=((m-1:Nat):Int):=by rw[IntWalk.i64_in _ (by omega)];omega
      rcases hk' with rfl|rfl|rfl|rfl
      ·unfold Wh
       rw[if_pos rfl]
       show AP Tryz.prog _ _ (.tup [.agg [.int .i64 0,.int .u64 (n:Int),.sl .ext [],.sl .ext []],.int .i64 ((b.length-r.length:Nat):Int),.int .i64 ((m-1:Nat):Int),.int .i64 0]) []
       rw[hp2]
       refine AP.ofA (Zl Tryz.func151 Z Tryz.ntmps151 Z Z ?_)
       repeat'(first|rw[dd]|rw[dm]|rw[em]|(apply Zb (hhd);kernel_rfl;(iterate 4 exact Z))|(apply Zi Za;exact Z)|(apply Zf Za;exact Z)|(apply Zp Za;exact Z)|refine Ze Z Z Z Qt ?_|refine Zh Z Qt Z Z ?_|refine Zd Z Qt ?_|refine Zg Z Qt ?_)
       all_goals exact Qe
      ·have hs:=I4 (2,n,o) b p2 hb q2 hn
       rw[q1]at hs
       unfold Wh
       rw[if_neg (by simp),if_neg (by simp),if_neg (by simp),if_neg (by simp)]
       generalize GT (2,n,o) r=TE at *
       cases ht:Uq (2,n,o) r with
       | error e=>
        rw[ht]at hs
        replace hs:AP Tryz.prog 177 [byE b,.int .i64 (p2:Int),.agg [.int .i64 2,.int .u64 (n:Int),.bool o]] (.tup [.agg [.int .i64 2,.int .u64 0,.sl .ext (TE.map E.byte),.sl .ext []],.int .i64 0,.int .i64 (e:Int)]) []:=hs
        show AP Tryz.prog _ _ (.tup [.agg [.int .i64 2,.int .u64 0,.sl .ext (TE.map E.byte),.sl .ext []],.int .i64 0,.int .i64 ((m-1:Nat):Int),.int .i64 (e:Int)]) []
        refine AP.ofA (Zl Tryz.func151 Z Tryz.ntmps151 Z Z ?_)
        repeat'(first|rw[dd]|rw[dm]|rw[em]|(apply Zb (hhd);kernel_rfl;(iterate 4 exact Z))|(apply Zb (hs);kernel_rfl;(iterate 4 exact Z))|(apply Zi Za;exact Z)|(apply Zf Za;exact Z)|(apply Zp Za;exact Z)|refine Ze Z Z Z Qt ?_|refine Zh Z Qt Z Z ?_|refine Zg Z Qt ?_)
        all_goals exact Qe
       | ok y=>
        obtain⟨c,r2⟩:=y
        rw[ht]at hs
        replace hs:AP Tryz.prog 177 [byE b,.int .i64 (p2:Int),.agg [.int .i64 2,.int .u64 (n:Int),.bool o]] (.tup [.agg [.int .i64 2,.int .u64 0,.sl .ext (c.map E.byte),.sl .ext []],.int .i64 ((b.length-r2.length:Nat):Int),.int .i64 0]) []:=hs
        show AP Tryz.prog _ _ (.tup [.agg [.int .i64 2,.int .u64 0,.sl .ext (c.map E.byte),.sl .ext []],.int .i64 ((b.length-r2.length:Nat):Int),.int .i64 ((m-1:Nat):Int),.int .i64 0]) []
        refine AP.ofA (Zl Tryz.func151 Z Tryz.ntmps151 Z Z ?_)
        repeat'(first|rw[dd]|rw[dm]|rw[em]|(apply Zb (hhd);kernel_rfl;(iterate 4 exact Z))|(apply Zb (hs);kernel_rfl;(iterate 4 exact Z))|(apply Zi Za;exact Z)|(apply Zf Za;exact Z)|(apply Zp Za;exact Z)|refine Ze Z Z Z Qt ?_|refine Zh Z Qt Z Z ?_|refine Zg Z Qt ?_)
        all_goals exact Qe
      ·have hs:=I4 (3,n,o) b p2 hb q2 hn
       rw[q1]at hs
       unfold Wh
       rw[if_neg (by simp),if_neg (by simp),if_neg (by simp),if_neg (by simp)]
       generalize GT (3,n,o) r=TE at *
       cases ht:Uq (3,n,o) r with
       | error e=>
        rw[ht]at hs
        replace hs:AP Tryz.prog 177 [byE b,.int .i64 (p2:Int),.agg [.int .i64 3,.int .u64 (n:Int),.bool o]] (.tup [.agg [.int .i64 3,.int .u64 0,.sl .ext (TE.map E.byte),.sl .ext []],.int .i64 0,.int .i64 (e:Int)]) []:=hs
        show AP Tryz.prog _ _ (.tup [.agg [.int .i64 3,.int .u64 0,.sl .ext (TE.map E.byte),.sl .ext []],.int .i64 0,.int .i64 ((m-1:Nat):Int),.int .i64 (e:Int)]) []
        refine AP.ofA (Zl Tryz.func151 Z Tryz.ntmps151 Z Z ?_)
        repeat'(first|rw[dd]|rw[dm]|rw[em]|(apply Zb (hhd);kernel_rfl;(iterate 4 exact Z))|(apply Zb (hs);kernel_rfl;(iterate 4 exact Z))|(apply Zi Za;exact Z)|(apply Zf Za;exact Z)|(apply Zp Za;exact Z)|refine Ze Z Z Z Qt ?_|refine Zh Z Qt Z Z ?_|refine Zg Z Qt ?_)
        all_goals exact Qe
       | ok y=>
        obtain⟨c,r2⟩:=y
        rw[ht]at hs
        replace hs:AP Tryz.prog 177 [byE b,.int .i64 (p2:Int),.agg [.int .i64 3,.int .u64 (n:Int),.bool o]] (.tup [.agg [.int .i64 3,.int .u64 0,.sl .ext (c.map E.byte),.sl .ext []],.int .i64 ((b.length-r2.length:Nat):Int),.int .i64 0]) []:=hs
        show AP Tryz.prog _ _ (.tup [.agg [.int .i64 3,.int .u64 0,.sl .ext (c.map E.byte),.sl .ext []],.int .i64 ((b.length-r2.length:Nat):Int),.int .i64 ((m-1:Nat):Int),.int .i64 0]) []
        refine AP.ofA (Zl Tryz.func151 Z Tryz.ntmps151 Z Z ?_)
        repeat'(first|rw[dd]|rw[dm]|rw[em]|(apply Zb (hhd);kernel_rfl;(iterate 4 exact Z))|(apply Zb (hs);kernel_rfl;(iterate 4 exact Z))|(apply Zi Za;exact Z)|(apply Zf Za;exact Z)|(apply Zp Za;exact Z)|refine Ze Z Z Z Qt ?_|refine Zh Z Qt Z Z ?_|refine Zg Z Qt ?_)
        all_goals exact Qe
      ·have hs:=Mc d deep (by omega) b hb (fun p m hp hm=>HJ b hb d (deep+1) (by omega) p m hp hm) n o p2 (m-1) q2 (by omega) hn
       rw[q1]at hs
       unfold Wh
       rw[if_neg (by simp),if_pos rfl,if_neg (by simp),if_pos rfl]
       generalize TA (ZI d) (4,n,o) (m-1) r=LE at *
       cases ht:QJ (ZI d) (4,n,o) (m-1) r with
       | error e=>
        rw[ht]at hs
        replace hs:AP Tryz.prog 176 [byE b,.int .i64 (p2:Int),.agg [.int .i64 4,.int .u64 (n:Int),.bool o],.int .i64 (deep:Int),.int .i64 ((m-1:Nat):Int)] (.tup [.agg [.int .i64 4,.int .u64 0,.sl .ext [],.sl .ext (Zu LE)],.int .i64 0,.int .i64 0,.int .i64 (e:Int)]) []:=hs
        show AP Tryz.prog _ _ (.tup [.agg [.int .i64 4,.int .u64 0,.sl .ext [],.sl .ext (Zu LE)],.int .i64 0,.int .i64 0,.int .i64 (e:Int)]) []
        refine AP.ofA (Zl Tryz.func151 Z Tryz.ntmps151 Z Z ?_)
        repeat'(first|rw[dd]|rw[dm]|rw[em]|(apply Zb (hhd);kernel_rfl;(iterate 4 exact Z))|(apply Zb (hs);kernel_rfl;(iterate 4 exact Z))|(apply Zi Za;exact Z)|(apply Zf Za;exact Z)|(apply Zp Za;exact Z)|refine Ze Z Z Z Qt ?_|refine Zh Z Qt Z Z ?_|refine Zd Z Qt ?_|refine Zg Z Qt ?_)
        all_goals exact Qe
       | ok y=>
        obtain⟨l,r2,m2⟩:=y
        rw[ht]at hs
        replace hs:AP Tryz.prog 176 [byE b,.int .i64 (p2:Int),.agg [.int .i64 4,.int .u64 (n:Int),.bool o],.int .i64 (deep:Int),.int .i64 ((m-1:Nat):Int)] (.tup [.agg [.int .i64 4,.int .u64 0,.sl .ext [],.sl .ext (Zu l)],.int .i64 ((b.length-r2.length:Nat):Int),.int .i64 (m2:Int),.int .i64 0]) []:=hs
        show AP Tryz.prog _ _ (.tup [.agg [.int .i64 4,.int .u64 0,.sl .ext [],.sl .ext (Zu l)],.int .i64 ((b.length-r2.length:Nat):Int),.int .i64 (m2:Int),.int .i64 0]) []
        refine AP.ofA (Zl Tryz.func151 Z Tryz.ntmps151 Z Z ?_)
        repeat'(first|rw[dd]|rw[dm]|rw[em]|(apply Zb (hhd);kernel_rfl;(iterate 4 exact Z))|(apply Zb (hs);kernel_rfl;(iterate 4 exact Z))|(apply Zi Za;exact Z)|(apply Zf Za;exact Z)|(apply Zp Za;exact Z)|refine Ze Z Z Z Qt ?_|refine Zh Z Qt Z Z ?_|refine Zd Z Qt ?_|refine Zg Z Qt ?_)
        all_goals exact Qe
 termination_by d=>d
theorem Me [Known](b:List UInt8)(p:Int)(hb:b.length<=1099511627776):AP Tryz.prog 116 [byE b,.int .i64 p] (rdI (Yg b p)) []:=by
 have hlm:(b.map E.byte).length=b.length:=List.length_map ..
 unfold Yg
 by_cases hp:p<0\/(b.length:Int)<p
 ·rw[if_pos hp]
  show AP Tryz.prog _ _ (.tup [.agg [.int .i64 0,.int .u64 0,.sl .ext [],.sl .ext []],.int .i64 0,.int .i64 1]) []
  cases t1:decide (p<0) with
  | true=>
   refine AP.ofA (Zl Tryz.func116 Z Tryz.ntmps116 Z Z ?_)
   repeat'(first|(apply Zi Za;exact Z)|(apply Zf Za;exact Z)|(apply Zp Za;exact Z)|refine Zn Z Z Z Qt ?_|refine Zj Z Qt Z Z ?_|refine Zd Z Qt ?_)
   all_goals exact Qe
  | false=>
   have t2:decide (p>((b.map E.byte).length:Int))=true:=decide_eq_true (by have:=of_decide_eq_false t1;omega)
   refine AP.ofA (Zl Tryz.func116 Z Tryz.ntmps116 Z Z ?_)
   repeat'(first|(apply Zi Za;exact Z)|(apply Zf Za;exact Z)|(apply Zp Za;exact Z)|refine Ze Z Z Z Qt ?_|refine Zh Z Qt Z Z ?_|refine Zd Z Qt ?_|refine Zm Za Z Z Z Z ?_)
   all_goals exact Qe
 ·rw[if_neg hp]
  have t1:decide (p<0)=false:=decide_eq_false (by omega)
  have t2:decide (p>((b.map E.byte).length:Int))=false:=decide_eq_false (by omega)
  obtain⟨q,rfl⟩:∃ q:Nat,p=(q:Int):=⟨p.toNat,by omega⟩
  rw[Int.toNat_natCast]
  have hI:=HJ b hb 6 1 rfl q 256 (by omega) (Nat.le_refl _)
  cases hi:ZI 6 256 (b.drop q) with
  | error e=>
   rw[hi]at hI
   have te:(((e:Nat):Int) != 0)=true:=by have:=VP _ _ _ _ hi;simpa using this
   generalize U5 6 256 (b.drop q)=R at hI
   obtain⟨⟨k0,n0,b0,l0⟩,r0⟩:=R
   replace hI:AP Tryz.prog 151 [byE b,.int .i64 (q:Int),.int .i64 1,.int .i64 256] (.tup [.agg [.int .i64 k0,.int .u64 (n0:Int),.sl .ext (b0.map E.byte),.sl .ext (Zu l0)],.int .i64 0,.int .i64 (r0:Int),.int .i64 (e:Int)]) []:=hI
   show AP Tryz.prog _ _ (.tup [.agg [.int .i64 0,.int .u64 0,.sl .ext [],.sl .ext []],.int .i64 0,.int .i64 (e:Int)]) []
   refine AP.ofA (Zl Tryz.func116 Z Tryz.ntmps116 Z Z ?_)
   repeat'(first|(apply Zb (hI);kernel_rfl;(iterate 4 exact Z))|(apply Zi Za;exact Z)|(apply Zf Za;exact Z)|(apply Zp Za;exact Z)|refine Ze Z Z Z Qt ?_|refine Zh Z Qt Z Z ?_|refine Zd Z Qt ?_|refine Zg Z Qt ?_|refine Zm Za Z Z Z Z ?_)
   all_goals exact Qe
  | ok y=>
   obtain⟨⟨k1,n1,b1,l1⟩,r,m1⟩:=y
   rw[hi]at hI
   replace hI:AP Tryz.prog 151 [byE b,.int .i64 (q:Int),.int .i64 1,.int .i64 256] (.tup [.agg [.int .i64 k1,.int .u64 (n1:Int),.sl .ext (b1.map E.byte),.sl .ext (Zu l1)],.int .i64 ((b.length-r.length:Nat):Int),.int .i64 (m1:Int),.int .i64 0]) []:=hI
   show AP Tryz.prog _ _ (.tup [.agg [.int .i64 k1,.int .u64 (n1:Int),.sl .ext (b1.map E.byte),.sl .ext (Zu l1)],.int .i64 ((b.length-r.length:Nat):Int),.int .i64 0]) []
   refine AP.ofA (Zl Tryz.func116 Z Tryz.ntmps116 Z Z ?_)
   repeat'(first|(apply Zb (hI);kernel_rfl;(iterate 4 exact Z))|(apply Zi Za;exact Z)|(apply Zf Za;exact Z)|(apply Zp Za;exact Z)|refine Ze Z Z Z Qt ?_|refine Zh Z Qt Z Z ?_|refine Zg Z Qt ?_|refine Zm Za Z Z Z Z ?_)
   all_goals exact Qe
theorem Kb (d:List UInt8)(hd:d.length<=100000){y:It}{n:Nat}(h:Yg d 0=(y,n,0)):YL d=(((n:Int)==(d.length:Int))&&(ZH y==d)):=by
 have e:Yg d 0=match ZI 6 256 d with
   | .error e=>(.mk 0 0 [] [],0,e)
   | .ok (x,r,_)=>(x,d.length-r.length,0):=by rw[Yg,if_neg (by omega)];rfl
 unfold YL
 rw[e]at h
 cases hx:ZI 6 256 d with
 | error c=>
  rw[hx]at h
  injection h with _ h
  injection h with _ h
  exact absurd h (VP _ _ _ _ hx)
 | ok z=>
  obtain⟨z,r,m1⟩:=z
  obtain⟨_,_,pre,hpre,hpos,_⟩:=Qh 6 (Nat.le_refl _) _ _ _ _ _ hx (by omega)
  rw[hx]at h
  injection h with h1 h2
  injection h2 with h2 _
  subst h1 h2
  have hpl:=congrArg List.length hpre
  rw[List.length_append]at hpl
  have e1:r.isEmpty=(((d.length-r.length:Nat):Int)==(d.length:Int)):=by
   cases r with
   | nil=>simp
   | cons c r=>
    have:¬ ((d.length-(c::r).length:Nat):Int)=(d.length:Int):=by simp only[List.length_cons]at hpl ⊢;omega
    simpa using this
  dsimp only
  rw[e1]
def Kc (d:List UInt8):It:=match YL d with
 | true=>(Yg d 0).1
 | false=>.mk 0 0 [] []
theorem Mf [Known][KnownU8](d:List UInt8)(hd:d.length<=100000):AP Tryz.prog 69 [byE d] (.tup [itD (Kc d),.bool (YL d)]) []:=by
 have hR:=Me d 0 (by omega)
 unfold Kc
 rcases VC d (by omega) with⟨e,he,h,hs⟩ | ⟨y,m,h,hw,hr,hl,hm⟩
 ·rw[h]at hR
  rw[hs]
  replace hR:AP Tryz.prog _ _ (.tup [.agg [.int .i64 0,.int .u64 0,.sl .ext [],.sl .ext []],.int .i64 0,.int .i64 (e:Int)]) []:=hR
  have t1:((e:Int) != 0)=true:=by simpa using he
  refine AP.ofA (Zl Tryz.func69 Z Tryz.ntmps69 Z Z ?_)
  repeat'(first|(apply Zb (hR);kernel_rfl;(iterate 4 exact Z))|(apply Zi Za;exact Z)|(apply Zf Za;exact Z)|(apply Zp Za;exact Z)|refine Zn Z Z Z Qt ?_|refine Zj Z Qt Z Z ?_|refine Zd Z Qt ?_|(apply Zo 14 ZD;decide +kernel;kernel_rfl;kernel_rfl;kernel_rfl;exact Z;exact Z)|(apply Zs;(iterate 4 exact Z))|exact AE.nil _ _ _ _|(apply Zw;exact Z)|(apply Zz;exact Z;exact Z;decide +kernel;exact Z)|(apply ZA;exact Z)|exact AO.nil _ _ _|(apply Zr;(decide +kernel))|exact AOs.nil|exact ZF rfl rfl)
  all_goals exact Qe
 ·have hf:VW y=true:=by
   have:=hr
   rw[Qq]at this
   simp only[Bool.and_eq_true]at this
   exact this.2.2
  have hW:=Oa y hw hf (by omega)
  have hsh:=Kb d hd h
  have hdl:(d.map E.byte).length=d.length:=List.length_map ..
  rw[h]at hR
  rw[hsh,h]
  dsimp only
  generalize ZH y=P at *
  obtain⟨k,n,b,l⟩:=y
  replace hR:AP Tryz.prog _ _ (.tup [.agg (itC k n b l),.int .i64 (m:Int),.int .i64 0]) []:=hR
  cases t1:((m:Int)==(d.length:Int)) with
  | false=>
   have t1':((m:Int) != ((d.map E.byte).length:Int))=true:=by rw[hdl,bne,t1];rfl
   refine AP.ofA (Zl Tryz.func69 Z Tryz.ntmps69 Z Z ?_)
   repeat'(first|(apply Zb (hR);kernel_rfl;(iterate 4 exact Z))|(apply Zi Za;exact Z)|(apply Zf Za;exact Z)|(apply Zp Za;exact Z)|refine Ze Z Z Z Qt ?_|refine Zn Z Z Z Qt ?_|refine Zj Z Qt Z Z ?_|refine Zh Z Qt Z Z ?_|refine Zd Z Qt ?_|refine Zm Za Z Z Z Z ?_|(apply Zo 14 ZD;decide +kernel;kernel_rfl;kernel_rfl;kernel_rfl;exact Z;exact Z)|(apply Zs;(iterate 4 exact Z))|exact AE.nil _ _ _ _|(apply Zw;exact Z)|(apply Zz;exact Z;exact Z;decide +kernel;exact Z)|(apply ZA;exact Z)|exact AO.nil _ _ _|(apply Zr;(decide +kernel))|exact AOs.nil|exact ZF rfl rfl)
   all_goals exact Qe
  | true=>
   have t1':((m:Int) != ((d.map E.byte).length:Int))=false:=by rw[hdl,bne,t1];rfl
   cases t2:(P==d) with
   | false=>
    have t2':(P != d)=true:=by rw[bne,t2];rfl
    refine AP.ofA (Zl Tryz.func69 Z Tryz.ntmps69 Z Z ?_)
    repeat'(first|(apply Zb (hR);kernel_rfl;(iterate 4 exact Z))|(apply Zb (hW);kernel_rfl;(iterate 4 exact Z))|(apply Zi Za;exact Z)|(apply Zf Za;exact Z)|(apply Zp Za;exact Z)|refine Ze Z Z Z Qt ?_|refine Zh Z Qt Z Z ?_|refine Zd Z Qt ?_|refine Zm Za Z Z Z Z ?_|(apply Zo 14 ZD;decide +kernel;kernel_rfl;kernel_rfl;kernel_rfl;exact Z;exact Z)|(apply Zs;(iterate 4 exact Z))|exact AE.nil _ _ _ _|(apply Zw;exact Z)|(apply Zz;exact Z;exact Z;decide +kernel;exact Z)|(apply ZA;exact Z)|exact AO.nil _ _ _|(apply Zr;(decide +kernel))|exact AOs.nil|exact ZF rfl rfl|refine WC Za Z Z Z Z Z Z Z Z Z ?_)
    all_goals exact Qe
   | true=>
    have t2':(P != d)=false:=by rw[bne,t2];rfl
    refine AP.ofA (Zl Tryz.func69 Z Tryz.ntmps69 Z Z ?_)
    repeat'(first|(apply Zb (hR);kernel_rfl;(iterate 4 exact Z))|(apply Zb (hW);kernel_rfl;(iterate 4 exact Z))|(apply Zi Za;exact Z)|(apply Zf Za;exact Z)|(apply Zp Za;exact Z)|refine Ze Z Z Z Qt ?_|refine Zh Z Qt Z Z ?_|refine Zg Z Qt ?_|refine Zm Za Z Z Z Z ?_|(apply Zo 14 ZD;decide +kernel;kernel_rfl;kernel_rfl;kernel_rfl;exact Z;exact Z)|(apply Zs;(iterate 4 exact Z))|exact AE.nil _ _ _ _|(apply Zw;exact Z)|(apply Zz;exact Z;exact Z;decide +kernel;exact Z)|(apply ZA;exact Z)|exact AO.nil _ _ _|(apply Zr;(decide +kernel))|exact AOs.nil|exact ZF rfl rfl|refine WC Za Z Z Z Z Z Z Z Z Z ?_)
    all_goals exact Qe
theorem GU (d:List UInt8)(hd:d.length<=100000):(YL d=false/\Kc d=.mk 0 0 [] [])\/(YL d=true/\Kc d=(Yg d 0).1/\ZN (Yg d 0).1=true/\wfI (Yg d 0).1):=by
 unfold Kc
 rcases VC d (by omega) with⟨e,he,h,hs⟩ | ⟨y,m,h,hw,hr,_⟩
 ·rw[hs];exact .inl ⟨rfl,rfl⟩
 ·rw[h]
  cases YL d with
  | false=>exact .inl ⟨rfl,rfl⟩
  | true=>exact .inr ⟨rfl,rfl,hr,hw⟩
theorem Ke (b:List UInt8)(hb:b.length<=100000)(h:YL b=true):ZH (Yg b 0).1=b:=by
 rcases VC b (by omega) with⟨e,he,h2,hs⟩ | ⟨y,m,h2,_⟩
 ·rw[hs]at h;cases h
 ·rw[Kb b hb h2,Bool.and_eq_true]at h
  rw[h2]
  exact by simpa using h.2
theorem TC {x:It}(hw:wfI x)(hr:ZN x=true)(hl:(ZH x).length<=100000):YL (ZH x)=true:=by
 rw[Kb (ZH x) hl (QS hw hr)]
 simp
def Kf (x:It):RepV × Bool:=match x with
 | .mk k n bb [x0,.mk k1 n1 b1 [.mk k2 n2 b2 [m1,m2,m3],y1,y2,y3]]=>(match(Yu y3).2.2.2&&(Yd (Wa m1 m2 m3 y1 y2 y3)&&It.beq (Yh (Wa m1 m2 m3 y1 y2 y3)) (.mk k n bb [x0,.mk k1 n1 b1 [.mk k2 n2 b2 [m1,m2,m3],y1,y2,y3]])) with
  | false=>(rp0,false)
  | true=>(Wa m1 m2 m3 y1 y2 y3,true))
 | _=>(rp0,false)
def Kl (b:List UInt8):RepV × Bool:=match YL b with
 | false=>(rp0,false)
 | true=>Kf (Yg b 0).1
theorem GV (x:It):Kf x=(rp0,false)\/∃ r,Yd r=true/\Yh r=x/\Kf x=(r,true):=by
 unfold Kf
 split
 ·rename_i k n bb x0 k1 n1 b1 k2 n2 b2 m1 m2 m3 y1 y2 y3
  generalize Wa m1 m2 m3 y1 y2 y3=r
  cases hc:(Yu y3).2.2.2&&(Yd r&&It.beq (Yh r) (.mk k n bb [x0,.mk k1 n1 b1 [.mk k2 n2 b2 [m1,m2,m3],y1,y2,y3]])) with
  | false=>exact .inl rfl
  | true=>
   simp only[Bool.and_eq_true]at hc
   exact .inr ⟨_,hc.2.1,It.beq_iff.1 hc.2.2,rfl⟩
 ·exact .inl rfl
theorem TD {r:RepV}(h:Yd r=true):Kf (Yh r)=(r,true):=by
 obtain⟨h1,h2,h3⟩:=VQ h
 have hi:=U3 h3
 have hrep:Wa (.mk 0 (nb r.a) [] []) (.mk 0 (nb r.b) [] []) (.mk 0 (nb r.c) [] []) (.mk 0 r.rs [] []) (.mk 0 r.tm [] []) (Yl r.of r.t r.q)=r:=by
  unfold Wa
  rw[hi]
  dsimp only[It.n]
  rw[JT,JT,JT]
 show(match(Yu (Yl r.of r.t r.q)).2.2.2&&(Yd (Wa (.mk 0 (nb r.a) [] []) (.mk 0 (nb r.b) [] []) (.mk 0 (nb r.c) [] []) (.mk 0 r.rs [] []) (.mk 0 r.tm [] []) (Yl r.of r.t r.q))&&It.beq (Yh (Wa (.mk 0 (nb r.a) [] []) (.mk 0 (nb r.b) [] []) (.mk 0 (nb r.c) [] []) (.mk 0 r.rs [] []) (.mk 0 r.tm [] []) (Yl r.of r.t r.q))) (Yh r)) with
  | false=>(rp0,false)
  | true=>(Wa (.mk 0 (nb r.a) [] []) (.mk 0 (nb r.b) [] []) (.mk 0 (nb r.c) [] []) (.mk 0 r.rs [] []) (.mk 0 r.tm [] []) (Yl r.of r.t r.q),true))=(r,true)
 rw[hrep,hi,h,It.beq_iff.2 rfl]
 rfl
theorem OH (b:List UInt8):WG b=(rp0,3)\/∃ s,WG b=(s,0):=by
 unfold WG
 split
 ·exact .inl rfl
 ·unfold Jo
  repeat' split
  all_goals first|exact .inl rfl|exact .inr ⟨_,rfl⟩
theorem Xh {s:RepV}{b:List UInt8}(h:YX s=(b,0)):Yd s=true/\ZH (Yh s)=b:=by
 cases hr:Yd s with
 | false=>
  rw[JU hr]at h
  cases(Prod.mk.inj h).2
 | true=>
  rw[UB hr]at h
  exact⟨rfl,(Prod.mk.inj h).1⟩
theorem Rn (b:List UInt8)(hb:b.length<=100000):(Kl b=(rp0,false)/\WG b=(rp0,3))\/∃ s,Kl b=(s,true)/\WG b=(s,0):=by
 have hd:Kl b=(rp0,false)\/∃ r,Yd r=true/\ZH (Yh r)=b/\Kl b=(r,true):=by
  unfold Kl
  cases hs:YL b with
  | false=>exact .inl rfl
  | true=>
   dsimp only
   rcases GV (Yg b 0).1 with h|⟨r,hr,hi,h⟩
   ·exact .inl h
   ·exact .inr ⟨r,hr,by rw[hi,Ke b hb hs],h⟩
 rcases hd with hd|⟨r,hr,hp,hd⟩
 ·rcases OH b with h|⟨s,h⟩
  ·exact .inl ⟨hd,h⟩
  ·exfalso
   obtain⟨hr,hp⟩:=Xh (Kk h)
   have hs:YL b=true:=by rw[<- hp];exact TC (Uh hr) (Vg hr) (by rw[hp];exact hb)
   unfold Kl at hd
   rw[hs]at hd
   dsimp only at hd
   have e:(Yg b 0).1=Yh s:=by rw[<- hp,QS (Uh hr) (Vg hr)]
   rw[e,TD hr]at hd
   cases(Prod.mk.inj hd).2
 ·exact .inr ⟨r,hd,by rw[<- hp];exact V2 hr⟩
theorem GW {x:EidV}{t q:Nat}(h:Yo x t q=true):Fit x:=Uc (YT.1 h).1
theorem TF (z:It):Fit (Yu z).1:=by
 rcases Jm z with h|⟨x,t,q,hr,_,h⟩
 ·rw[h];exact(⟨by decide,by decide⟩:Fit Ye)
 ·rw[h];exact GW hr
theorem TG [Known][KnownU8](b:List UInt8)(hb:b.length<=100000):AP Tryz.prog 23 [byE b] (.tup [.agg (Jn (Kl b).1),.bool (Kl b).2]) []:=by
 have hI:=Mf b hb
 unfold Kl
 rcases GU b hb with⟨hs,hi⟩ | ⟨hs,hi,hr,hw⟩
 ·rw[hs,hi]at hI
  rw[hs]
  exact R9 b 0 0 [] [] hI
 rw[hs,hi]at hI
 rw[hs]
 have hput:=Ke b hb hs
 have hSame:=fun(r:RepV) (h:Yd r=true)=>VN (Yh r) (Uh h) _ hw
 generalize (Yg b 0).1=x at *
 dsimp only
 have hx2:∀ y ∈ x.l,(ZH y).length<=b.length:=fun y hy=>by
  obtain⟨k,n,bb,l⟩:=x
  have h1:=U1 hy
  have h2:=Hx k n bb l
  rw[hput]at h2
  dsimp only[It.l]at h1
  omega
 obtain⟨k,n,bb,l⟩:=x
 have hws:=hw.2.2.2
 have hlen:=Zx l
 replace hI:AP Tryz.prog 69 [byE b] (.tup [.agg [.int .i64 k,.int .u64 (n:Int),.sl .ext (bb.map E.byte),.sl .ext (Zu l)],.bool true]) []:=hI
 dsimp only[It.l]at hx2
 by_cases h2:l.length=2
 case neg=>
  have e:Kf (.mk k n bb l)=(rp0,false):=by
   unfold Kf
   split
   ·rename_i heq
    injection heq with _ _ _ e1
    rw[e1]at h2
    exact absurd rfl h2
   ·rfl
  rw[e]
  exact Sa b k n _ _ hI (by rw[hlen];simp;omega)
 case pos=>
 obtain⟨x0,⟨uk,un,ub,ul⟩,rfl⟩:∃ y c,l=[y,c]:=by
  match l,h2 with
  | [y,c],_=>exact⟨y,c,rfl⟩
 have hx3:∀ y ∈ ul,(ZH y).length<=b.length:=fun y hy=>by
  have h1:=U1 hy
  have h2:=Hx uk un ub ul
  have h3:=hx2 (.mk uk un ub ul) (by simp)
  omega
 have hwu:wfs ul:=hws.2.1.2.2.2
 have hU:=Yz [x0,.mk uk un ub ul]
 have t2:(((Zu [x0,.mk uk un ub ul]).length:Int) != 2)=false:=by rw[Zx];rfl
 have hlu:=Zx ul
 have hv1:(Zu [x0,It.mk uk un ub ul])[(1:Int).toNat]?=some (.agg [.int .i64 uk,.int .u64 (un:Int),.sl (ub.map E.byte),.sl (Zu ul)]):=by obtain⟨a0,a1,a2,a3⟩:=x0;rfl
 by_cases h4:ul.length=4
 case neg=>
  have e:Kf (.mk k n bb [x0,.mk uk un ub ul])=(rp0,false):=by
   unfold Kf
   split
   ·rename_i heq
    injection heq with _ _ _ e1
    injection e1 with _ e1
    injection e1 with e1 _
    injection e1 with _ _ _ e1
    rw[e1]at h4
    exact absurd rfl h4
   ·rfl
  rw[e]
  exact Sb b k uk n un _ _ _ _ hI hU t2 hv1 (by rw[hlu];simp;omega)
 case pos=>
 obtain⟨⟨vk,vn,vb,vl⟩,⟨r0,r1,r2,r3⟩,⟨s0,s1,s2,s3⟩,⟨yk,yn,yb,yl⟩,rfl⟩:∃ a c d e,ul=[a,c,d,e]:=by
  match ul,h4 with
  | [a,c,d,e],_=>exact⟨a,c,d,e,rfl⟩
 have hU1:=Yz [.mk vk vn vb vl,.mk r0 r1 r2 r3,.mk s0 s1 s2 s3,.mk yk yn yb yl]
 have t4:(((Zu [.mk vk vn vb vl,.mk r0 r1 r2 r3,.mk s0 s1 s2 s3,.mk yk yn yb yl]).length:Int) != 4)=false:=by rw[Zx];rfl
 have hlv:=Zx vl
 by_cases h3:vl.length=3
 case neg=>
  have e:Kf (.mk k n bb [x0,.mk uk un ub [.mk vk vn vb vl,.mk r0 r1 r2 r3,.mk s0 s1 s2 s3,.mk yk yn yb yl]])=(rp0,false):=by
   unfold Kf
   split
   ·rename_i heq
    injection heq with _ _ _ e1
    injection e1 with _ e1
    injection e1 with e1 _
    injection e1 with _ _ _ e1
    injection e1 with e1 _
    injection e1 with _ _ _ e1
    rw[e1]at h3
    exact absurd rfl h3
   ·rfl
  rw[e]
  exact Sc b k uk vk n un vn _ _ _ _ _ _ hI hU t2 hv1 hU1 t4 rfl (by rw[hlv];simp;omega)
 case pos=>
 obtain⟨⟨a0,a1,a2,a3⟩,⟨c0,c1,c2,c3⟩,⟨d0,d1,d2,d3⟩,rfl⟩:∃ a c d,vl=[a,c,d]:=by
  match vl,h3 with
  | [a,c,d],_=>exact⟨a,c,d,rfl⟩
 have hU2:=Yz [.mk a0 a1 a2 a3,.mk c0 c1 c2 c3,.mk d0 d1 d2 d3]
 have t3:(((Zu [.mk a0 a1 a2 a3,.mk c0 c1 c2 c3,.mk d0 d1 d2 d3]).length:Int) != 3)=false:=by rw[Zx];rfl
 have hyy:=hx3 (.mk yk yn yb yl) (by simp)
 have hwy:wfI (.mk yk yn yb yl):=hwu.2.2.2.1
 have hD:=GK (.mk yk yn yb yl) hwy (fun y hy z hz=>by
  have h1:=U1 hy
  have h2:=Hx yk yn yb yl
  obtain⟨q0,q1,q2,q3⟩:=y
  have h3:=U1 hz
  have h4:=Hx q0 q1 q2 q3
  have h5:=SK z
  dsimp only[It.l]at h1 h3
  omega)
 have hf:=TF (.mk yk yn yb yl)
 show AP Tryz.prog _ _ (.tup [.agg (Jn (match(Yu (.mk yk yn yb yl)).2.2.2&&(Yd (Wa (.mk a0 a1 a2 a3) (.mk c0 c1 c2 c3) (.mk d0 d1 d2 d3) (.mk r0 r1 r2 r3) (.mk s0 s1 s2 s3) (.mk yk yn yb yl))&&It.beq (Yh (Wa (.mk a0 a1 a2 a3) (.mk c0 c1 c2 c3) (.mk d0 d1 d2 d3) (.mk r0 r1 r2 r3) (.mk s0 s1 s2 s3) (.mk yk yn yb yl))) (.mk k n bb [x0,.mk uk un ub [.mk vk vn vb [.mk a0 a1 a2 a3,.mk c0 c1 c2 c3,.mk d0 d1 d2 d3],.mk r0 r1 r2 r3,.mk s0 s1 s2 s3,.mk yk yn yb yl]])) with
  | false=>(rp0,false)
  | true=>(Wa (.mk a0 a1 a2 a3) (.mk c0 c1 c2 c3) (.mk d0 d1 d2 d3) (.mk r0 r1 r2 r3) (.mk s0 s1 s2 s3) (.mk yk yn yb yl),true)).1),.bool (match(Yu (.mk yk yn yb yl)).2.2.2&&(Yd (Wa (.mk a0 a1 a2 a3) (.mk c0 c1 c2 c3) (.mk d0 d1 d2 d3) (.mk r0 r1 r2 r3) (.mk s0 s1 s2 s3) (.mk yk yn yb yl))&&It.beq (Yh (Wa (.mk a0 a1 a2 a3) (.mk c0 c1 c2 c3) (.mk d0 d1 d2 d3) (.mk r0 r1 r2 r3) (.mk s0 s1 s2 s3) (.mk yk yn yb yl))) (.mk k n bb [x0,.mk uk un ub [.mk vk vn vb [.mk a0 a1 a2 a3,.mk c0 c1 c2 c3,.mk d0 d1 d2 d3],.mk r0 r1 r2 r3,.mk s0 s1 s2 s3,.mk yk yn yb yl]])) with
  | false=>(rp0,false)
  | true=>(Wa (.mk a0 a1 a2 a3) (.mk c0 c1 c2 c3) (.mk d0 d1 d2 d3) (.mk r0 r1 r2 r3) (.mk s0 s1 s2 s3) (.mk yk yn yb yl),true)).2]) []
 unfold Wa
 generalize Yu (.mk yk yn yb yl)=j at *
 obtain⟨j,jt,jq,ok⟩:=j
 dsimp only[It.n]at *
 have hR:=X5 ⟨(a1:Int)==1,(c1:Int)==1,(d1:Int)==1,r1,s1,j,jt,jq⟩ hf
 have hT:=fun h=>Ob ⟨(a1:Int)==1,(c1:Int)==1,(d1:Int)==1,r1,s1,j,jt,jq⟩ h
 have hM:=fun h=>hSame ⟨(a1:Int)==1,(c1:Int)==1,(d1:Int)==1,r1,s1,j,jt,jq⟩ h
 clear hSame hx2 hx3 hwu hws hw hput hwy hr hf hyy
 generalize Yh ⟨(a1:Int)==1,(c1:Int)==1,(d1:Int)==1,r1,s1,j,jt,jq⟩=w at *
 generalize Yd ⟨(a1:Int)==1,(c1:Int)==1,(d1:Int)==1,r1,s1,j,jt,jq⟩=ri at *
 obtain⟨wk,wn,wb,wl⟩:=w
 obtain⟨ji,jn,js,jh,jd⟩:=j
 cases ok with
 | false=>exact Sd b k uk vk r0 s0 yk a0 c0 d0 n un vn r1 s1 yn a1 c1 d1 _ _ _ _ _ _ _ _ _ _ _ _ _ _ _ _ _ _ ji jn js jh jd jt jq hI hU t2 hv1 hU1 t4 rfl hU2 t3 rfl rfl rfl rfl rfl rfl hD
 | true=>
 cases ri with
 | false=>exact Se b k uk vk r0 s0 yk a0 c0 d0 n un vn r1 s1 yn a1 c1 d1 _ _ _ _ _ _ _ _ _ _ _ _ _ _ _ _ _ _ ji jn js jh jd jt jq hI hU t2 hv1 hU1 t4 rfl hU2 t3 rfl rfl rfl rfl rfl rfl hD hR
 | true=>
 replace hT:=hT rfl
 replace hM:=hM rfl
 cases hm:It.beq (.mk wk wn wb wl) (.mk k n bb [x0,.mk uk un ub [.mk vk vn vb [.mk a0 a1 a2 a3,.mk c0 c1 c2 c3,.mk d0 d1 d2 d3],.mk r0 r1 r2 r3,.mk s0 s1 s2 s3,.mk yk yn yb yl]]) with
 | false=>
  rw[hm]at hM
  exact Sf b k uk vk r0 s0 yk a0 c0 d0 n un vn r1 s1 yn a1 c1 d1 _ _ _ _ _ _ _ _ _ _ _ _ _ _ _ _ _ _ ji jn js jh jd jt jq wk wn _ _ hI hU t2 hv1 hU1 t4 rfl hU2 t3 rfl rfl rfl rfl rfl rfl hD hR hT hM
 | true=>
  rw[hm]at hM
  exact Sg b k uk vk r0 s0 yk a0 c0 d0 n un vn r1 s1 yn a1 c1 d1 _ _ _ _ _ _ _ _ _ _ _ _ _ _ _ _ _ _ ji jn js jh jd jt jq wk wn _ _ hI hU t2 hv1 hU1 t4 rfl hU2 t3 rfl rfl rfl rfl rfl rfl hD hR hT hM
end Go.Proofs.YtmljabhmajehnaaGreatDoor
end
