/- The document's reading of items: an item, at a place. -/
import Derived.Test.YtakblclkflnnpaaGreatDoorK22
import Derived.Test.YtakblclkflnnpaaGreatDoorK15
import Derived.Test.YtakblclkflnnpaaGreatDoorK20
set_option linter.unusedVariables false
set_option linter.unusedSimpArgs false
section
open Go.RowKit Go.Pl Go.Av
namespace Go.Proofs.YtakblclkflnnpaaGreatDoor
set_option maxHeartbeats 4000000
theorem ZmV {s r:List UInt8}{k:Int}{n:Nat}{o:Bool}(h:rdS s=.ok ((k,n,o),r)):∃ kn:Nat,k=(kn:Int):=by
 cases s with
 | nil=>cases h
 | cons c t=>
  rw[rdS]at h
  repeat' split at h
  all_goals first|(injection h with h;injection h with h _;injection h with h _;exact⟨_,h.symm⟩)|cases h
theorem ZlC {k:Int}{n:Nat}(hk:k=(n:Int))(h:okK k=false):(k==1)=true\/((k==1)=false/\decide (k>4)=true):=by
 obtain⟨k0,k2,k3,k4⟩:=Zlq h
 have h0:k ≠ 0:=by simpa using k0
 have h2:k ≠ 2:=by simpa using k2
 have h3:k ≠ 3:=by simpa using k3
 have h4:k ≠ 4:=by simpa using k4
 by_cases h1:k=1
 ·exact .inl (by simp[h1])
 ·exact .inr ⟨by simp[h1],decide_eq_true (by omega)⟩
theorem ZlD [Known](b:List UInt8)(hb:b.length<=1099511627776):∀(d deep:Nat),deep+d=7->∀ p m:Nat,p<=b.length->m<=256->AP Tryz.prog 181 [byE b,.int .i64 (p:Int),.int .i64 (deep:Int),.int .i64 (m:Int)] (ZqR b (ZaT d m (b.drop p)) (ZhF d m (b.drop p))) []
 | d,deep=>fun hdd p m hp hm=>by
  have hhd:=Zgr b (p:Int) (by omega)
  rw[ZfG b p hp]at hhd
  cases hr:rdS (b.drop p) with
  | error e=>
   rw[hr]at hhd
   have hi:ZaT d m (b.drop p)=.error e:=by cases d<;>rw[ZaT,hr]
   have hj:ZhF d m (b.drop p)=(itZ,0):=by
    cases d with
    | zero=>rw[ZhF]
    | succ d=>rw[ZhF,hr]
   rw[hi,hj]
   have te:(((e:Nat):Int) != 0)=true:=by rcases Zit hr with rfl|rfl<;>rfl
   replace hhd:AP Tryz.prog _ [byE b,.int .i64 (p:Int)] (.tup [.agg [.int .i64 0,.int .u64 0,.bool false],.int .i64 0,.int .i64 (e:Int)]) []:=hhd
   show AP Tryz.prog _ _ (.tup [.agg [.int .i64 0,.int .u64 0,.sl .ext [],.sl .ext []],.int .i64 0,.int .i64 0,.int .i64 (e:Int)]) []
   refine AP.ofA ?_
   refine Zan Tryz.func181 rfl Tryz.ntmps181 rfl rfl ?_
   repeat'(first|(apply Zaa (hhd);kernel_rfl;(iterate 4 exact Z))|(apply Zaj Zab;exact Z)|(apply Zah Zab;exact Z)|(apply Zav Zab;exact Z)|(apply Zac;exact Z;exact Go.ZrJ))
   all_goals(apply Zaw [];(apply Zad Zab;exact Z);(iterate 4 exact Z))
   all_goals rfl
  | ok y=>
   obtain⟨⟨k,n,o⟩,r⟩:=y
   rw[hr]at hhd
   dsimp only at hhd
   obtain⟨hkn,hn,pre,hpre,_,hpos⟩:=Zgm hr
   dsimp only at hn
   obtain⟨q1,q2,q3⟩:=ZbN hp hpre
   have hkN:∃ kn:Nat,k=(kn:Int):=by
    have:=ZmV hr
    exact this
   obtain⟨kn,hkn⟩:=hkN
   generalize hp2:b.length-r.length=p2 at q1 q2 q3 hhd
   replace hhd:AP Tryz.prog _ [byE b,.int .i64 (p:Int)] (.tup [.agg [.int .i64 k,.int .u64 (n:Int),.bool o],.int .i64 (p2:Int),.int .i64 0]) []:=hhd
   cases hk:okK k with
   | false=>
    have hi:ZaT d m (b.drop p)=.error 3:=by cases d<;>rw[ZaT,hr]<;>dsimp only<;>rw[hk]<;>rfl
    have hj:ZhF d m (b.drop p)=(itZ,0):=by
     cases d with
     | zero=>rw[ZhF]
     | succ d=>rw[ZhF,hr];dsimp only;rw[hk];rfl
    rw[hi,hj]
    show AP Tryz.prog _ _ (.tup [.agg [.int .i64 0,.int .u64 0,.sl .ext [],.sl .ext []],.int .i64 0,.int .i64 0,.int .i64 3]) []
    rcases ZlC hkn hk with h1|⟨h1,h2⟩
    ·refine AP.ofA ?_
     refine Zan Tryz.func181 rfl Tryz.ntmps181 rfl rfl ?_
     repeat'(first|(apply Zaa (hhd);kernel_rfl;(iterate 4 exact Z))|(apply Zaj Zab;exact Z)|(apply Zah Zab;exact Z)|(apply Zav Zab;exact Z)|(apply Zal;(iterate 3 exact Z);exact Go.ZrJ)|(apply Zak;exact Z;exact Go.ZrJ;exact Z;exact Z)|(apply Zac;exact Z;exact Go.ZrJ)|(apply Zaf;exact Z;exact Go.ZrJ))
     all_goals(apply Zaw [];(apply Zad Zab;exact Z);(iterate 4 exact Z))
     all_goals rfl
    ·refine AP.ofA ?_
     refine Zan Tryz.func181 rfl Tryz.ntmps181 rfl rfl ?_
     repeat'(first|(apply Zaa (hhd);kernel_rfl;(iterate 4 exact Z))|(apply Zaj Zab;exact Z)|(apply Zah Zab;exact Z)|(apply Zav Zab;exact Z)|(apply Zae;(iterate 3 exact Z);exact Go.ZrJ)|(apply Zag;exact Z;exact Go.ZrJ;exact Z;exact Z)|(apply Zac;exact Z;exact Go.ZrJ)|(apply Zaf;exact Z;exact Go.ZrJ))
     all_goals(apply Zaw [];(apply Zad Zab;exact Z);(iterate 4 exact Z))
     all_goals rfl
   | true=>
    have hk':=ZfD hk
    cases d with
    | zero=>
     have hi:ZaT 0 m (b.drop p)=.error 9:=by rw[ZaT,hr];dsimp only;rw[hk];rfl
     have hj:ZhF 0 m (b.drop p)=(itZ,0):=by rw[ZhF]
     rw[hi,hj]
     show AP Tryz.prog _ _ (.tup [.agg [.int .i64 0,.int .u64 0,.sl .ext [],.sl .ext []],.int .i64 0,.int .i64 0,.int .i64 9]) []
     obtain rfl:deep=7:=by omega
     rcases hk' with rfl|rfl|rfl|rfl
     all_goals
      refine AP.ofA ?_
      refine Zan Tryz.func181 rfl Tryz.ntmps181 rfl rfl ?_
      repeat'(first|(apply Zaa (hhd);kernel_rfl;(iterate 4 exact Z))|(apply Zaj Zab;exact Z)|(apply Zah Zab;exact Z)|(apply Zav Zab;exact Z)|(apply Zae;(iterate 3 exact Z);exact Go.ZrJ)|(apply Zag;exact Z;exact Go.ZrJ;exact Z;exact Z)|(apply Zac;exact Z;exact Go.ZrJ)|(apply Zaf;exact Z;exact Go.ZrJ))
      all_goals(apply Zaw [];(apply Zad Zab;exact Z);(iterate 4 exact Z))
      all_goals rfl
    | succ d=>
     have dd:decide ((deep:Int)>6)=false:=decide_eq_false (by omega)
     by_cases hm0:m=0
     ·have hi:ZaT (d+1) m (b.drop p)=.error 2:=by rw[ZaT,hr];dsimp only;rw[hk,if_neg (by simp),if_pos hm0]
      have hj:ZhF (d+1) m (b.drop p)=(itZ,0):=by rw[ZhF,hr];dsimp only;rw[hk,if_neg (by simp),if_pos hm0]
      rw[hi,hj]
      show AP Tryz.prog _ _ (.tup [.agg [.int .i64 0,.int .u64 0,.sl .ext [],.sl .ext []],.int .i64 0,.int .i64 0,.int .i64 2]) []
      subst hm0
      rcases hk' with rfl|rfl|rfl|rfl
      all_goals
       refine AP.ofA ?_
       refine Zan Tryz.func181 rfl Tryz.ntmps181 rfl rfl ?_
       repeat'(first|rw[dd]|(apply Zaa (hhd);kernel_rfl;(iterate 4 exact Z))|(apply Zaj Zab;exact Z)|(apply Zah Zab;exact Z)|(apply Zav Zab;exact Z)|(apply Zae;(iterate 3 exact Z);exact Go.ZrJ)|(apply Zag;exact Z;exact Go.ZrJ;exact Z;exact Z)|(apply Zac;exact Z;exact Go.ZrJ)|(apply Zaf;exact Z;exact Go.ZrJ))
       all_goals(apply Zaw [];(apply Zad Zab;exact Z);(iterate 4 exact Z))
       all_goals rfl
     ·have hi:ZaT (d+1) m (b.drop p)=Zcq (ZaT d) (k,n,o) (m-1) r:=by rw[ZaT,hr];dsimp only;rw[hk,if_neg (by simp),if_neg hm0]
      have hj:ZhF (d+1) m (b.drop p)=if k=0 then(itZ,0) else if k=4 then(.mk 4 0 [] (Zo2 (ZaT d) (k,n,o) (m-1) r),0) else(.mk k 0 (Zow (k,n,o) r) [],m-1):=by rw[ZhF,hr];dsimp only;rw[hk,if_neg (by simp),if_neg hm0]
      rw[hi,hj]
      have dm:((m:Int)==0)=false:=by simpa using hm0
      have em:IntKind.i64.wrap ((m:Int)-1)=((m-1:Nat):Int):=by rw[IntWalk.i64_in _ (by omega)];omega
      rcases hk' with rfl|rfl|rfl|rfl
      ·unfold Zcq
       rw[if_pos rfl]
       show AP Tryz.prog _ _ (.tup [.agg [.int .i64 0,.int .u64 (n:Int),.sl .ext [],.sl .ext []],.int .i64 ((b.length-r.length:Nat):Int),.int .i64 ((m-1:Nat):Int),.int .i64 0]) []
       rw[hp2]
       refine AP.ofA ?_
       refine Zan Tryz.func181 rfl Tryz.ntmps181 rfl rfl ?_
       repeat'(first|rw[dd]|rw[dm]|rw[em]|(apply Zaa (hhd);kernel_rfl;(iterate 4 exact Z))|(apply Zaj Zab;exact Z)|(apply Zah Zab;exact Z)|(apply Zav Zab;exact Z)|(apply Zae;(iterate 3 exact Z);exact Go.ZrJ)|(apply Zag;exact Z;exact Go.ZrJ;exact Z;exact Z)|(apply Zac;exact Z;exact Go.ZrJ)|(apply Zaf;exact Z;exact Go.ZrJ))
       all_goals(apply Zaw [];(apply Zad Zab;exact Z);(iterate 4 exact Z))
       all_goals rfl
      ·have hs:=Zjy (2,n,o) b p2 hb q2 hn
       rw[q1]at hs
       unfold Zcq
       rw[if_neg (by simp),if_neg (by simp),if_neg (by simp),if_neg (by simp)]
       generalize Zow (2,n,o) r=TE at *
       cases ht:ZgM (2,n,o) r with
       | error e=>
        rw[ht]at hs
        replace hs:AP Tryz.prog 197 [byE b,.int .i64 (p2:Int),.agg [.int .i64 2,.int .u64 (n:Int),.bool o]] (.tup [.agg [.int .i64 2,.int .u64 0,.sl .ext (TE.map E.byte),.sl .ext []],.int .i64 0,.int .i64 (e:Int)]) []:=hs
        show AP Tryz.prog _ _ (.tup [.agg [.int .i64 2,.int .u64 0,.sl .ext (TE.map E.byte),.sl .ext []],.int .i64 0,.int .i64 ((m-1:Nat):Int),.int .i64 (e:Int)]) []
        refine AP.ofA ?_
        refine Zan Tryz.func181 rfl Tryz.ntmps181 rfl rfl ?_
        repeat'(first|rw[dd]|rw[dm]|rw[em]|(apply Zaa (hhd);kernel_rfl;(iterate 4 exact Z))|(apply Zaa (hs);kernel_rfl;(iterate 4 exact Z))|(apply Zaj Zab;exact Z)|(apply Zah Zab;exact Z)|(apply Zav Zab;exact Z)|(apply Zae;(iterate 3 exact Z);exact Go.ZrJ)|(apply Zag;exact Z;exact Go.ZrJ;exact Z;exact Z)|(apply Zaf;exact Z;exact Go.ZrJ))
        all_goals(apply Zaw [];(apply Zad Zab;exact Z);(iterate 4 exact Z))
        all_goals rfl
       | ok y=>
        obtain⟨c,r2⟩:=y
        rw[ht]at hs
        replace hs:AP Tryz.prog 197 [byE b,.int .i64 (p2:Int),.agg [.int .i64 2,.int .u64 (n:Int),.bool o]] (.tup [.agg [.int .i64 2,.int .u64 0,.sl .ext (c.map E.byte),.sl .ext []],.int .i64 ((b.length-r2.length:Nat):Int),.int .i64 0]) []:=hs
        show AP Tryz.prog _ _ (.tup [.agg [.int .i64 2,.int .u64 0,.sl .ext (c.map E.byte),.sl .ext []],.int .i64 ((b.length-r2.length:Nat):Int),.int .i64 ((m-1:Nat):Int),.int .i64 0]) []
        refine AP.ofA ?_
        refine Zan Tryz.func181 rfl Tryz.ntmps181 rfl rfl ?_
        repeat'(first|rw[dd]|rw[dm]|rw[em]|(apply Zaa (hhd);kernel_rfl;(iterate 4 exact Z))|(apply Zaa (hs);kernel_rfl;(iterate 4 exact Z))|(apply Zaj Zab;exact Z)|(apply Zah Zab;exact Z)|(apply Zav Zab;exact Z)|(apply Zae;(iterate 3 exact Z);exact Go.ZrJ)|(apply Zag;exact Z;exact Go.ZrJ;exact Z;exact Z)|(apply Zaf;exact Z;exact Go.ZrJ))
        all_goals(apply Zaw [];(apply Zad Zab;exact Z);(iterate 4 exact Z))
        all_goals rfl
      ·have hs:=Zjy (3,n,o) b p2 hb q2 hn
       rw[q1]at hs
       unfold Zcq
       rw[if_neg (by simp),if_neg (by simp),if_neg (by simp),if_neg (by simp)]
       generalize Zow (3,n,o) r=TE at *
       cases ht:ZgM (3,n,o) r with
       | error e=>
        rw[ht]at hs
        replace hs:AP Tryz.prog 197 [byE b,.int .i64 (p2:Int),.agg [.int .i64 3,.int .u64 (n:Int),.bool o]] (.tup [.agg [.int .i64 3,.int .u64 0,.sl .ext (TE.map E.byte),.sl .ext []],.int .i64 0,.int .i64 (e:Int)]) []:=hs
        show AP Tryz.prog _ _ (.tup [.agg [.int .i64 3,.int .u64 0,.sl .ext (TE.map E.byte),.sl .ext []],.int .i64 0,.int .i64 ((m-1:Nat):Int),.int .i64 (e:Int)]) []
        refine AP.ofA ?_
        refine Zan Tryz.func181 rfl Tryz.ntmps181 rfl rfl ?_
        repeat'(first|rw[dd]|rw[dm]|rw[em]|(apply Zaa (hhd);kernel_rfl;(iterate 4 exact Z))|(apply Zaa (hs);kernel_rfl;(iterate 4 exact Z))|(apply Zaj Zab;exact Z)|(apply Zah Zab;exact Z)|(apply Zav Zab;exact Z)|(apply Zae;(iterate 3 exact Z);exact Go.ZrJ)|(apply Zag;exact Z;exact Go.ZrJ;exact Z;exact Z)|(apply Zaf;exact Z;exact Go.ZrJ))
        all_goals(apply Zaw [];(apply Zad Zab;exact Z);(iterate 4 exact Z))
        all_goals rfl
       | ok y=>
        obtain⟨c,r2⟩:=y
        rw[ht]at hs
        replace hs:AP Tryz.prog 197 [byE b,.int .i64 (p2:Int),.agg [.int .i64 3,.int .u64 (n:Int),.bool o]] (.tup [.agg [.int .i64 3,.int .u64 0,.sl .ext (c.map E.byte),.sl .ext []],.int .i64 ((b.length-r2.length:Nat):Int),.int .i64 0]) []:=hs
        show AP Tryz.prog _ _ (.tup [.agg [.int .i64 3,.int .u64 0,.sl .ext (c.map E.byte),.sl .ext []],.int .i64 ((b.length-r2.length:Nat):Int),.int .i64 ((m-1:Nat):Int),.int .i64 0]) []
        refine AP.ofA ?_
        refine Zan Tryz.func181 rfl Tryz.ntmps181 rfl rfl ?_
        repeat'(first|rw[dd]|rw[dm]|rw[em]|(apply Zaa (hhd);kernel_rfl;(iterate 4 exact Z))|(apply Zaa (hs);kernel_rfl;(iterate 4 exact Z))|(apply Zaj Zab;exact Z)|(apply Zah Zab;exact Z)|(apply Zav Zab;exact Z)|(apply Zae;(iterate 3 exact Z);exact Go.ZrJ)|(apply Zag;exact Z;exact Go.ZrJ;exact Z;exact Z)|(apply Zaf;exact Z;exact Go.ZrJ))
        all_goals(apply Zaw [];(apply Zad Zab;exact Z);(iterate 4 exact Z))
        all_goals rfl
      ·have hs:=ZmU d deep (by omega) b hb (fun p m hp hm=>ZlD b hb d (deep+1) (by omega) p m hp hm) n o p2 (m-1) q2 (by omega) hn
       rw[q1]at hs
       unfold Zcq
       rw[if_neg (by simp),if_pos rfl,if_neg (by simp),if_pos rfl]
       generalize Zo2 (ZaT d) (4,n,o) (m-1) r=LE at *
       cases ht:Zir (ZaT d) (4,n,o) (m-1) r with
       | error e=>
        rw[ht]at hs
        replace hs:AP Tryz.prog 196 [byE b,.int .i64 (p2:Int),.agg [.int .i64 4,.int .u64 (n:Int),.bool o],.int .i64 (deep:Int),.int .i64 ((m-1:Nat):Int)] (.tup [.agg [.int .i64 4,.int .u64 0,.sl .ext [],.sl .ext (Zax LE)],.int .i64 0,.int .i64 0,.int .i64 (e:Int)]) []:=hs
        show AP Tryz.prog _ _ (.tup [.agg [.int .i64 4,.int .u64 0,.sl .ext [],.sl .ext (Zax LE)],.int .i64 0,.int .i64 0,.int .i64 (e:Int)]) []
        refine AP.ofA ?_
        refine Zan Tryz.func181 rfl Tryz.ntmps181 rfl rfl ?_
        repeat'(first|rw[dd]|rw[dm]|rw[em]|(apply Zaa (hhd);kernel_rfl;(iterate 4 exact Z))|(apply Zaa (hs);kernel_rfl;(iterate 4 exact Z))|(apply Zaj Zab;exact Z)|(apply Zah Zab;exact Z)|(apply Zav Zab;exact Z)|(apply Zae;(iterate 3 exact Z);exact Go.ZrJ)|(apply Zag;exact Z;exact Go.ZrJ;exact Z;exact Z)|(apply Zac;exact Z;exact Go.ZrJ)|(apply Zaf;exact Z;exact Go.ZrJ))
        all_goals(apply Zaw [];(apply Zad Zab;exact Z);(iterate 4 exact Z))
        all_goals rfl
       | ok y=>
        obtain⟨l,r2,m2⟩:=y
        rw[ht]at hs
        replace hs:AP Tryz.prog 196 [byE b,.int .i64 (p2:Int),.agg [.int .i64 4,.int .u64 (n:Int),.bool o],.int .i64 (deep:Int),.int .i64 ((m-1:Nat):Int)] (.tup [.agg [.int .i64 4,.int .u64 0,.sl .ext [],.sl .ext (Zax l)],.int .i64 ((b.length-r2.length:Nat):Int),.int .i64 (m2:Int),.int .i64 0]) []:=hs
        show AP Tryz.prog _ _ (.tup [.agg [.int .i64 4,.int .u64 0,.sl .ext [],.sl .ext (Zax l)],.int .i64 ((b.length-r2.length:Nat):Int),.int .i64 (m2:Int),.int .i64 0]) []
        refine AP.ofA ?_
        refine Zan Tryz.func181 rfl Tryz.ntmps181 rfl rfl ?_
        repeat'(first|rw[dd]|rw[dm]|rw[em]|(apply Zaa (hhd);kernel_rfl;(iterate 4 exact Z))|(apply Zaa (hs);kernel_rfl;(iterate 4 exact Z))|(apply Zaj Zab;exact Z)|(apply Zah Zab;exact Z)|(apply Zav Zab;exact Z)|(apply Zae;(iterate 3 exact Z);exact Go.ZrJ)|(apply Zag;exact Z;exact Go.ZrJ;exact Z;exact Z)|(apply Zac;exact Z;exact Go.ZrJ)|(apply Zaf;exact Z;exact Go.ZrJ))
        all_goals(apply Zaw [];(apply Zad Zab;exact Z);(iterate 4 exact Z))
        all_goals rfl
 termination_by d=>d
theorem ZmW [Known](b:List UInt8)(p:Int)(hb:b.length<=1099511627776):AP Tryz.prog 157 [byE b,.int .i64 p] (rdI (Zbu b p)) []:=by
 have hlm:(b.map E.byte).length=b.length:=List.length_map ..
 unfold Zbu
 by_cases hp:p<0\/(b.length:Int)<p
 ·rw[if_pos hp]
  show AP Tryz.prog _ _ (.tup [.agg [.int .i64 0,.int .u64 0,.sl .ext [],.sl .ext []],.int .i64 0,.int .i64 1]) []
  cases t1:decide (p<0) with
  | true=>
   refine AP.ofA ?_
   refine Zan Tryz.func157 rfl Tryz.ntmps157 rfl rfl ?_
   repeat'(first|(apply Zaj Zab;exact Z)|(apply Zah Zab;exact Z)|(apply Zav Zab;exact Z)|(apply Zal;(iterate 3 exact Z);exact Go.ZrJ)|(apply Zak;exact Z;exact Go.ZrJ;exact Z;exact Z)|(apply Zac;exact Z;exact Go.ZrJ))
   all_goals(apply Zaw [];(apply Zad Zab;exact Z);(iterate 4 exact Z))
   all_goals rfl
  | false=>
   have t2:decide (p>((b.map E.byte).length:Int))=true:=decide_eq_true (by have:=of_decide_eq_false t1;omega)
   refine AP.ofA ?_
   refine Zan Tryz.func157 rfl Tryz.ntmps157 rfl rfl ?_
   repeat'(first|(apply Zaj Zab;exact Z)|(apply Zah Zab;exact Z)|(apply Zav Zab;exact Z)|(apply Zae;(iterate 3 exact Z);exact Go.ZrJ)|(apply Zag;exact Z;exact Go.ZrJ;exact Z;exact Z)|(apply Zac;exact Z;exact Go.ZrJ)|(apply Zam Zab;(iterate 4 exact Z)))
   all_goals(apply Zaw [];(apply Zad Zab;exact Z);(iterate 4 exact Z))
   all_goals rfl
 ·rw[if_neg hp]
  have t1:decide (p<0)=false:=decide_eq_false (by omega)
  have t2:decide (p>((b.map E.byte).length:Int))=false:=decide_eq_false (by omega)
  obtain⟨q,rfl⟩:∃ q:Nat,p=(q:Int):=⟨p.toNat,by omega⟩
  rw[Int.toNat_natCast]
  have hI:=ZlD b hb 6 1 rfl q 256 (by omega) (Nat.le_refl _)
  cases hi:ZaT 6 256 (b.drop q) with
  | error e=>
   rw[hi]at hI
   have te:(((e:Nat):Int) != 0)=true:=by have:=Zdg _ _ _ _ hi;simpa using this
   generalize ZhF 6 256 (b.drop q)=R at hI
   obtain⟨⟨k0,n0,b0,l0⟩,r0⟩:=R
   replace hI:AP Tryz.prog 181 [byE b,.int .i64 (q:Int),.int .i64 1,.int .i64 256] (.tup [.agg [.int .i64 k0,.int .u64 (n0:Int),.sl .ext (b0.map E.byte),.sl .ext (Zax l0)],.int .i64 0,.int .i64 (r0:Int),.int .i64 (e:Int)]) []:=hI
   show AP Tryz.prog _ _ (.tup [.agg [.int .i64 0,.int .u64 0,.sl .ext [],.sl .ext []],.int .i64 0,.int .i64 (e:Int)]) []
   refine AP.ofA ?_
   refine Zan Tryz.func157 rfl Tryz.ntmps157 rfl rfl ?_
   repeat'(first|(apply Zaa (hI);kernel_rfl;(iterate 4 exact Z))|(apply Zaj Zab;exact Z)|(apply Zah Zab;exact Z)|(apply Zav Zab;exact Z)|(apply Zae;(iterate 3 exact Z);exact Go.ZrJ)|(apply Zag;exact Z;exact Go.ZrJ;exact Z;exact Z)|(apply Zac;exact Z;exact Go.ZrJ)|(apply Zaf;exact Z;exact Go.ZrJ)|(apply Zam Zab;(iterate 4 exact Z)))
   all_goals(apply Zaw [];(apply Zad Zab;exact Z);(iterate 4 exact Z))
   all_goals rfl
  | ok y=>
   obtain⟨⟨k1,n1,b1,l1⟩,r,m1⟩:=y
   rw[hi]at hI
   replace hI:AP Tryz.prog 181 [byE b,.int .i64 (q:Int),.int .i64 1,.int .i64 256] (.tup [.agg [.int .i64 k1,.int .u64 (n1:Int),.sl .ext (b1.map E.byte),.sl .ext (Zax l1)],.int .i64 ((b.length-r.length:Nat):Int),.int .i64 (m1:Int),.int .i64 0]) []:=hI
   show AP Tryz.prog _ _ (.tup [.agg [.int .i64 k1,.int .u64 (n1:Int),.sl .ext (b1.map E.byte),.sl .ext (Zax l1)],.int .i64 ((b.length-r.length:Nat):Int),.int .i64 0]) []
   refine AP.ofA ?_
   refine Zan Tryz.func157 rfl Tryz.ntmps157 rfl rfl ?_
   repeat'(first|(apply Zaa (hI);kernel_rfl;(iterate 4 exact Z))|(apply Zaj Zab;exact Z)|(apply Zah Zab;exact Z)|(apply Zav Zab;exact Z)|(apply Zae;(iterate 3 exact Z);exact Go.ZrJ)|(apply Zag;exact Z;exact Go.ZrJ;exact Z;exact Z)|(apply Zaf;exact Z;exact Go.ZrJ)|(apply Zam Zab;(iterate 4 exact Z)))
   all_goals(apply Zaw [];(apply Zad Zab;exact Z);(iterate 4 exact Z))
   all_goals rfl
theorem Zqp {α:Type}{f:α->E}(b:List α):(((b.map f).length:Int)==0)=b.isEmpty:=by cases b<;>simp<;>omega
theorem Zpz (l:List It):(((Zax l).length:Int)==0)=l.isEmpty:=by rw[Zar];cases l<;>simp<;>omega
theorem n0 (n:Nat):((n:Int)==0)=decide (n=0):=by rw[Bool.eq_iff_iff];simp
theorem ZpA [Known][KnownU8](k:Int)(n:Nat)(b:List UInt8)(l:List It)(hb:b.length<=140737488351232):AP Tryz.prog 189 [.agg (itC k n b l)] (.bool (Zc2 k n b l)) []:=by
 have e1:=Zqp (f:=E.byte) b
 have e2:=Zpz l
 have e3:=n0 n
 have hv:=Zjp b hb
 by_cases k0:k=0
 ·subst k0
  cases hbe:b.isEmpty<;>cases hle:l.isEmpty
  all_goals
   rw[hbe]at e1
   rw[hle]at e2
   have e:Zc2 0 n b l=(b.isEmpty&&l.isEmpty):=rfl
   rw[e,hbe,hle]
   refine AP.ofA ?_
   refine Zan Tryz.func189 rfl Tryz.ntmps189 rfl rfl ?_
   repeat'(first|rw[e1]|rw[e2]|(apply Zaj Zab;exact Z)|(apply Zah Zab;exact Z)|(apply Zae;(iterate 3 exact Z);exact Go.ZrJ)|(apply Zas;(iterate 3 exact Z);exact Go.ZrJ)|(apply Zak;exact Z;exact Go.ZrJ;exact Z;exact Z)|(apply Zag;exact Z;exact Go.ZrJ;exact Z;exact Z)|(apply Zac;exact Z;exact Go.ZrJ)|(apply Zam Zab;(iterate 4 exact Z)))
   all_goals(apply Zaw [];(apply Zad Zab;exact Z);(iterate 4 exact Z))
   all_goals rfl
 by_cases k2:k=2
 ·subst k2
  cases hbe:decide (n=0)<;>cases hle:l.isEmpty
  all_goals
   rw[hbe]at e3
   rw[hle]at e2
   have e:Zc2 2 n b l=(decide (n=0)&&l.isEmpty):=rfl
   rw[e,hbe,hle]
   refine AP.ofA ?_
   refine Zan Tryz.func189 rfl Tryz.ntmps189 rfl rfl ?_
   repeat'(first|rw[e2]|rw[e3]|(apply Zaj Zab;exact Z)|(apply Zah Zab;exact Z)|(apply Zae;(iterate 3 exact Z);exact Go.ZrJ)|(apply Zas;(iterate 3 exact Z);exact Go.ZrJ)|(apply Zak;exact Z;exact Go.ZrJ;exact Z;exact Z)|(apply Zag;exact Z;exact Go.ZrJ;exact Z;exact Z)|(apply Zac;exact Z;exact Go.ZrJ)|(apply Zaf;exact Z;exact Go.ZrJ)|(apply Zam Zab;(iterate 4 exact Z)))
   all_goals(apply Zaw [];(apply Zad Zab;exact Z);(iterate 4 exact Z))
   all_goals rfl
 by_cases k3:k=3
 ·subst k3
  cases hbe:decide (n=0)<;>cases hle:l.isEmpty
  all_goals
   rw[hbe]at e3
   rw[hle]at e2
   have e:Zc2 3 n b l=(decide (n=0)&&(l.isEmpty&&ZaF b)):=rfl
   rw[e,hbe,hle]
   refine AP.ofA ?_
   refine Zan Tryz.func189 rfl Tryz.ntmps189 rfl rfl ?_
   repeat'(first|rw[e2]|rw[e3]|(apply Zaa (hv);kernel_rfl;(iterate 4 exact Z))|(apply Zaj Zab;exact Z)|(apply Zah Zab;exact Z)|(apply Zae;(iterate 3 exact Z);exact Go.ZrJ)|(apply Zas;(iterate 3 exact Z);exact Go.ZrJ)|(apply Zak;exact Z;exact Go.ZrJ;exact Z;exact Z)|(apply Zag;exact Z;exact Go.ZrJ;exact Z;exact Z)|(apply Zac;exact Z;exact Go.ZrJ)|(apply Zaf;exact Z;exact Go.ZrJ)|(apply Zam Zab;(iterate 4 exact Z)))
   all_goals(apply Zaw [];(apply Zad Zab;exact Z);(iterate 4 exact Z))
   all_goals rfl
 by_cases k4:k=4
 ·subst k4
  cases hbe:decide (n=0)<;>cases hle:b.isEmpty
  all_goals
   rw[hbe]at e3
   rw[hle]at e1
   have e:Zc2 4 n b l=(decide (n=0)&&b.isEmpty):=rfl
   rw[e,hbe,hle]
   refine AP.ofA ?_
   refine Zan Tryz.func189 rfl Tryz.ntmps189 rfl rfl ?_
   repeat'(first|rw[e1]|rw[e3]|(apply Zaj Zab;exact Z)|(apply Zah Zab;exact Z)|(apply Zae;(iterate 3 exact Z);exact Go.ZrJ)|(apply Zas;(iterate 3 exact Z);exact Go.ZrJ)|(apply Zak;exact Z;exact Go.ZrJ;exact Z;exact Z)|(apply Zag;exact Z;exact Go.ZrJ;exact Z;exact Z)|(apply Zac;exact Z;exact Go.ZrJ)|(apply Zaf;exact Z;exact Go.ZrJ)|(apply Zam Zab;(iterate 4 exact Z)))
   all_goals(apply Zaw [];(apply Zad Zab;exact Z);(iterate 4 exact Z))
   all_goals rfl
 ·have t0:(k==0)=false:=by simpa using k0
  have t2:(k==2)=false:=by simpa using k2
  have t3:(k==3)=false:=by simpa using k3
  have t4:(k==4)=false:=by simpa using k4
  have e:Zc2 k n b l=false:=by simp[Zc2,k0,k2,k3,k4]
  rw[e]
  refine AP.ofA ?_
  refine Zan Tryz.func189 rfl Tryz.ntmps189 rfl rfl ?_
  repeat'(first|(apply Zah Zab;exact Z)|(apply Zaf;exact Z;exact Go.ZrJ))
  all_goals(apply Zaw [];(apply Zad Zab;exact Z);(iterate 4 exact Z))
  all_goals rfl
def wkN:Option Nat->Int
 | some m=>(m:Int)
 | none => -1
theorem Zox [Known][KnownU8]:∀(x:It),wfI x->∀ d m:Nat,d<=7->m<=256->AP Tryz.prog 166 [itD x,.int .i64 (d:Int),.int .i64 (m:Int)] (.int .i64 (wkN (Zcj x d m))) []:=by
 refine It.ind fun k n b l ih hw d m hd hm=>?_
 obtain⟨hn,hb,hl,hws⟩:=hw
 have hown:=ZpA k n b l hb
 have hlen:=Zar l
 show AP Tryz.prog _ [.agg (itC k n b l),_,_] _ _
 rw[Zcj]
 have em:1<=m->IntKind.i64.wrap ((m:Int)-1)=((m-1:Nat):Int):=fun h=>by rw[IntWalk.i64_in _ (by omega)];omega
 have ed:IntKind.i64.wrap ((d:Int)+1)=((d+1:Nat):Int):=by rw[IntWalk.i64_in _ (by omega)];omega
 by_cases hd6:6<d
 ·rw[if_pos hd6]
  have t1:decide ((d:Int)>6)=true:=by simp;omega
  refine AP.ofA ?_
  refine Zan Tryz.func166 rfl Tryz.ntmps166 rfl rfl ?_
  repeat'(first|(apply Zaj Zab;exact Z)|(apply Zah Zab;exact Z)|(apply Zav Zab;exact Z)|(apply Zal;(iterate 3 exact Z);exact Go.ZrJ)|(apply Zak;exact Z;exact Go.ZrJ;exact Z;exact Z)|(apply Zac;exact Z;exact Go.ZrJ))
  all_goals(apply Zaw [];(apply Zad Zab;exact Z);(iterate 4 exact Z))
  all_goals rfl
 have t1:decide ((d:Int)>6)=false:=by simp;omega
 rw[if_neg hd6]
 by_cases hm1:m<1
 ·rw[if_pos hm1]
  have t2:decide ((m:Int)<1)=true:=by simp;omega
  refine AP.ofA ?_
  refine Zan Tryz.func166 rfl Tryz.ntmps166 rfl rfl ?_
  repeat'(first|(apply Zaj Zab;exact Z)|(apply Zah Zab;exact Z)|(apply Zav Zab;exact Z)|(apply Zae;(iterate 3 exact Z);exact Go.ZrJ)|(apply Zal;(iterate 3 exact Z);exact Go.ZrJ)|(apply Zak;exact Z;exact Go.ZrJ;exact Z;exact Z)|(apply Zag;exact Z;exact Go.ZrJ;exact Z;exact Z)|(apply Zac;exact Z;exact Go.ZrJ))
  all_goals(apply Zaw [];(apply Zad Zab;exact Z);(iterate 4 exact Z))
  all_goals rfl
 have t2:decide ((m:Int)<1)=false:=by simp;omega
 rw[if_neg hm1]
 have em:=em (by omega)
 cases ho:Zc2 k n b l with
 | false=>
  rw[ho]at hown
  dsimp only
  refine AP.ofA ?_
  refine Zan Tryz.func166 rfl Tryz.ntmps166 rfl rfl ?_
  repeat'(first|(apply Zaa (hown);kernel_rfl;(iterate 4 exact Z))|(apply Zaj Zab;exact Z)|(apply Zah Zab;exact Z)|(apply Zav Zab;exact Z)|(apply Zae;(iterate 3 exact Z);exact Go.ZrJ)|(apply Zag;exact Z;exact Go.ZrJ;exact Z;exact Z)|(apply Zac;exact Z;exact Go.ZrJ))
  all_goals(apply Zaw [];(apply Zad Zab;exact Z);(iterate 4 exact Z))
  all_goals rfl
 | true=>
  rw[ho]at hown
  dsimp only
  generalize hfin:ZbP l (d+1) (m-1)=fin
  refine AP.ofA ?_
  refine Zan Tryz.func166 rfl Tryz.ntmps166 rfl rfl ?_
  repeat'(first|rw[em]|(apply Zaa (hown);kernel_rfl;(iterate 4 exact Z))|(apply Zaj Zab;exact Z)|(apply Zah Zab;exact Z)|(apply Zav Zab;exact Z)|(apply Zae;(iterate 3 exact Z);exact Go.ZrJ)|(apply Zag;exact Z;exact Go.ZrJ;exact Z;exact Z)|(apply Zaf;exact Z;exact Go.ZrJ)|(apply Zam Zab;(iterate 4 exact Z)))
  refine ZaE (fun f tm bx fr=>∃ i m':Nat,f+i=l.length/\m'<=256/\ZbP (l.drop i) (d+1) m'=fin/\tm=[(1,.int .i64 (d:Int)),(2,.int .i64 (m':Int)),(23,.sl .ext (Zax l)),(24,.int .i64 ((Zax l).length:Int)),(25,.int .i64 (i:Int)),(6,.int .i64 0)]/\bx=[itC k n b l]/\fr=[]) (l.length+1) (Lands.mk' (m:=l.length) (Nat.lt_succ_self _) ⟨0,m-1,rfl,by omega,hfin,rfl,rfl,rfl⟩ ?_ rfl rfl rfl rfl rfl rfl) ?_
  ·exact .cons rfl (.cons rfl (.cons rfl (.cons rfl (.cons rfl (.cons rfl .nil)))))
  rintro f tm bx fr ⟨i,m',hf,hm',hfin,rfl,rfl,rfl⟩
  have hU:=Zb8 l
  rcases Nat.lt_or_ge i l.length with hlt|hge
  ·have hdl:decide ((i:Int)<((Zax l).length:Int))=true:=decide_eq_true (by omega)
   obtain⟨⟨k1,n1,b1,l1⟩,hy⟩:∃ y,l[i]?=some y:=⟨_,List.getElem?_eq_getElem hlt⟩
   have hv:(Zax l)[((i:Nat):Int).toNat]?=some (.agg [.int .i64 k1,.int .u64 (n1:Int),.sl (b1.map E.byte),.sl (Zax l1)]):=by
    rw[Int.toNat_natCast,ZaI,List.getElem?_map,hy];rfl
   have hmem:=List.mem_of_getElem? hy
   have hc:=ih _ hmem (ZaY hws _ hmem) (d+1) m' (by omega) hm'
   have hdr:l.drop i=It.mk k1 n1 b1 l1::l.drop (i+1):=by
    rw[List.drop_eq_getElem_cons hlt];congr 1
    have:=(List.getElem?_eq_some_iff.1 hy).2;exact this
   rw[hdr,ZbP]at hfin
   have ei:IntKind.i64.wrap ((i:Int)+1)=((i+1:Nat):Int):=by rw[IntWalk.i64_in _ (by omega)];omega
   cases hwk:Zcj (.mk k1 n1 b1 l1) (d+1) m' with
   | none=>
    rw[hwk]at hfin hc
    subst hfin
    repeat'(first|rw[ed]|(apply Zaa (hc);kernel_rfl;(iterate 4 exact Z))|(apply Zaj Zab;exact Z)|(apply Zah Zab;exact Z)|(apply Zac;exact Z;exact Go.ZrJ)|(apply Zau Zab;(iterate 6 exact Z);(first|exact Go.ZrJ|rotate_left);(first|with_reducible assumption|decide +kernel|exact Z);(first|exact Zai rfl|with_reducible assumption|decide +kernel|rotate_left)))
    all_goals(apply Zaw [];(apply Zad Zab;exact Z);(iterate 4 exact Z))
    all_goals rfl
   | some r=>
    rw[hwk]at hfin hc
    simp only[wkN]at hc
    have hlt2:=ZcS hwk
    have tr:decide ((r:Int)<0)=false:=by simp
    repeat'(first|rw[ed]|rw[ei]|(apply Zaa (hc);kernel_rfl;(iterate 4 exact Z))|(apply Zaj Zab;exact Z)|(apply Zah Zab;exact Z)|(apply Zac;exact Z;exact Go.ZrJ)|(apply Zaf;exact Z;exact Go.ZrJ)|(apply Zau Zab;(iterate 6 exact Z);(first|exact Go.ZrJ|rotate_left);(first|with_reducible assumption|decide +kernel|exact Z);(first|exact Zai rfl|with_reducible assumption|decide +kernel|rotate_left)))
    refine Lands.mk' (m:=f-1) (by omega) ⟨i+1,r,by omega,by omega,hfin,rfl,rfl,rfl⟩ ?_ rfl rfl rfl rfl rfl rfl
    exact .cons rfl (.cons rfl (.cons rfl (.cons rfl (.cons rfl (.cons rfl .nil)))))
  ·have hdl:decide ((i:Int)<((Zax l).length:Int))=false:=decide_eq_false (by omega)
   have hdr:l.drop i=[]:=List.drop_eq_nil_of_le hge
   rw[hdr,ZbP]at hfin
   subst hfin
   repeat'(first|(apply Zah Zab;exact Z)|(apply Zaf;exact Z;exact Go.ZrJ))
   all_goals(apply Zaw [];(apply Zad Zab;exact Z);(iterate 4 exact Z))
   all_goals rfl
theorem Zch [Known][KnownU8](x:It)(hw:wfI x):AP Tryz.prog 138 [itD x] (.bool (ZaC x)) []:=by
 have hk:=Zox x hw 1 256 (by omega) (by omega)
 have e:decide (wkN (Zcj x 1 256) ≥ 0)=ZaC x:=by
  unfold ZaC
  cases Zcj x 1 256<;>simp[wkN]
 obtain⟨k,n,b,l⟩:=x
 refine AP.ofA ?_
 refine Zan Tryz.func138 rfl Tryz.ntmps138 rfl rfl ?_
 repeat'(first|rw[e]|(apply Zaa (hk);kernel_rfl;(iterate 4 exact Z))|(apply Zaj Zab;exact Z)|(apply Zah Zab;exact Z))
 all_goals(apply Zaw [];(apply Zad Zab;exact Z);(iterate 4 exact Z))
 all_goals rfl
end Go.Proofs.YtakblclkflnnpaaGreatDoor
end
section
open Go.RowKit Go.Pl Go.Av
namespace Go.Proofs.YtakblclkflnnpaaGreatDoor
set_option maxHeartbeats 4000000
mutual
def Za7:It->Nat->Int->Int
 | .mk k n b l,d,m=>if 9<d then -1 else if 3000<b.length then -1 else Zbk l (d+1) (m-1)
def Zbk:List It->Nat->Int->Int
 | [],_,m=>m
 | x::l,d,m=>if m<0 then m else Zbk l d (Za7 x d m)
end
mutual
theorem Zc4:∀(x:It) (d:Nat) (m:Int),0<=m->Za7 x d m<m /\ -1<=Za7 x d m
 | .mk k n b l,d,m,h=>by
  rw[Za7]
  split
  ·omega
  ·split
   ·omega
   ·have:=Zc5 l (d+1) (m-1) (by omega);omega
theorem Zc5:∀(l:List It) (d:Nat) (m:Int),-1<=m->Zbk l d m<=m /\ -1<=Zbk l d m
 | [],_,m,h=>by rw[Zbk];omega
 | x::l,d,m,h=>by
  rw[Zbk]
  split
  ·omega
  ·have h1:=Zc4 x d m (by omega)
   have h2:=Zc5 l d (Za7 x d m) (by omega)
   omega
end
mutual
def nI:It->Prop
 | .mk _ n _ l=>n<18446744073709551616/\nIs l
def nIs:List It->Prop
 | []=>True
 | x::l=>nI x/\nIs l
end
mutual
def ZbK:It->Nat->Bool
 | .mk _ _ _ l,d=>match d with
  | 0=>false
  | d+1=>Zb1 l d
def Zb1:List It->Nat->Bool
 | [],_=>true
 | x::l,d=>ZbK x d&&Zb1 l d
end
mutual
theorem ZcT:∀(x:It) (d:Nat) (m:Int),m<=400->0<=Za7 x d m->nI x->wfI x/\(Za9 x).length<=3009*(m-Za7 x d m)/\m-Za7 x d m ≥ 1/\ZbK x (10-d)=true
 | .mk k n b l,d,m,hm,h,hn=>by
  rw[Za7]at h ⊢
  split at h
  ·omega
  split at h
  ·omega
  rename_i h1 h2
  rw[if_neg h1,if_neg h2]
  obtain⟨q1,q2,q3,q4⟩:=ZfJ l (d+1) (m-1) (by omega) h hn.2
  refine⟨⟨hn.1,by omega,by omega,q1⟩,?_,by omega,?_⟩
  ·rw[Za9]
   have hw:(if ZaZ (k,(It.mk k n b l).hn,false) then ZaN (k,(It.mk k n b l).hn,false) else []).length<=9:=by
    split
    ·rename_i hr;rw[Zby _ hr];exact ZmO _
    ·exact Nat.zero_le _
   rw[List.length_append,List.length_append]
   omega
  ·obtain⟨e,he⟩:∃ e,10-d=e+1:=⟨9-d,by omega⟩
   rw[he,ZbK]
   rw[show 10-(d+1)=e by omega]at q4
   exact q4
theorem ZfJ:∀(l:List It) (d:Nat) (m:Int),m<=400->0<=Zbk l d m->nIs l->wfs l/\(Zba l).length<=3009*(m-Zbk l d m)/\m-Zbk l d m ≥ l.length/\Zb1 l (10-d)=true
 | [],_,m,_,h,hn=>by simp[wfs,Zba,Zbk,Zb1]
 | x::l,d,m,hm,h,hn=>by
  rw[Zbk]at h ⊢
  split at h
  ·omega
  rename_i h1
  rw[if_neg h1]
  have h0:0<=Za7 x d m:=by
   rcases Int.lt_or_le (Za7 x d m) 0 with hlt|hge
   ·have:=Zc5 l d (Za7 x d m) (by have:=Zc4 x d m (by omega);omega);omega
   ·exact hge
  obtain⟨q1,q2,q3,q4⟩:=ZcT x d m hm h0 hn.1
  obtain⟨r1,r2,r3,r4⟩:=ZfJ l d _ (by have:=Zc4 x d m (by omega);omega) h hn.2
  refine⟨⟨q1,r1⟩,?_,?_,?_⟩
  ·rw[Zba,List.length_append];omega
  ·rw[List.length_cons];omega
  ·rw[Zb1,q4,r4];rfl
end
theorem ZmX [Known]:∀(x:It) (d:Nat) (m:Int),d<=10->0<=m->m<=400->AP Tryz.prog 13 [itD x,.int .i64 (d:Int),.int .i64 m] (.int .i64 (Za7 x d m)) []:=by
 refine It.ind fun k n b l ih d m hd hm hm'=>?_
 have hlen:=Zar l
 have hbl:(b.map E.byte).length=b.length:=List.length_map ..
 show AP Tryz.prog _ [.agg (itC k n b l),_,_] _ _
 rw[Za7]
 have em:0<=m->IntKind.i64.wrap (m-1)=m-1:=fun h=>by rw[IntWalk.i64_in _ (by omega)]
 have ed:IntKind.i64.wrap ((d:Int)+1)=((d+1:Nat):Int):=by rw[IntWalk.i64_in _ (by omega)];omega
 by_cases hd9:9<d
 ·rw[if_pos hd9]
  have t1:decide ((d:Int)>9)=true:=by simp;omega
  refine AP.ofA ?_
  refine Zan Tryz.func13 rfl Tryz.ntmps13 rfl rfl ?_
  repeat'(first|(apply Zaj Zab;exact Z)|(apply Zah Zab;exact Z)|(apply Zav Zab;exact Z)|(apply Zal;(iterate 3 exact Z);exact Go.ZrJ)|(apply Zak;exact Z;exact Go.ZrJ;exact Z;exact Z)|(apply Zac;exact Z;exact Go.ZrJ))
  all_goals(apply Zaw [];(apply Zad Zab;exact Z);(iterate 4 exact Z))
  all_goals rfl
 have t1:decide ((d:Int)>9)=false:=by simp;omega
 rw[if_neg hd9]
 by_cases hb:3000<b.length
 ·rw[if_pos hb]
  have t2:decide ((((b.map E.byte).length:Nat):Int)>3000)=true:=by rw[hbl];simp;omega
  refine AP.ofA ?_
  refine Zan Tryz.func13 rfl Tryz.ntmps13 rfl rfl ?_
  repeat'(first|(apply Zaj Zab;exact Z)|(apply Zah Zab;exact Z)|(apply Zav Zab;exact Z)|(apply Zae;(iterate 3 exact Z);exact Go.ZrJ)|(apply Zag;exact Z;exact Go.ZrJ;exact Z;exact Z)|(apply Zac;exact Z;exact Go.ZrJ)|(apply Zam Zab;(iterate 4 exact Z)))
  all_goals(apply Zaw [];(apply Zad Zab;exact Z);(iterate 4 exact Z))
  all_goals rfl
 have t2:decide ((((b.map E.byte).length:Nat):Int)>3000)=false:=by rw[hbl];simp;omega
 rw[if_neg hb]
 generalize hfin:Zbk l (d+1) (m-1)=fin
 have em:=em hm
 refine AP.ofA ?_
 refine Zan Tryz.func13 rfl Tryz.ntmps13 rfl rfl ?_
 repeat'(first|rw[em]|(apply Zaj Zab;exact Z)|(apply Zah Zab;exact Z)|(apply Zav Zab;exact Z)|(apply Zae;(iterate 3 exact Z);exact Go.ZrJ)|(apply Zag;exact Z;exact Go.ZrJ;exact Z;exact Z)|(apply Zaf;exact Z;exact Go.ZrJ)|(apply Zam Zab;(iterate 4 exact Z)))
 refine ZaE (fun f tm bx fr=>∃(i:Nat) (m':Int),f+i=l.length /\ -1<=m'/\m'+i<=399/\Zbk (l.drop i) (d+1) m'=fin/\tm=[(1,.int .i64 (d:Int)),(2,.int .i64 m'),(3,.ptr 0 0),(7,.int .i64 (i:Int)),(6,.int .i64 0)]/\bx=[itC k n b l]/\fr=[]) (l.length+1) (Lands.mk' (m:=l.length) (Nat.lt_succ_self _) ⟨0,m-1,rfl,by omega,by omega,hfin,rfl,rfl,rfl⟩ ?_ rfl rfl rfl rfl rfl rfl) ?_
 ·exact .cons rfl (.cons rfl (.cons rfl (.cons rfl (.cons rfl .nil))))
 rintro f tm bx fr ⟨i,m',hf,hm1,hm2,hfin,rfl,rfl,rfl⟩
 have hU:=Zb8 l
 rcases Nat.lt_or_ge i l.length with hlt|hge
 ·have hdl:decide ((i:Int)<((Zax l).length:Int))=true:=decide_eq_true (by omega)
  obtain⟨⟨k1,n1,b1,l1⟩,hy⟩:∃ y,l[i]?=some y:=⟨_,List.getElem?_eq_getElem hlt⟩
  have hv:(Zax l)[((i:Nat):Int).toNat]?=some (.agg [.int .i64 k1,.int .u64 (n1:Int),.sl (b1.map E.byte),.sl (Zax l1)]):=by
   rw[Int.toNat_natCast,ZaI,List.getElem?_map,hy];rfl
  have hdr:l.drop i=It.mk k1 n1 b1 l1::l.drop (i+1):=by
   rw[List.drop_eq_getElem_cons hlt];congr 1
   have:=(List.getElem?_eq_some_iff.1 hy).2;exact this
  rw[hdr,Zbk]at hfin
  rcases Int.lt_or_le m' 0 with hml|hmg
  ·have hdm:decide (m' ≥ 0)=false:=decide_eq_false (by omega)
   rw[if_pos hml]at hfin
   subst hfin
   repeat'(first|(apply Zaj Zab;exact Z)|(apply Zah Zab;exact Z)|(apply Zav Zab;exact Z)|(apply Zae;(iterate 3 exact Z);exact Go.ZrJ)|(apply Zak;exact Z;exact Go.ZrJ;exact Z;exact Z)|(apply Zaf;exact Z;exact Go.ZrJ)|(apply Zam Zab;(iterate 4 exact Z)))
   all_goals(apply Zaw [];(apply Zad Zab;exact Z);(iterate 4 exact Z))
   all_goals rfl
  ·have hdm:decide (m' ≥ 0)=true:=decide_eq_true (by omega)
   rw[if_neg (by omega)]at hfin
   have hmem:=List.mem_of_getElem? hy
   have hc:=ih _ hmem (d+1) m' (by omega) hmg (by omega)
   have ei:IntKind.i64.wrap ((i:Int)+1)=((i+1:Nat):Int):=by rw[IntWalk.i64_in _ (by omega)];omega
   have hgl:=Zc4 (.mk k1 n1 b1 l1) (d+1) m' hmg
   generalize hgr:Za7 (.mk k1 n1 b1 l1) (d+1) m'=r at hc hfin hgl
   repeat'(first|rw[ed]|rw[ei]|(apply Zaa (hc);kernel_rfl;(iterate 4 exact Z))|(apply Zaj Zab;exact Z)|(apply Zah Zab;exact Z)|(apply Zav Zab;exact Z)|(apply Zae;(iterate 3 exact Z);exact Go.ZrJ)|(apply Zak;exact Z;exact Go.ZrJ;exact Z;exact Z)|(apply Zac;exact Z;exact Go.ZrJ)|(apply Zam Zab;(iterate 4 exact Z))|(apply Zau Zab;(iterate 6 exact Z);(first|exact Go.ZrJ|rotate_left);(first|with_reducible assumption|decide +kernel|exact Z);(first|exact Zai rfl|with_reducible assumption|decide +kernel|rotate_left)))
   refine Lands.mk' (m:=f-1) (by omega) ⟨i+1,r,by omega,by omega,by omega,hfin,rfl,rfl,rfl⟩ ?_ rfl rfl rfl rfl rfl rfl
   exact .cons rfl (.cons rfl (.cons rfl (.cons rfl (.cons rfl .nil))))
 ·have hdl:decide ((i:Int)<((Zax l).length:Int))=false:=decide_eq_false (by omega)
  have hdr:l.drop i=[]:=List.drop_eq_nil_of_le hge
  rw[hdr,Zbk]at hfin
  subst hfin
  repeat'(first|(apply Zaj Zab;exact Z)|(apply Zah Zab;exact Z)|(apply Zav Zab;exact Z)|(apply Zas;(iterate 3 exact Z);exact Go.ZrJ)|(apply Zag;exact Z;exact Go.ZrJ;exact Z;exact Z)|(apply Zaf;exact Z;exact Go.ZrJ)|(apply Zam Zab;(iterate 4 exact Z)))
  all_goals(apply Zaw [];(apply Zad Zab;exact Z);(iterate 4 exact Z))
  all_goals rfl
end Go.Proofs.YtakblclkflnnpaaGreatDoor
end
