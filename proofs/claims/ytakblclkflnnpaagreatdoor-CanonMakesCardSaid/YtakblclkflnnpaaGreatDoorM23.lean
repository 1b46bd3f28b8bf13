/- The document's reading of items: an item, at a place. -/
import Derived.Test.YtakblclkflnnpaaGreatDoorM22
import Derived.Test.YtakblclkflnnpaaGreatDoorM15
import Derived.Test.YtakblclkflnnpaaGreatDoorM20
set_option linter.unusedVariables false
set_option linter.unusedSimpArgs false
section
open Go.RowKit Go.Pl Go.Av
namespace Go.Proofs.YtakblclkflnnpaaGreatDoor
set_option maxHeartbeats 4000000
theorem ZlR {s r:List UInt8}{k:Int}{n:Nat}{o:Bool}(h:rdS s=.ok ((k,n,o),r)):∃ kn:Nat,k=(kn:Int):=by
 cases s with
 | nil=>cases h
 | cons c t=>
  rw[rdS]at h
  repeat' split at h
  all_goals first|(injection h with h;injection h with h _;injection h with h _;exact⟨_,h.symm⟩)|cases h
theorem ZkJ {k:Int}{n:Nat}(hk:k=(n:Int))(h:okK k=false):(k==1)=true\/((k==1)=false/\decide (k>4)=true):=by
 obtain⟨k0,k2,k3,k4⟩:=Zkx h
 have h0:k ≠ 0:=by simpa using k0
 have h2:k ≠ 2:=by simpa using k2
 have h3:k ≠ 3:=by simpa using k3
 have h4:k ≠ 4:=by simpa using k4
 by_cases h1:k=1
 ·exact .inl (by simp[h1])
 ·exact .inr ⟨by simp[h1],decide_eq_true (by omega)⟩
theorem ZkK [Known](b:List UInt8)(hb:b.length<=1099511627776):∀(d deep:Nat),deep+d=7->∀ p m:Nat,p<=b.length->m<=256->AP Tryz.prog 181 [byE b,.int .i64 (p:Int),.int .i64 (deep:Int),.int .i64 (m:Int)] (ZpJ b (ZaU d m (b.drop p)) (Zg9 d m (b.drop p))) []
 | d,deep=>fun hdd p m hp hm=>by
  have hhd:=ZfZ b (p:Int) (by omega)
  rw[Zfl b p hp]at hhd
  cases hr:rdS (b.drop p) with
  | error e=>
   rw[hr]at hhd
   have hi:ZaU d m (b.drop p)=.error e:=by cases d<;>rw[ZaU,hr]
   have hj:Zg9 d m (b.drop p)=(itZ,0):=by
    cases d with
    | zero=>rw[Zg9]
    | succ d=>rw[Zg9,hr]
   rw[hi,hj]
   have te:(((e:Nat):Int) != 0)=true:=by rcases ZhO hr with rfl|rfl<;>rfl
   replace hhd:AP Tryz.prog _ [byE b,.int .i64 (p:Int)] (.tup [.agg [.int .i64 0,.int .u64 0,.bool false],.int .i64 0,.int .i64 (e:Int)]) []:=hhd
   show AP Tryz.prog _ _ (.tup [.agg [.int .i64 0,.int .u64 0,.sl .ext [],.sl .ext []],.int .i64 0,.int .i64 0,.int .i64 (e:Int)]) []
   refine AP.ofA ?_
   refine Zan Tryz.func181 rfl Tryz.ntmps181 rfl rfl ?_
   repeat'(first|(apply Zaa (hhd);kernel_rfl;(iterate 4 exact Z))|(apply Zai Zab;exact Z)|(apply Zah Zab;exact Z)|(apply Zaw Zab;exact Z)|(apply Zac;exact Z;exact Go.Zqy))
   all_goals(apply Zaz [];(apply Zad Zab;exact Z);(iterate 4 exact Z))
   all_goals rfl
  | ok y=>
   obtain⟨⟨k,n,o⟩,r⟩:=y
   rw[hr]at hhd
   dsimp only at hhd
   obtain⟨hkn,hn,pre,hpre,_,hpos⟩:=ZfU hr
   dsimp only at hn
   obtain⟨q1,q2,q3⟩:=ZbI hp hpre
   have hkN:∃ kn:Nat,k=(kn:Int):=by
    have:=ZlR hr
    exact this
   obtain⟨kn,hkn⟩:=hkN
   generalize hp2:b.length-r.length=p2 at q1 q2 q3 hhd
   replace hhd:AP Tryz.prog _ [byE b,.int .i64 (p:Int)] (.tup [.agg [.int .i64 k,.int .u64 (n:Int),.bool o],.int .i64 (p2:Int),.int .i64 0]) []:=hhd
   cases hk:okK k with
   | false=>
    have hi:ZaU d m (b.drop p)=.error 3:=by cases d<;>rw[ZaU,hr]<;>dsimp only<;>rw[hk]<;>rfl
    have hj:Zg9 d m (b.drop p)=(itZ,0):=by
     cases d with
     | zero=>rw[Zg9]
     | succ d=>rw[Zg9,hr];dsimp only;rw[hk];rfl
    rw[hi,hj]
    show AP Tryz.prog _ _ (.tup [.agg [.int .i64 0,.int .u64 0,.sl .ext [],.sl .ext []],.int .i64 0,.int .i64 0,.int .i64 3]) []
    rcases ZkJ hkn hk with h1|⟨h1,h2⟩
    ·refine AP.ofA ?_
     refine Zan Tryz.func181 rfl Tryz.ntmps181 rfl rfl ?_
     repeat'(first|(apply Zaa (hhd);kernel_rfl;(iterate 4 exact Z))|(apply Zai Zab;exact Z)|(apply Zah Zab;exact Z)|(apply Zaw Zab;exact Z)|(apply Zal;(iterate 3 exact Z);exact Go.Zqy)|(apply Zaj;exact Z;exact Go.Zqy;exact Z;exact Z)|(apply Zac;exact Z;exact Go.Zqy)|(apply Zaf;exact Z;exact Go.Zqy))
     all_goals(apply Zaz [];(apply Zad Zab;exact Z);(iterate 4 exact Z))
     all_goals rfl
    ·refine AP.ofA ?_
     refine Zan Tryz.func181 rfl Tryz.ntmps181 rfl rfl ?_
     repeat'(first|(apply Zaa (hhd);kernel_rfl;(iterate 4 exact Z))|(apply Zai Zab;exact Z)|(apply Zah Zab;exact Z)|(apply Zaw Zab;exact Z)|(apply Zae;(iterate 3 exact Z);exact Go.Zqy)|(apply Zag;exact Z;exact Go.Zqy;exact Z;exact Z)|(apply Zac;exact Z;exact Go.Zqy)|(apply Zaf;exact Z;exact Go.Zqy))
     all_goals(apply Zaz [];(apply Zad Zab;exact Z);(iterate 4 exact Z))
     all_goals rfl
   | true=>
    have hk':=Zfi hk
    cases d with
    | zero=>
     have hi:ZaU 0 m (b.drop p)=.error 9:=by rw[ZaU,hr];dsimp only;rw[hk];rfl
     have hj:Zg9 0 m (b.drop p)=(itZ,0):=by rw[Zg9]
     rw[hi,hj]
     show AP Tryz.prog _ _ (.tup [.agg [.int .i64 0,.int .u64 0,.sl .ext [],.sl .ext []],.int .i64 0,.int .i64 0,.int .i64 9]) []
     obtain rfl:deep=7:=by omega
     rcases hk' with rfl|rfl|rfl|rfl
     all_goals
      refine AP.ofA ?_
      refine Zan Tryz.func181 rfl Tryz.ntmps181 rfl rfl ?_
      repeat'(first|(apply Zaa (hhd);kernel_rfl;(iterate 4 exact Z))|(apply Zai Zab;exact Z)|(apply Zah Zab;exact Z)|(apply Zaw Zab;exact Z)|(apply Zae;(iterate 3 exact Z);exact Go.Zqy)|(apply Zag;exact Z;exact Go.Zqy;exact Z;exact Z)|(apply Zac;exact Z;exact Go.Zqy)|(apply Zaf;exact Z;exact Go.Zqy))
      all_goals(apply Zaz [];(apply Zad Zab;exact Z);(iterate 4 exact Z))
      all_goals rfl
    | succ d=>
     have dd:decide ((deep:Int)>6)=false:=decide_eq_false (by omega)
     by_cases hm0:m=0
     ·have hi:ZaU (d+1) m (b.drop p)=.error 2:=by rw[ZaU,hr];dsimp only;rw[hk,if_neg (by simp),if_pos hm0]
      have hj:Zg9 (d+1) m (b.drop p)=(itZ,0):=by rw[Zg9,hr];dsimp only;rw[hk,if_neg (by simp),if_pos hm0]
      rw[hi,hj]
      show AP Tryz.prog _ _ (.tup [.agg [.int .i64 0,.int .u64 0,.sl .ext [],.sl .ext []],.int .i64 0,.int .i64 0,.int .i64 2]) []
      subst hm0
      rcases hk' with rfl|rfl|rfl|rfl
      all_goals
       refine AP.ofA ?_
       refine Zan Tryz.func181 rfl Tryz.ntmps181 rfl rfl ?_
       repeat'(first|rw[dd]|(apply Zaa (hhd);kernel_rfl;(iterate 4 exact Z))|(apply Zai Zab;exact Z)|(apply Zah Zab;exact Z)|(apply Zaw Zab;exact Z)|(apply Zae;(iterate 3 exact Z);exact Go.Zqy)|(apply Zag;exact Z;exact Go.Zqy;exact Z;exact Z)|(apply Zac;exact Z;exact Go.Zqy)|(apply Zaf;exact Z;exact Go.Zqy))
       all_goals(apply Zaz [];(apply Zad Zab;exact Z);(iterate 4 exact Z))
       all_goals rfl
     ·have hi:ZaU (d+1) m (b.drop p)=Zcf (ZaU d) (k,n,o) (m-1) r:=by rw[ZaU,hr];dsimp only;rw[hk,if_neg (by simp),if_neg hm0]
      have hj:Zg9 (d+1) m (b.drop p)=if k=0 then(itZ,0) else if k=4 then(.mk 4 0 [] (Zn3 (ZaU d) (k,n,o) (m-1) r),0) else(.mk k 0 (Zni (k,n,o) r) [],m-1):=by rw[Zg9,hr];dsimp only;rw[hk,if_neg (by simp),if_neg hm0]
      rw[hi,hj]
      have dm:((m:Int)==0)=false:=by simpa using hm0
      have em:IntKind.i64.wrap ((m:Int)-1)=((m-1:Nat):Int):=by rw[IntWalk.i64_in _ (by omega)];omega
      rcases hk' with rfl|rfl|rfl|rfl
      ·unfold Zcf
       rw[if_pos rfl]
       show AP Tryz.prog _ _ (.tup [.agg [.int .i64 0,.int .u64 (n:Int),.sl .ext [],.sl .ext []],.int .i64 ((b.length-r.length:Nat):Int),.int .i64 ((m-1:Nat):Int),.int .i64 0]) []
       rw[hp2]
       refine AP.ofA ?_
       refine Zan Tryz.func181 rfl Tryz.ntmps181 rfl rfl ?_
       repeat'(first|rw[dd]|rw[dm]|rw[em]|(apply Zaa (hhd);kernel_rfl;(iterate 4 exact Z))|(apply Zai Zab;exact Z)|(apply Zah Zab;exact Z)|(apply Zaw Zab;exact Z)|(apply Zae;(iterate 3 exact Z);exact Go.Zqy)|(apply Zag;exact Z;exact Go.Zqy;exact Z;exact Z)|(apply Zac;exact Z;exact Go.Zqy)|(apply Zaf;exact Z;exact Go.Zqy))
       all_goals(apply Zaz [];(apply Zad Zab;exact Z);(iterate 4 exact Z))
       all_goals rfl
      ·have hs:=ZiO (2,n,o) b p2 hb q2 hn
       rw[q1]at hs
       unfold Zcf
       rw[if_neg (by simp),if_neg (by simp),if_neg (by simp),if_neg (by simp)]
       generalize Zni (2,n,o) r=TE at *
       cases ht:Zge (2,n,o) r with
       | error e=>
        rw[ht]at hs
        replace hs:AP Tryz.prog 197 [byE b,.int .i64 (p2:Int),.agg [.int .i64 2,.int .u64 (n:Int),.bool o]] (.tup [.agg [.int .i64 2,.int .u64 0,.sl .ext (TE.map E.byte),.sl .ext []],.int .i64 0,.int .i64 (e:Int)]) []:=hs
        show AP Tryz.prog _ _ (.tup [.agg [.int .i64 2,.int .u64 0,.sl .ext (TE.map E.byte),.sl .ext []],.int .i64 0,.int .i64 ((m-1:Nat):Int),.int .i64 (e:Int)]) []
        refine AP.ofA ?_
        refine Zan Tryz.func181 rfl Tryz.ntmps181 rfl rfl ?_
        repeat'(first|rw[dd]|rw[dm]|rw[em]|(apply Zaa (hhd);kernel_rfl;(iterate 4 exact Z))|(apply Zaa (hs);kernel_rfl;(iterate 4 exact Z))|(apply Zai Zab;exact Z)|(apply Zah Zab;exact Z)|(apply Zaw Zab;exact Z)|(apply Zae;(iterate 3 exact Z);exact Go.Zqy)|(apply Zag;exact Z;exact Go.Zqy;exact Z;exact Z)|(apply Zaf;exact Z;exact Go.Zqy))
        all_goals(apply Zaz [];(apply Zad Zab;exact Z);(iterate 4 exact Z))
        all_goals rfl
       | ok y=>
        obtain⟨c,r2⟩:=y
        rw[ht]at hs
        replace hs:AP Tryz.prog 197 [byE b,.int .i64 (p2:Int),.agg [.int .i64 2,.int .u64 (n:Int),.bool o]] (.tup [.agg [.int .i64 2,.int .u64 0,.sl .ext (c.map E.byte),.sl .ext []],.int .i64 ((b.length-r2.length:Nat):Int),.int .i64 0]) []:=hs
        show AP Tryz.prog _ _ (.tup [.agg [.int .i64 2,.int .u64 0,.sl .ext (c.map E.byte),.sl .ext []],.int .i64 ((b.length-r2.length:Nat):Int),.int .i64 ((m-1:Nat):Int),.int .i64 0]) []
        refine AP.ofA ?_
        refine Zan Tryz.func181 rfl Tryz.ntmps181 rfl rfl ?_
        repeat'(first|rw[dd]|rw[dm]|rw[em]|(apply Zaa (hhd);kernel_rfl;(iterate 4 exact Z))|(apply Zaa (hs);kernel_rfl;(iterate 4 exact Z))|(apply Zai Zab;exact Z)|(apply Zah Zab;exact Z)|(apply Zaw Zab;exact Z)|(apply Zae;(iterate 3 exact Z);exact Go.Zqy)|(apply Zag;exact Z;exact Go.Zqy;exact Z;exact Z)|(apply Zaf;exact Z;exact Go.Zqy))
        all_goals(apply Zaz [];(apply Zad Zab;exact Z);(iterate 4 exact Z))
        all_goals rfl
      ·have hs:=ZiO (3,n,o) b p2 hb q2 hn
       rw[q1]at hs
       unfold Zcf
       rw[if_neg (by simp),if_neg (by simp),if_neg (by simp),if_neg (by simp)]
       generalize Zni (3,n,o) r=TE at *
       cases ht:Zge (3,n,o) r with
       | error e=>
        rw[ht]at hs
        replace hs:AP Tryz.prog 197 [byE b,.int .i64 (p2:Int),.agg [.int .i64 3,.int .u64 (n:Int),.bool o]] (.tup [.agg [.int .i64 3,.int .u64 0,.sl .ext (TE.map E.byte),.sl .ext []],.int .i64 0,.int .i64 (e:Int)]) []:=hs
        show AP Tryz.prog _ _ (.tup [.agg [.int .i64 3,.int .u64 0,.sl .ext (TE.map E.byte),.sl .ext []],.int .i64 0,.int .i64 ((m-1:Nat):Int),.int .i64 (e:Int)]) []
        refine AP.ofA ?_
        refine Zan Tryz.func181 rfl Tryz.ntmps181 rfl rfl ?_
        repeat'(first|rw[dd]|rw[dm]|rw[em]|(apply Zaa (hhd);kernel_rfl;(iterate 4 exact Z))|(apply Zaa (hs);kernel_rfl;(iterate 4 exact Z))|(apply Zai Zab;exact Z)|(apply Zah Zab;exact Z)|(apply Zaw Zab;exact Z)|(apply Zae;(iterate 3 exact Z);exact Go.Zqy)|(apply Zag;exact Z;exact Go.Zqy;exact Z;exact Z)|(apply Zaf;exact Z;exact Go.Zqy))
        all_goals(apply Zaz [];(apply Zad Zab;exact Z);(iterate 4 exact Z))
        all_goals rfl
       | ok y=>
        obtain⟨c,r2⟩:=y
        rw[ht]at hs
        replace hs:AP Tryz.prog 197 [byE b,.int .i64 (p2:Int),.agg [.int .i64 3,.int .u64 (n:Int),.bool o]] (.tup [.agg [.int .i64 3,.int .u64 0,.sl .ext (c.map E.byte),.sl .ext []],.int .i64 ((b.length-r2.length:Nat):Int),.int .i64 0]) []:=hs
        show AP Tryz.prog _ _ (.tup [.agg [.int .i64 3,.int .u64 0,.sl .ext (c.map E.byte),.sl .ext []],.int .i64 ((b.length-r2.length:Nat):Int),.int .i64 ((m-1:Nat):Int),.int .i64 0]) []
        refine AP.ofA ?_
        refine Zan Tryz.func181 rfl Tryz.ntmps181 rfl rfl ?_
        repeat'(first|rw[dd]|rw[dm]|rw[em]|(apply Zaa (hhd);kernel_rfl;(iterate 4 exact Z))|(apply Zaa (hs);kernel_rfl;(iterate 4 exact Z))|(apply Zai Zab;exact Z)|(apply Zah Zab;exact Z)|(apply Zaw Zab;exact Z)|(apply Zae;(iterate 3 exact Z);exact Go.Zqy)|(apply Zag;exact Z;exact Go.Zqy;exact Z;exact Z)|(apply Zaf;exact Z;exact Go.Zqy))
        all_goals(apply Zaz [];(apply Zad Zab;exact Z);(iterate 4 exact Z))
        all_goals rfl
      ·have hs:=ZlQ d deep (by omega) b hb (fun p m hp hm=>ZkK b hb d (deep+1) (by omega) p m hp hm) n o p2 (m-1) q2 (by omega) hn
       rw[q1]at hs
       unfold Zcf
       rw[if_neg (by simp),if_pos rfl,if_neg (by simp),if_pos rfl]
       generalize Zn3 (ZaU d) (4,n,o) (m-1) r=LE at *
       cases ht:ZhM (ZaU d) (4,n,o) (m-1) r with
       | error e=>
        rw[ht]at hs
        replace hs:AP Tryz.prog 196 [byE b,.int .i64 (p2:Int),.agg [.int .i64 4,.int .u64 (n:Int),.bool o],.int .i64 (deep:Int),.int .i64 ((m-1:Nat):Int)] (.tup [.agg [.int .i64 4,.int .u64 0,.sl .ext [],.sl .ext (ZaC LE)],.int .i64 0,.int .i64 0,.int .i64 (e:Int)]) []:=hs
        show AP Tryz.prog _ _ (.tup [.agg [.int .i64 4,.int .u64 0,.sl .ext [],.sl .ext (ZaC LE)],.int .i64 0,.int .i64 0,.int .i64 (e:Int)]) []
        refine AP.ofA ?_
        refine Zan Tryz.func181 rfl Tryz.ntmps181 rfl rfl ?_
        repeat'(first|rw[dd]|rw[dm]|rw[em]|(apply Zaa (hhd);kernel_rfl;(iterate 4 exact Z))|(apply Zaa (hs);kernel_rfl;(iterate 4 exact Z))|(apply Zai Zab;exact Z)|(apply Zah Zab;exact Z)|(apply Zaw Zab;exact Z)|(apply Zae;(iterate 3 exact Z);exact Go.Zqy)|(apply Zag;exact Z;exact Go.Zqy;exact Z;exact Z)|(apply Zac;exact Z;exact Go.Zqy)|(apply Zaf;exact Z;exact Go.Zqy))
        all_goals(apply Zaz [];(apply Zad Zab;exact Z);(iterate 4 exact Z))
        all_goals rfl
       | ok y=>
        obtain⟨l,r2,m2⟩:=y
        rw[ht]at hs
        replace hs:AP Tryz.prog 196 [byE b,.int .i64 (p2:Int),.agg [.int .i64 4,.int .u64 (n:Int),.bool o],.int .i64 (deep:Int),.int .i64 ((m-1:Nat):Int)] (.tup [.agg [.int .i64 4,.int .u64 0,.sl .ext [],.sl .ext (ZaC l)],.int .i64 ((b.length-r2.length:Nat):Int),.int .i64 (m2:Int),.int .i64 0]) []:=hs
        show AP Tryz.prog _ _ (.tup [.agg [.int .i64 4,.int .u64 0,.sl .ext [],.sl .ext (ZaC l)],.int .i64 ((b.length-r2.length:Nat):Int),.int .i64 (m2:Int),.int .i64 0]) []
        refine AP.ofA ?_
        refine Zan Tryz.func181 rfl Tryz.ntmps181 rfl rfl ?_
        repeat'(first|rw[dd]|rw[dm]|rw[em]|(apply Zaa (hhd);kernel_rfl;(iterate 4 exact Z))|(apply Zaa (hs);kernel_rfl;(iterate 4 exact Z))|(apply Zai Zab;exact Z)|(apply Zah Zab;exact Z)|(apply Zaw Zab;exact Z)|(apply Zae;(iterate 3 exact Z);exact Go.Zqy)|(apply Zag;exact Z;exact Go.Zqy;exact Z;exact Z)|(apply Zac;exact Z;exact Go.Zqy)|(apply Zaf;exact Z;exact Go.Zqy))
        all_goals(apply Zaz [];(apply Zad Zab;exact Z);(iterate 4 exact Z))
        all_goals rfl
 termination_by d=>d
theorem ZlS [Known](b:List UInt8)(p:Int)(hb:b.length<=1099511627776):AP Tryz.prog 157 [byE b,.int .i64 p] (rdI (Zbn b p)) []:=by
 have hlm:(b.map E.byte).length=b.length:=List.length_map ..
 unfold Zbn
 by_cases hp:p<0\/(b.length:Int)<p
 ·rw[if_pos hp]
  show AP Tryz.prog _ _ (.tup [.agg [.int .i64 0,.int .u64 0,.sl .ext [],.sl .ext []],.int .i64 0,.int .i64 1]) []
  cases t1:decide (p<0) with
  | true=>
   refine AP.ofA ?_
   refine Zan Tryz.func157 rfl Tryz.ntmps157 rfl rfl ?_
   repeat'(first|(apply Zai Zab;exact Z)|(apply Zah Zab;exact Z)|(apply Zaw Zab;exact Z)|(apply Zal;(iterate 3 exact Z);exact Go.Zqy)|(apply Zaj;exact Z;exact Go.Zqy;exact Z;exact Z)|(apply Zac;exact Z;exact Go.Zqy))
   all_goals(apply Zaz [];(apply Zad Zab;exact Z);(iterate 4 exact Z))
   all_goals rfl
  | false=>
   have t2:decide (p>((b.map E.byte).length:Int))=true:=decide_eq_true (by have:=of_decide_eq_false t1;omega)
   refine AP.ofA ?_
   refine Zan Tryz.func157 rfl Tryz.ntmps157 rfl rfl ?_
   repeat'(first|(apply Zai Zab;exact Z)|(apply Zah Zab;exact Z)|(apply Zaw Zab;exact Z)|(apply Zae;(iterate 3 exact Z);exact Go.Zqy)|(apply Zag;exact Z;exact Go.Zqy;exact Z;exact Z)|(apply Zac;exact Z;exact Go.Zqy)|(apply Zao Zab;(iterate 4 exact Z)))
   all_goals(apply Zaz [];(apply Zad Zab;exact Z);(iterate 4 exact Z))
   all_goals rfl
 ·rw[if_neg hp]
  have t1:decide (p<0)=false:=decide_eq_false (by omega)
  have t2:decide (p>((b.map E.byte).length:Int))=false:=decide_eq_false (by omega)
  obtain⟨q,rfl⟩:∃ q:Nat,p=(q:Int):=⟨p.toNat,by omega⟩
  rw[Int.toNat_natCast]
  have hI:=ZkK b hb 6 1 rfl q 256 (by omega) (Nat.le_refl _)
  cases hi:ZaU 6 256 (b.drop q) with
  | error e=>
   rw[hi]at hI
   have te:(((e:Nat):Int) != 0)=true:=by have:=ZcY _ _ _ _ hi;simpa using this
   generalize Zg9 6 256 (b.drop q)=R at hI
   obtain⟨⟨k0,n0,b0,l0⟩,r0⟩:=R
   replace hI:AP Tryz.prog 181 [byE b,.int .i64 (q:Int),.int .i64 1,.int .i64 256] (.tup [.agg [.int .i64 k0,.int .u64 (n0:Int),.sl .ext (b0.map E.byte),.sl .ext (ZaC l0)],.int .i64 0,.int .i64 (r0:Int),.int .i64 (e:Int)]) []:=hI
   show AP Tryz.prog _ _ (.tup [.agg [.int .i64 0,.int .u64 0,.sl .ext [],.sl .ext []],.int .i64 0,.int .i64 (e:Int)]) []
   refine AP.ofA ?_
   refine Zan Tryz.func157 rfl Tryz.ntmps157 rfl rfl ?_
   repeat'(first|(apply Zaa (hI);kernel_rfl;(iterate 4 exact Z))|(apply Zai Zab;exact Z)|(apply Zah Zab;exact Z)|(apply Zaw Zab;exact Z)|(apply Zae;(iterate 3 exact Z);exact Go.Zqy)|(apply Zag;exact Z;exact Go.Zqy;exact Z;exact Z)|(apply Zac;exact Z;exact Go.Zqy)|(apply Zaf;exact Z;exact Go.Zqy)|(apply Zao Zab;(iterate 4 exact Z)))
   all_goals(apply Zaz [];(apply Zad Zab;exact Z);(iterate 4 exact Z))
   all_goals rfl
  | ok y=>
   obtain⟨⟨k1,n1,b1,l1⟩,r,m1⟩:=y
   rw[hi]at hI
   replace hI:AP Tryz.prog 181 [byE b,.int .i64 (q:Int),.int .i64 1,.int .i64 256] (.tup [.agg [.int .i64 k1,.int .u64 (n1:Int),.sl .ext (b1.map E.byte),.sl .ext (ZaC l1)],.int .i64 ((b.length-r.length:Nat):Int),.int .i64 (m1:Int),.int .i64 0]) []:=hI
   show AP Tryz.prog _ _ (.tup [.agg [.int .i64 k1,.int .u64 (n1:Int),.sl .ext (b1.map E.byte),.sl .ext (ZaC l1)],.int .i64 ((b.length-r.length:Nat):Int),.int .i64 0]) []
   refine AP.ofA ?_
   refine Zan Tryz.func157 rfl Tryz.ntmps157 rfl rfl ?_
   repeat'(first|(apply Zaa (hI);kernel_rfl;(iterate 4 exact Z))|(apply Zai Zab;exact Z)|(apply Zah Zab;exact Z)|(apply Zaw Zab;exact Z)|(apply Zae;(iterate 3 exact Z);exact Go.Zqy)|(apply Zag;exact Z;exact Go.Zqy;exact Z;exact Z)|(apply Zaf;exact Z;exact Go.Zqy)|(apply Zao Zab;(iterate 4 exact Z)))
   all_goals(apply Zaz [];(apply Zad Zab;exact Z);(iterate 4 exact Z))
   all_goals rfl
theorem Zp0 {α:Type}{f:α->E}(b:List α):(((b.map f).length:Int)==0)=b.isEmpty:=by cases b<;>simp<;>omega
theorem Zpm (l:List It):(((ZaC l).length:Int)==0)=l.isEmpty:=by rw[Zas];cases l<;>simp<;>omega
theorem n0 (n:Nat):((n:Int)==0)=decide (n=0):=by rw[Bool.eq_iff_iff];simp
theorem ZoA [Known][KnownU8](k:Int)(n:Nat)(b:List UInt8)(l:List It)(hb:b.length<=140737488351232):AP Tryz.prog 189 [.agg (itC k n b l)] (.bool (Zdt k n b l)) []:=by
 have e1:=Zp0 (f:=E.byte) b
 have e2:=Zpm l
 have e3:=n0 n
 have hv:=ZiF b hb
 by_cases k0:k=0
 ·subst k0
  cases hbe:b.isEmpty<;>cases hle:l.isEmpty
  all_goals
   rw[hbe]at e1
   rw[hle]at e2
   have e:Zdt 0 n b l=(b.isEmpty&&l.isEmpty):=rfl
   rw[e,hbe,hle]
   refine AP.ofA ?_
   refine Zan Tryz.func189 rfl Tryz.ntmps189 rfl rfl ?_
   repeat'(first|rw[e1]|rw[e2]|(apply Zai Zab;exact Z)|(apply Zah Zab;exact Z)|(apply Zae;(iterate 3 exact Z);exact Go.Zqy)|(apply Zau;(iterate 3 exact Z);exact Go.Zqy)|(apply Zaj;exact Z;exact Go.Zqy;exact Z;exact Z)|(apply Zag;exact Z;exact Go.Zqy;exact Z;exact Z)|(apply Zac;exact Z;exact Go.Zqy)|(apply Zao Zab;(iterate 4 exact Z)))
   all_goals(apply Zaz [];(apply Zad Zab;exact Z);(iterate 4 exact Z))
   all_goals rfl
 by_cases k2:k=2
 ·subst k2
  cases hbe:decide (n=0)<;>cases hle:l.isEmpty
  all_goals
   rw[hbe]at e3
   rw[hle]at e2
   have e:Zdt 2 n b l=(decide (n=0)&&l.isEmpty):=rfl
   rw[e,hbe,hle]
   refine AP.ofA ?_
   refine Zan Tryz.func189 rfl Tryz.ntmps189 rfl rfl ?_
   repeat'(first|rw[e2]|rw[e3]|(apply Zai Zab;exact Z)|(apply Zah Zab;exact Z)|(apply Zae;(iterate 3 exact Z);exact Go.Zqy)|(apply Zau;(iterate 3 exact Z);exact Go.Zqy)|(apply Zaj;exact Z;exact Go.Zqy;exact Z;exact Z)|(apply Zag;exact Z;exact Go.Zqy;exact Z;exact Z)|(apply Zac;exact Z;exact Go.Zqy)|(apply Zaf;exact Z;exact Go.Zqy)|(apply Zao Zab;(iterate 4 exact Z)))
   all_goals(apply Zaz [];(apply Zad Zab;exact Z);(iterate 4 exact Z))
   all_goals rfl
 by_cases k3:k=3
 ·subst k3
  cases hbe:decide (n=0)<;>cases hle:l.isEmpty
  all_goals
   rw[hbe]at e3
   rw[hle]at e2
   have e:Zdt 3 n b l=(decide (n=0)&&(l.isEmpty&&ZaF b)):=rfl
   rw[e,hbe,hle]
   refine AP.ofA ?_
   refine Zan Tryz.func189 rfl Tryz.ntmps189 rfl rfl ?_
   repeat'(first|rw[e2]|rw[e3]|(apply Zaa (hv);kernel_rfl;(iterate 4 exact Z))|(apply Zai Zab;exact Z)|(apply Zah Zab;exact Z)|(apply Zae;(iterate 3 exact Z);exact Go.Zqy)|(apply Zau;(iterate 3 exact Z);exact Go.Zqy)|(apply Zaj;exact Z;exact Go.Zqy;exact Z;exact Z)|(apply Zag;exact Z;exact Go.Zqy;exact Z;exact Z)|(apply Zac;exact Z;exact Go.Zqy)|(apply Zaf;exact Z;exact Go.Zqy)|(apply Zao Zab;(iterate 4 exact Z)))
   all_goals(apply Zaz [];(apply Zad Zab;exact Z);(iterate 4 exact Z))
   all_goals rfl
 by_cases k4:k=4
 ·subst k4
  cases hbe:decide (n=0)<;>cases hle:b.isEmpty
  all_goals
   rw[hbe]at e3
   rw[hle]at e1
   have e:Zdt 4 n b l=(decide (n=0)&&b.isEmpty):=rfl
   rw[e,hbe,hle]
   refine AP.ofA ?_
   refine Zan Tryz.func189 rfl Tryz.ntmps189 rfl rfl ?_
   repeat'(first|rw[e1]|rw[e3]|(apply Zai Zab;exact Z)|(apply Zah Zab;exact Z)|(apply Zae;(iterate 3 exact Z);exact Go.Zqy)|(apply Zau;(iterate 3 exact Z);exact Go.Zqy)|(apply Zaj;exact Z;exact Go.Zqy;exact Z;exact Z)|(apply Zag;exact Z;exact Go.Zqy;exact Z;exact Z)|(apply Zac;exact Z;exact Go.Zqy)|(apply Zaf;exact Z;exact Go.Zqy)|(apply Zao Zab;(iterate 4 exact Z)))
   all_goals(apply Zaz [];(apply Zad Zab;exact Z);(iterate 4 exact Z))
   all_goals rfl
 ·have t0:(k==0)=false:=by simpa using k0
  have t2:(k==2)=false:=by simpa using k2
  have t3:(k==3)=false:=by simpa using k3
  have t4:(k==4)=false:=by simpa using k4
  have e:Zdt k n b l=false:=by simp[Zdt,k0,k2,k3,k4]
  rw[e]
  refine AP.ofA ?_
  refine Zan Tryz.func189 rfl Tryz.ntmps189 rfl rfl ?_
  repeat'(first|(apply Zah Zab;exact Z)|(apply Zaf;exact Z;exact Go.Zqy))
  all_goals(apply Zaz [];(apply Zad Zab;exact Z);(iterate 4 exact Z))
  all_goals rfl
def wkN:Option Nat->Int
 | some m=>(m:Int)
 | none => -1
theorem Znj [Known][KnownU8]:∀(x:It),wfI x->∀ d m:Nat,d<=7->m<=256->AP Tryz.prog 166 [itD x,.int .i64 (d:Int),.int .i64 (m:Int)] (.int .i64 (wkN (Zb2 x d m))) []:=by
 refine It.ind fun k n b l ih hw d m hd hm=>?_
 obtain⟨hn,hb,hl,hws⟩:=hw
 have hown:=ZoA k n b l hb
 have hlen:=Zas l
 show AP Tryz.prog _ [.agg (itC k n b l),_,_] _ _
 rw[Zb2]
 have em:1<=m->IntKind.i64.wrap ((m:Int)-1)=((m-1:Nat):Int):=fun h=>by rw[IntWalk.i64_in _ (by omega)];omega
 have ed:IntKind.i64.wrap ((d:Int)+1)=((d+1:Nat):Int):=by rw[IntWalk.i64_in _ (by omega)];omega
 by_cases hd6:6<d
 ·rw[if_pos hd6]
  have t1:decide ((d:Int)>6)=true:=by simp;omega
  refine AP.ofA ?_
  refine Zan Tryz.func166 rfl Tryz.ntmps166 rfl rfl ?_
  repeat'(first|(apply Zai Zab;exact Z)|(apply Zah Zab;exact Z)|(apply Zaw Zab;exact Z)|(apply Zal;(iterate 3 exact Z);exact Go.Zqy)|(apply Zaj;exact Z;exact Go.Zqy;exact Z;exact Z)|(apply Zac;exact Z;exact Go.Zqy))
  all_goals(apply Zaz [];(apply Zad Zab;exact Z);(iterate 4 exact Z))
  all_goals rfl
 have t1:decide ((d:Int)>6)=false:=by simp;omega
 rw[if_neg hd6]
 by_cases hm1:m<1
 ·rw[if_pos hm1]
  have t2:decide ((m:Int)<1)=true:=by simp;omega
  refine AP.ofA ?_
  refine Zan Tryz.func166 rfl Tryz.ntmps166 rfl rfl ?_
  repeat'(first|(apply Zai Zab;exact Z)|(apply Zah Zab;exact Z)|(apply Zaw Zab;exact Z)|(apply Zae;(iterate 3 exact Z);exact Go.Zqy)|(apply Zal;(iterate 3 exact Z);exact Go.Zqy)|(apply Zaj;exact Z;exact Go.Zqy;exact Z;exact Z)|(apply Zag;exact Z;exact Go.Zqy;exact Z;exact Z)|(apply Zac;exact Z;exact Go.Zqy))
  all_goals(apply Zaz [];(apply Zad Zab;exact Z);(iterate 4 exact Z))
  all_goals rfl
 have t2:decide ((m:Int)<1)=false:=by simp;omega
 rw[if_neg hm1]
 have em:=em (by omega)
 cases ho:Zdt k n b l with
 | false=>
  rw[ho]at hown
  dsimp only
  refine AP.ofA ?_
  refine Zan Tryz.func166 rfl Tryz.ntmps166 rfl rfl ?_
  repeat'(first|(apply Zaa (hown);kernel_rfl;(iterate 4 exact Z))|(apply Zai Zab;exact Z)|(apply Zah Zab;exact Z)|(apply Zaw Zab;exact Z)|(apply Zae;(iterate 3 exact Z);exact Go.Zqy)|(apply Zag;exact Z;exact Go.Zqy;exact Z;exact Z)|(apply Zac;exact Z;exact Go.Zqy))
  all_goals(apply Zaz [];(apply Zad Zab;exact Z);(iterate 4 exact Z))
  all_goals rfl
 | true=>
  rw[ho]at hown
  dsimp only
  generalize hfin:ZbD l (d+1) (m-1)=fin
  refine AP.ofA ?_
  refine Zan Tryz.func166 rfl Tryz.ntmps166 rfl rfl ?_
  repeat'(first|rw[em]|(apply Zaa (hown);kernel_rfl;(iterate 4 exact Z))|(apply Zai Zab;exact Z)|(apply Zah Zab;exact Z)|(apply Zaw Zab;exact Z)|(apply Zae;(iterate 3 exact Z);exact Go.Zqy)|(apply Zag;exact Z;exact Go.Zqy;exact Z;exact Z)|(apply Zaf;exact Z;exact Go.Zqy)|(apply Zao Zab;(iterate 4 exact Z)))
  refine ZaG (fun f tm bx fr=>∃ i m':Nat,f+i=l.length/\m'<=256/\ZbD (l.drop i) (d+1) m'=fin/\tm=[(1,.int .i64 (d:Int)),(2,.int .i64 (m':Int)),(23,.sl .ext (ZaC l)),(24,.int .i64 ((ZaC l).length:Int)),(25,.int .i64 (i:Int)),(6,.int .i64 0)]/\bx=[itC k n b l]/\fr=[]) (l.length+1) (Lands.mk' (m:=l.length) (Nat.lt_succ_self _) ⟨0,m-1,rfl,by omega,hfin,rfl,rfl,rfl⟩ ?_ rfl rfl rfl rfl rfl rfl) ?_
  ·exact .cons rfl (.cons rfl (.cons rfl (.cons rfl (.cons rfl (.cons rfl .nil)))))
  rintro f tm bx fr ⟨i,m',hf,hm',hfin,rfl,rfl,rfl⟩
  have hU:=Zcd l
  rcases Nat.lt_or_ge i l.length with hlt|hge
  ·have hdl:decide ((i:Int)<((ZaC l).length:Int))=true:=decide_eq_true (by omega)
   obtain⟨⟨k1,n1,b1,l1⟩,hy⟩:∃ y,l[i]?=some y:=⟨_,List.getElem?_eq_getElem hlt⟩
   have hv:(ZaC l)[((i:Nat):Int).toNat]?=some (.agg [.int .i64 k1,.int .u64 (n1:Int),.sl (b1.map E.byte),.sl (ZaC l1)]):=by
    rw[Int.toNat_natCast,ZaL,List.getElem?_map,hy];rfl
   have hmem:=List.mem_of_getElem? hy
   have hc:=ih _ hmem (Za7 hws _ hmem) (d+1) m' (by omega) hm'
   have hdr:l.drop i=It.mk k1 n1 b1 l1::l.drop (i+1):=by
    rw[List.drop_eq_getElem_cons hlt];congr 1
    have:=(List.getElem?_eq_some_iff.1 hy).2;exact this
   rw[hdr,ZbD]at hfin
   have ei:IntKind.i64.wrap ((i:Int)+1)=((i+1:Nat):Int):=by rw[IntWalk.i64_in _ (by omega)];omega
   cases hwk:Zb2 (.mk k1 n1 b1 l1) (d+1) m' with
   | none=>
    rw[hwk]at hfin hc
    subst hfin
    repeat'(first|rw[ed]|(apply Zaa (hc);kernel_rfl;(iterate 4 exact Z))|(apply Zai Zab;exact Z)|(apply Zah Zab;exact Z)|(apply Zac;exact Z;exact Go.Zqy)|(apply Zav Zab;(iterate 6 exact Z);(first|exact Go.Zqy|rotate_left);(first|with_reducible assumption|decide +kernel|exact Z);(first|exact Zak rfl|with_reducible assumption|decide +kernel|rotate_left)))
    all_goals(apply Zaz [];(apply Zad Zab;exact Z);(iterate 4 exact Z))
    all_goals rfl
   | some r=>
    rw[hwk]at hfin hc
    simp only[wkN]at hc
    have hlt2:=ZcI hwk
    have tr:decide ((r:Int)<0)=false:=by simp
    repeat'(first|rw[ed]|rw[ei]|(apply Zaa (hc);kernel_rfl;(iterate 4 exact Z))|(apply Zai Zab;exact Z)|(apply Zah Zab;exact Z)|(apply Zac;exact Z;exact Go.Zqy)|(apply Zaf;exact Z;exact Go.Zqy)|(apply Zav Zab;(iterate 6 exact Z);(first|exact Go.Zqy|rotate_left);(first|with_reducible assumption|decide +kernel|exact Z);(first|exact Zak rfl|with_reducible assumption|decide +kernel|rotate_left)))
    refine Lands.mk' (m:=f-1) (by omega) ⟨i+1,r,by omega,by omega,hfin,rfl,rfl,rfl⟩ ?_ rfl rfl rfl rfl rfl rfl
    exact .cons rfl (.cons rfl (.cons rfl (.cons rfl (.cons rfl (.cons rfl .nil)))))
  ·have hdl:decide ((i:Int)<((ZaC l).length:Int))=false:=decide_eq_false (by omega)
   have hdr:l.drop i=[]:=List.drop_eq_nil_of_le hge
   rw[hdr,ZbD]at hfin
   subst hfin
   repeat'(first|(apply Zah Zab;exact Z)|(apply Zaf;exact Z;exact Go.Zqy))
   all_goals(apply Zaz [];(apply Zad Zab;exact Z);(iterate 4 exact Z))
   all_goals rfl
theorem Zb5 [Known][KnownU8](x:It)(hw:wfI x):AP Tryz.prog 138 [itD x] (.bool (ZaM x)) []:=by
 have hk:=Znj x hw 1 256 (by omega) (by omega)
 have e:decide (wkN (Zb2 x 1 256) ≥ 0)=ZaM x:=by
  unfold ZaM
  cases Zb2 x 1 256<;>simp[wkN]
 obtain⟨k,n,b,l⟩:=x
 refine AP.ofA ?_
 refine Zan Tryz.func138 rfl Tryz.ntmps138 rfl rfl ?_
 repeat'(first|rw[e]|(apply Zaa (hk);kernel_rfl;(iterate 4 exact Z))|(apply Zai Zab;exact Z)|(apply Zah Zab;exact Z))
 all_goals(apply Zaz [];(apply Zad Zab;exact Z);(iterate 4 exact Z))
 all_goals rfl
end Go.Proofs.YtakblclkflnnpaaGreatDoor
end
section
open Go.RowKit Go.Pl Go.Av
namespace Go.Proofs.YtakblclkflnnpaaGreatDoor
set_option maxHeartbeats 4000000
mutual
def ZbE:It->Nat->Int->Int
 | .mk k n b l,d,m=>if 9<d then -1 else if 3000<b.length then -1 else Zb6 l (d+1) (m-1)
def Zb6:List It->Nat->Int->Int
 | [],_,m=>m
 | x::l,d,m=>if m<0 then m else Zb6 l d (ZbE x d m)
end
mutual
theorem Zd0:∀(x:It) (d:Nat) (m:Int),0<=m->ZbE x d m<m /\ -1<=ZbE x d m
 | .mk k n b l,d,m,h=>by
  rw[ZbE]
  split
  ·omega
  ·split
   ·omega
   ·have:=Zd1 l (d+1) (m-1) (by omega);omega
theorem Zd1:∀(l:List It) (d:Nat) (m:Int),-1<=m->Zb6 l d m<=m /\ -1<=Zb6 l d m
 | [],_,m,h=>by rw[Zb6];omega
 | x::l,d,m,h=>by
  rw[Zb6]
  split
  ·omega
  ·have h1:=Zd0 x d m (by omega)
   have h2:=Zd1 l d (ZbE x d m) (by omega)
   omega
end
mutual
def nI:It->Prop
 | .mk _ n _ l=>n<18446744073709551616/\nIs l
def nIs:List It->Prop
 | []=>True
 | x::l=>nI x/\nIs l
end
mutual
def Zdu:It->Nat->Bool
 | .mk _ _ _ l,d=>match d with
  | 0=>false
  | d+1=>Zdg l d
def Zdg:List It->Nat->Bool
 | [],_=>true
 | x::l,d=>Zdu x d&&Zdg l d
end
mutual
theorem ZeS:∀(x:It) (d:Nat) (m:Int),m<=400->0<=ZbE x d m->nI x->wfI x/\(Za6 x).length<=3009*(m-ZbE x d m)/\m-ZbE x d m ≥ 1/\Zdu x (10-d)=true
 | .mk k n b l,d,m,hm,h,hn=>by
  rw[ZbE]at h ⊢
  split at h
  ·omega
  split at h
  ·omega
  rename_i h1 h2
  rw[if_neg h1,if_neg h2]
  obtain⟨q1,q2,q3,q4⟩:=Zha l (d+1) (m-1) (by omega) h hn.2
  refine⟨⟨hn.1,by omega,by omega,q1⟩,?_,by omega,?_⟩
  ·rw[Za6]
   have hw:(if ZaX (k,(It.mk k n b l).hn,false) then ZaO (k,(It.mk k n b l).hn,false) else []).length<=9:=by
    split
    ·rename_i hr;rw[Zbs _ hr];exact ZlK _
    ·exact Nat.zero_le _
   rw[List.length_append,List.length_append]
   omega
  ·obtain⟨e,he⟩:∃ e,10-d=e+1:=⟨9-d,by omega⟩
   rw[he,Zdu]
   rw[show 10-(d+1)=e by omega]at q4
   exact q4
theorem Zha:∀(l:List It) (d:Nat) (m:Int),m<=400->0<=Zb6 l d m->nIs l->wfs l/\(Zbd l).length<=3009*(m-Zb6 l d m)/\m-Zb6 l d m ≥ l.length/\Zdg l (10-d)=true
 | [],_,m,_,h,hn=>by simp[wfs,Zbd,Zb6,Zdg]
 | x::l,d,m,hm,h,hn=>by
  rw[Zb6]at h ⊢
  split at h
  ·omega
  rename_i h1
  rw[if_neg h1]
  have h0:0<=ZbE x d m:=by
   rcases Int.lt_or_le (ZbE x d m) 0 with hlt|hge
   ·have:=Zd1 l d (ZbE x d m) (by have:=Zd0 x d m (by omega);omega);omega
   ·exact hge
  obtain⟨q1,q2,q3,q4⟩:=ZeS x d m hm h0 hn.1
  obtain⟨r1,r2,r3,r4⟩:=Zha l d _ (by have:=Zd0 x d m (by omega);omega) h hn.2
  refine⟨⟨q1,r1⟩,?_,?_,?_⟩
  ·rw[Zbd,List.length_append];omega
  ·rw[List.length_cons];omega
  ·rw[Zdg,q4,r4];rfl
end
end Go.Proofs.YtakblclkflnnpaaGreatDoor
end
section
open Go.RowKit Go.Pl Go.Av
namespace Go.Proofs.YtakblclkflnnpaaGreatDoor
mutual
def ZdB:It->Nat
 | .mk _ _ _ l=>1+Zdh l
def Zdh:List It->Nat
 | []=>0
 | x::l=>ZdB x+Zdh l
end
mutual
def ZdC:It->Bool
 | .mk k n b l=>Zdt k n b l&&Zgj l
def Zgj:List It->Bool
 | []=>true
 | x::l=>ZdC x&&Zgj l
end
mutual
theorem ZiR:∀(x:It) (d m:Nat),Zb2 x d m=if Zdu x (7-d)=true/\ZdB x<=m/\ZdC x=true then some (m-ZdB x) else none
 | .mk k n b l,d,m=>by
  rw[Zb2]
  split
  ·rename_i h
   rw[if_neg]
   rintro⟨h1,_⟩
   rw[show 7-d=0 by omega,Zdu]at h1
   cases h1
  rename_i hd
  rw[show 7-d=(7-(d+1))+1 by omega,Zdu,ZdB,ZdC]
  split
  ·rename_i h
   rw[if_neg]
   rintro⟨_,h1,_⟩
   omega
  rename_i hm
  cases ho:Zdt k n b l with
  | false=>
   dsimp only
   rw[if_neg]
   rintro⟨_,_,h1⟩
   simp at h1
  | true=>
   dsimp only
   rw[Zhb l (d+1) (m-1),Bool.true_and]
   by_cases h:Zdg l (7-(d+1))=true/\Zdh l<=m-1/\Zgj l=true
   ·rw[if_pos h,if_pos ⟨h.1,by omega,h.2.2⟩]
    congr 1;omega
   ·rw[if_neg h,if_neg]
    exact fun⟨a,b,c⟩=>h ⟨a,by omega,c⟩
theorem Zhb:∀(l:List It) (d m:Nat),ZbD l d m=if Zdg l (7-d)=true/\Zdh l<=m/\Zgj l=true then some (m-Zdh l) else none
 | [],d,m=>by rw[ZbD,if_pos ⟨by rw[Zdg],by rw[Zdh];omega,by rw[Zgj]⟩,Zdh];rfl
 | x::l,d,m=>by
  rw[ZbD,ZiR x d m,Zdg,Zdh,Zgj]
  by_cases h:Zdu x (7-d)=true/\ZdB x<=m/\ZdC x=true
  ·rw[if_pos h]
   dsimp only
   rw[Zhb l d (m-ZdB x),h.1,h.2.2,Bool.true_and,Bool.true_and]
   by_cases h2:Zdg l (7-d)=true/\Zdh l<=m-ZdB x/\Zgj l=true
   ·rw[if_pos h2,if_pos ⟨h2.1,by omega,h2.2.2⟩]
    congr 1;omega
   ·rw[if_neg h2,if_neg]
    exact fun⟨a,b,c⟩=>h2 ⟨a,by omega,c⟩
  ·rw[if_neg h]
   dsimp only
   rw[if_neg]
   rintro⟨a,b,c⟩
   rw[Bool.and_eq_true]at a c
   exact h ⟨a.1,by omega,c.1⟩
end
theorem Zhc (x:It):ZaM x=(Zdu x 6&&(decide (ZdB x<=256)&&ZdC x)):=by
 unfold ZaM
 rw[ZiR]
 split
 ·rename_i h
  obtain⟨a,b,c⟩:=h
  rw[show 7-1=6 from rfl]at a
  simp[a,b,c]
 ·rename_i h
  rw[show 7-1=6 from rfl]at h
  show false=_
  cases h2:(Zdu x 6&&(decide (ZdB x<=256)&&ZdC x)) with
  | false=>rfl
  | true=>
   simp only[Bool.and_eq_true,decide_eq_true_eq]at h2
   exact absurd ⟨h2.1,h2.2.1,h2.2.2⟩ h
mutual
theorem Zjr:∀(x:It) (d e:Nat),Zdu x d=true->d<=e->Zdu x e=true
 | .mk k n b l,0,e,h,_=>by rw[Zdu]at h;cases h
 | .mk k n b l,d+1,0,h,hle=>by omega
 | .mk k n b l,d+1,e+1,h,hle=>by
  rw[Zdu]at h ⊢
  exact Zf0 l d e h (by omega)
theorem Zf0:∀(l:List It) (d e:Nat),Zdg l d=true->d<=e->Zdg l e=true
 | [],_,_,_,_=>by rw[Zdg]
 | x::l,d,e,h,hle=>by
  rw[Zdg,Bool.and_eq_true]at h ⊢
  exact⟨Zjr x d e h.1 hle,Zf0 l d e h.2 hle⟩
end
mutual
theorem Zjs:∀(x:It) (d:Nat) (m:Int),0<=ZbE x d m->(ZdB x:Int)=m-ZbE x d m
 | .mk k n b l,d,m,h=>by
  rw[ZbE]at h ⊢
  split at h
  ·omega
  split at h
  ·omega
  rename_i h1 h2
  rw[if_neg h1,if_neg h2,ZdB]
  have:=Zfn l (d+1) (m-1) h
  omega
theorem Zfn:∀(l:List It) (d:Nat) (m:Int),0<=Zb6 l d m->(Zdh l:Int)=m-Zb6 l d m
 | [],d,m,h=>by rw[Zb6,Zdh];omega
 | x::l,d,m,h=>by
  rw[Zb6]at h ⊢
  split at h
  ·omega
  rename_i h1
  rw[if_neg h1,Zdh]
  have h0:0<=ZbE x d m:=by
   rcases Int.lt_or_le (ZbE x d m) 0 with hlt|hge
   ·have:=Zd1 l d (ZbE x d m) (by have:=Zd0 x d m (by omega);omega);omega
   ·exact hge
  have a:=Zjs x d m h0
  have b:=Zfn l d _ h
  omega
end
end Go.Proofs.YtakblclkflnnpaaGreatDoor
end
