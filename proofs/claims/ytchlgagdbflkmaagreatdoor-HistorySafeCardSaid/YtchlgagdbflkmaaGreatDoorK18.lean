/- unicode/utf8.Valid: the rounds. -/
import Derived.Test.YtchlgagdbflkmaaGreatDoorK17
import Derived.Test.YtchlgagdbflkmaaGreatDoorK15
import Derived.Test.YtchlgagdbflkmaaGreatDoorK11
import Derived.Scope
set_option linter.unusedVariables false
set_option linter.unusedSimpArgs false
section
open Go.RowKit Go.Pl Go.Av
namespace Go.Proofs.YtchlgagdbflkmaaGreatDoor
set_option maxHeartbeats 4000000
set_option maxRecDepth 10000 in
theorem B2 [Known][KnownU8](b:List UInt8)(hb:b.length<=140737488351232)(K:St->Prop)(k:Nat)(c:UInt8)(r:List UInt8)(hk:k=r.length+1)(hv:ZI (c::r)=ZI b)(hc:¬ c.toNat<128)(i lo hi:Nat)(e7:bits .and .u8 (fT c.toNat:Int) 7=((4:Nat):Int))(e4:((fT c.toNat:Nat):Int).fdiv (2 ^ min (Int.toNat 4) IntKind.u8.bits)=(i:Int))(hi16:i<16)
  (hvs:(((List.range 16).flatMap aT).drop (0+((i:Nat):Int).toNat*2)).take 2=[.int .u8 (lo:Int),.int .u8 (hi:Int)]) (hp:ptN c.toNat=4) (hlo:lo=Y9 c.toNat) (hhi:hi=Wa c.toNat):AW Tryz.prog (W5 (Tryz.f269.body.getD .skip)) (vS (c::r)) (vQ b (ZI b) k K):=by
 conv=>enter [3];whnf
 subst hlo hhi
 have hU:=Y7 (c::r)
 have hlen:decide ((((c::r).map E.byte).length:Int)>0)=true:=by simp
 have dc:decide ((c.toNat:Int)<128)=false:=by simp;omega
 have hlt:((c.toNat:Nat):Int).toNat<256:=by rw[Int.toNat_natCast];exact c.toNat_lt
 have hlt2:((i:Nat):Int).toNat<16:=by rw[Int.toNat_natCast];exact hi16
 have hfa:=Jz c
 have hks:=KnownU8.first
 have hka:=KnownU8.accept
 have htf:=QI
 have hta:=UM
 cases r with
 | nil=>
  have hl:decide (((([c]:List UInt8).map E.byte).length:Int)<4)=true:=rfl
  rw[<- hv,v4s hp [] (by simp)]
  repeat'(first|rw[e7]|rw[e4]|(apply Yu Za;(iterate 6 exact Z);exact Int.natCast_nonneg _;assumption)|(apply Z4 Za;(iterate 3 exact Z);assumption;assumption;assumption;exact Z;exact Z)|(apply Z5 Za;(iterate 3 exact Z);assumption;assumption;assumption;(iterate 3 exact Z))|(apply Zg Za;exact Z)|(apply Zh Za;exact Z)|(apply Zs Za;exact Z)|refine Zo Z Z Z Qt ?_|refine Zj Z Qt Z Z ?_|refine Ze Z Qt ?_|refine Zf Z Qt ?_|refine Zn Za Z Z Z Z ?_|(apply ZW 17 ZG;decide +kernel;kernel_rfl;kernel_rfl;exact Z;exact Z)|(apply Yb;(iterate 3 exact Z))|refine AD.nil _|exact Yv rfl|(apply Zw Za;(iterate 6 exact Z);(first|exact Qt|rotate_left);(first|with_reducible assumption|decide +kernel|exact Z);(first|exact Zk rfl|with_reducible assumption|decide +kernel|rotate_left))|(apply Yy;exact Z;exact Z;(first|exact Qt|rotate_left);exact Z))
  all_goals exact Qe
 | cons c1 r=>
  cases r with
  | nil=>
   have hl:decide (((([c,c1]:List UInt8).map E.byte).length:Int)<4)=true:=rfl
   rw[<- hv,v4s hp [c1] (by simp)]
   repeat'(first|rw[e7]|rw[e4]|(apply Yu Za;(iterate 6 exact Z);exact Int.natCast_nonneg _;assumption)|(apply Z4 Za;(iterate 3 exact Z);assumption;assumption;assumption;exact Z;exact Z)|(apply Z5 Za;(iterate 3 exact Z);assumption;assumption;assumption;(iterate 3 exact Z))|(apply Zg Za;exact Z)|(apply Zh Za;exact Z)|(apply Zs Za;exact Z)|refine Zo Z Z Z Qt ?_|refine Zj Z Qt Z Z ?_|refine Ze Z Qt ?_|refine Zf Z Qt ?_|refine Zn Za Z Z Z Z ?_|(apply ZW 17 ZG;decide +kernel;kernel_rfl;kernel_rfl;exact Z;exact Z)|(apply Yb;(iterate 3 exact Z))|refine AD.nil _|exact Yv rfl|(apply Zw Za;(iterate 6 exact Z);(first|exact Qt|rotate_left);(first|with_reducible assumption|decide +kernel|exact Z);(first|exact Zk rfl|with_reducible assumption|decide +kernel|rotate_left))|(apply Yy;exact Z;exact Z;(first|exact Qt|rotate_left);exact Z))
   all_goals exact Qe
  | cons c2 r=>
   cases r with
   | nil=>
    have hl:decide (((([c,c1,c2]:List UInt8).map E.byte).length:Int)<4)=true:=rfl
    rw[<- hv,v4s hp [c1,c2] (by simp)]
    repeat'(first|rw[e7]|rw[e4]|(apply Yu Za;(iterate 6 exact Z);exact Int.natCast_nonneg _;assumption)|(apply Z4 Za;(iterate 3 exact Z);assumption;assumption;assumption;exact Z;exact Z)|(apply Z5 Za;(iterate 3 exact Z);assumption;assumption;assumption;(iterate 3 exact Z))|(apply Zg Za;exact Z)|(apply Zh Za;exact Z)|(apply Zs Za;exact Z)|refine Zo Z Z Z Qt ?_|refine Zj Z Qt Z Z ?_|refine Ze Z Qt ?_|refine Zf Z Qt ?_|refine Zn Za Z Z Z Z ?_|(apply ZW 17 ZG;decide +kernel;kernel_rfl;kernel_rfl;exact Z;exact Z)|(apply Yb;(iterate 3 exact Z))|refine AD.nil _|exact Yv rfl|(apply Zw Za;(iterate 6 exact Z);(first|exact Qt|rotate_left);(first|with_reducible assumption|decide +kernel|exact Z);(first|exact Zk rfl|with_reducible assumption|decide +kernel|rotate_left))|(apply Yy;exact Z;exact Z;(first|exact Qt|rotate_left);exact Z))
    all_goals exact Qe
   | cons c3 r=>
    have hl:decide ((((c::c1::c2::c3::r).map E.byte).length:Int)<4)=false:=by simp;omega
    have xd:(c::c1::c2::c3::r).drop (Int.toNat 4)=r:=rfl
    rw[v4 hp]at hv
    cases b1:decide ((c1.toNat:Int)<(Y9 c.toNat:Int)) with
    | true=>
     have hf:ZI b=false:=by
      rw[<- hv]
      have:=of_decide_eq_true b1
      have q:inB c1.toNat (Y9 c.toNat) (Wa c.toNat)=false:=by simp[inB];omega
      rw[q];simp
     rw[hf]
     repeat'(first|rw[e7]|rw[e4]|(apply Yu Za;(iterate 6 exact Z);exact Int.natCast_nonneg _;assumption)|(apply Z4 Za;(iterate 3 exact Z);assumption;assumption;assumption;exact Z;exact Z)|(apply Z5 Za;(iterate 3 exact Z);assumption;assumption;assumption;(iterate 3 exact Z))|(apply Zg Za;exact Z)|(apply Zh Za;exact Z)|(apply Zs Za;exact Z)|refine Zd Z Z Z Qt ?_|refine Zo Z Z Z Qt ?_|refine Zj Z Qt Z Z ?_|refine Zi Z Qt Z Z ?_|refine Ze Z Qt ?_|refine Zf Z Qt ?_|refine Zn Za Z Z Z Z ?_|(apply ZW 17 ZG;decide +kernel;kernel_rfl;kernel_rfl;exact Z;exact Z)|(apply Yb;(iterate 3 exact Z))|refine AD.nil _|exact Yv rfl|(apply Zw Za;(iterate 6 exact Z);(first|exact Qt|rotate_left);(first|with_reducible assumption|decide +kernel|exact Z);(first|exact Zk rfl|with_reducible assumption|decide +kernel|rotate_left))|(apply Yy;exact Z;exact Z;(first|exact Qt|rotate_left);exact Z))
     all_goals exact Qe
    | false=>
     cases b2:decide ((Wa c.toNat:Int)<(c1.toNat:Int)) with
     | true=>
      have hf:ZI b=false:=by
       rw[<- hv]
       have:=of_decide_eq_true b2
       have q:inB c1.toNat (Y9 c.toNat) (Wa c.toNat)=false:=by simp[inB];omega
       rw[q];simp
      rw[hf]
      repeat'(first|rw[e7]|rw[e4]|(apply Yu Za;(iterate 6 exact Z);exact Int.natCast_nonneg _;assumption)|(apply Z4 Za;(iterate 3 exact Z);assumption;assumption;assumption;exact Z;exact Z)|(apply Z5 Za;(iterate 3 exact Z);assumption;assumption;assumption;(iterate 3 exact Z))|(apply Zg Za;exact Z)|(apply Zh Za;exact Z)|(apply Zs Za;exact Z)|refine Zd Z Z Z Qt ?_|refine Zo Z Z Z Qt ?_|refine Zj Z Qt Z Z ?_|refine Zi Z Qt Z Z ?_|refine Ze Z Qt ?_|refine Zf Z Qt ?_|refine Zn Za Z Z Z Z ?_|(apply ZW 17 ZG;decide +kernel;kernel_rfl;kernel_rfl;exact Z;exact Z)|(apply Yb;(iterate 3 exact Z))|refine AD.nil _|exact Yv rfl|(apply Zw Za;(iterate 6 exact Z);(first|exact Qt|rotate_left);(first|with_reducible assumption|decide +kernel|exact Z);(first|exact Zk rfl|with_reducible assumption|decide +kernel|rotate_left))|(apply Yy;exact Z;exact Z;(first|exact Qt|rotate_left);exact Z))
      all_goals exact Qe
     | false=>
      cases b3:decide ((c2.toNat:Int)<128) with
      | true=>
       have hf:ZI b=false:=by
        rw[<- hv]
        have:=of_decide_eq_true b3
        have q:inB c2.toNat 128 191=false:=by simp[inB];omega
        rw[q];simp
       rw[hf]
       repeat'(first|rw[e7]|rw[e4]|(apply Yu Za;(iterate 6 exact Z);exact Int.natCast_nonneg _;assumption)|(apply Z4 Za;(iterate 3 exact Z);assumption;assumption;assumption;exact Z;exact Z)|(apply Z5 Za;(iterate 3 exact Z);assumption;assumption;assumption;(iterate 3 exact Z))|(apply Zg Za;exact Z)|(apply Zh Za;exact Z)|(apply Zs Za;exact Z)|refine Zd Z Z Z Qt ?_|refine Zo Z Z Z Qt ?_|refine Zj Z Qt Z Z ?_|refine Zi Z Qt Z Z ?_|refine Ze Z Qt ?_|refine Zf Z Qt ?_|refine Zn Za Z Z Z Z ?_|(apply ZW 17 ZG;decide +kernel;kernel_rfl;kernel_rfl;exact Z;exact Z)|(apply Yb;(iterate 3 exact Z))|refine AD.nil _|exact Yv rfl|(apply Zw Za;(iterate 6 exact Z);(first|exact Qt|rotate_left);(first|with_reducible assumption|decide +kernel|exact Z);(first|exact Zk rfl|with_reducible assumption|decide +kernel|rotate_left))|(apply Yy;exact Z;exact Z;(first|exact Qt|rotate_left);exact Z))
       all_goals exact Qe
      | false=>
       cases b4:decide ((191:Int)<(c2.toNat:Int)) with
       | true=>
        have hf:ZI b=false:=by
         rw[<- hv]
         have:=of_decide_eq_true b4
         have q:inB c2.toNat 128 191=false:=by simp[inB];omega
         rw[q];simp
        rw[hf]
        repeat'(first|rw[e7]|rw[e4]|(apply Yu Za;(iterate 6 exact Z);exact Int.natCast_nonneg _;assumption)|(apply Z4 Za;(iterate 3 exact Z);assumption;assumption;assumption;exact Z;exact Z)|(apply Z5 Za;(iterate 3 exact Z);assumption;assumption;assumption;(iterate 3 exact Z))|(apply Zg Za;exact Z)|(apply Zh Za;exact Z)|(apply Zs Za;exact Z)|refine Zd Z Z Z Qt ?_|refine Zo Z Z Z Qt ?_|refine Zj Z Qt Z Z ?_|refine Zi Z Qt Z Z ?_|refine Ze Z Qt ?_|refine Zf Z Qt ?_|refine Zn Za Z Z Z Z ?_|(apply ZW 17 ZG;decide +kernel;kernel_rfl;kernel_rfl;exact Z;exact Z)|(apply Yb;(iterate 3 exact Z))|refine AD.nil _|exact Yv rfl|(apply Zw Za;(iterate 6 exact Z);(first|exact Qt|rotate_left);(first|with_reducible assumption|decide +kernel|exact Z);(first|exact Zk rfl|with_reducible assumption|decide +kernel|rotate_left))|(apply Yy;exact Z;exact Z;(first|exact Qt|rotate_left);exact Z))
        all_goals exact Qe
       | false=>
        cases b5:decide ((c3.toNat:Int)<128) with
        | true=>
         have hf:ZI b=false:=by
          rw[<- hv]
          have:=of_decide_eq_true b5
          have q:inB c3.toNat 128 191=false:=by simp[inB];omega
          rw[q];simp
         rw[hf]
         repeat'(first|rw[e7]|rw[e4]|(apply Yu Za;(iterate 6 exact Z);exact Int.natCast_nonneg _;assumption)|(apply Z4 Za;(iterate 3 exact Z);assumption;assumption;assumption;exact Z;exact Z)|(apply Z5 Za;(iterate 3 exact Z);assumption;assumption;assumption;(iterate 3 exact Z))|(apply Zg Za;exact Z)|(apply Zh Za;exact Z)|(apply Zs Za;exact Z)|refine Zd Z Z Z Qt ?_|refine Zo Z Z Z Qt ?_|refine Zj Z Qt Z Z ?_|refine Zi Z Qt Z Z ?_|refine Ze Z Qt ?_|refine Zf Z Qt ?_|refine Zn Za Z Z Z Z ?_|(apply ZW 17 ZG;decide +kernel;kernel_rfl;kernel_rfl;exact Z;exact Z)|(apply Yb;(iterate 3 exact Z))|refine AD.nil _|exact Yv rfl|(apply Zw Za;(iterate 6 exact Z);(first|exact Qt|rotate_left);(first|with_reducible assumption|decide +kernel|exact Z);(first|exact Zk rfl|with_reducible assumption|decide +kernel|rotate_left))|(apply Yy;exact Z;exact Z;(first|exact Qt|rotate_left);exact Z))
         all_goals exact Qe
        | false=>
         cases b6:decide ((191:Int)<(c3.toNat:Int)) with
         | true=>
          have hf:ZI b=false:=by
           rw[<- hv]
           have:=of_decide_eq_true b6
           have q:inB c3.toNat 128 191=false:=by simp[inB];omega
           rw[q];simp
          rw[hf]
          repeat'(first|rw[e7]|rw[e4]|(apply Yu Za;(iterate 6 exact Z);exact Int.natCast_nonneg _;assumption)|(apply Z4 Za;(iterate 3 exact Z);assumption;assumption;assumption;exact Z;exact Z)|(apply Z5 Za;(iterate 3 exact Z);assumption;assumption;assumption;(iterate 3 exact Z))|(apply Zg Za;exact Z)|(apply Zh Za;exact Z)|(apply Zs Za;exact Z)|refine Zd Z Z Z Qt ?_|refine Zi Z Qt Z Z ?_|refine Ze Z Qt ?_|refine Zf Z Qt ?_|refine Zn Za Z Z Z Z ?_|(apply ZW 17 ZG;decide +kernel;kernel_rfl;kernel_rfl;exact Z;exact Z)|(apply Yb;(iterate 3 exact Z))|refine AD.nil _|exact Yv rfl|(apply Zw Za;(iterate 6 exact Z);(first|exact Qt|rotate_left);(first|with_reducible assumption|decide +kernel|exact Z);(first|exact Zk rfl|with_reducible assumption|decide +kernel|rotate_left))|(apply Yy;exact Z;exact Z;(first|exact Qt|rotate_left);exact Z))
          all_goals exact Qe
         | false=>
          have hv2:ZI r=ZI b:=by
           rw[<- hv]
           have:=of_decide_eq_false b1
           have:=of_decide_eq_false b2
           have:=of_decide_eq_false b3
           have:=of_decide_eq_false b4
           have:=of_decide_eq_false b5
           have:=of_decide_eq_false b6
           have q1:inB c1.toNat (Y9 c.toNat) (Wa c.toNat)=true:=by simp[inB];omega
           have q2:inB c2.toNat 128 191=true:=by simp[inB];omega
           have q3:inB c3.toNat 128 191=true:=by simp[inB];omega
           rw[q1,q2,q3];rfl
          repeat'(first|rw[e7]|rw[e4]|(apply Yu Za;(iterate 6 exact Z);exact Int.natCast_nonneg _;assumption)|(apply Z4 Za;(iterate 3 exact Z);assumption;assumption;assumption;exact Z;exact Z)|(apply Z5 Za;(iterate 3 exact Z);assumption;assumption;assumption;(iterate 3 exact Z))|(apply Vp Za;(iterate 8 exact Z);exact Qb;(first|with_reducible assumption|decide|(simp only[List.length_cons,List.length_drop,List.length_take,List.length_append,Int.toNat_natCast]at *;omega));(first|with_reducible assumption|exact Z))|(apply Zg Za;exact Z)|(apply Zh Za;exact Z)|(apply Zs Za;exact Z)|refine Zd Z Z Z Qt ?_|refine Zi Z Qt Z Z ?_|refine Ze Z Qt ?_|refine Zf Z Qt ?_|refine Zn Za Z Z Z Z ?_|(apply ZW 17 ZG;decide +kernel;kernel_rfl;kernel_rfl;exact Z;exact Z)|(apply Yb;(iterate 3 exact Z))|refine AD.nil _|exact Yv rfl|(apply Zw Za;(iterate 6 exact Z);(first|exact Qt|rotate_left);(first|with_reducible assumption|decide +kernel|exact Z);(first|exact Zk rfl|with_reducible assumption|decide +kernel|rotate_left))|(apply Yy;exact Z;exact Z;(first|exact Qt|rotate_left);exact Z))
          refine Lands.mk' (m:=r.length) (by simp only[List.length_cons]at hk;omega) ⟨r,rfl,hv2,rfl,rfl,rfl⟩ ?_ rfl rfl rfl rfl rfl rfl
          exact .cons rfl (.cons rfl .nil)
theorem IY [Known][KnownU8](b:List UInt8)(hb:b.length<=140737488351232):AP Tryz.prog 269 [byE b] (.bool (ZI b)) []:=by
 refine AP.ofA (Zl Tryz.func269 Z Tryz.ntmps269 Z Z ?_)
 repeat'(first|(apply NJ Za;(iterate 9 exact Z);(simp);(simp))|(apply Zg Za;exact Z)|(apply Zh Za;exact Z)|refine Zn Za Z Z Z Z ?_)
 refine Yf (vJ b) (b.length+1) (Lands.mk' (m:=b.length) (Nat.lt_succ_self _) ⟨b,rfl,rfl,rfl,rfl,rfl⟩ ?_ rfl rfl rfl rfl rfl rfl) ?_
 ·exact .cons rfl (.cons rfl .nil)
 rintro k tm bx fr ⟨l,hk,hv,rfl,rfl,rfl⟩
 cases l with
 | nil=>
  rw[<- hv]
  repeat'(first|(apply Zg Za;exact Z)|(apply Zh Za;exact Z)|(apply Zs Za;exact Z)|refine Zf Z Qt ?_|refine Zn Za Z Z Z Z ?_)
  all_goals exact Qe
 | cons c r=>
  have key:∀ K:St->Prop,AW Tryz.prog (W5 (Tryz.f269.body.getD .skip)) (vS (c::r)) (vQ b (ZI b) k K):=fun K=>by
   simp only[List.length_cons]at hk
   by_cases hc:c.toNat<128
   ·exact Bh b hb K k c r hk hv hc
   ·obtain⟨sz,i,lo,hi,e7,e4,hi16,hvs,hcls⟩:=cls c (by omega)
    rcases hcls with⟨rfl,hp⟩ | ⟨rfl|rfl|rfl,hp,hlo,hhi⟩
    ·exact BZ b hb K k c r hk hv hc i lo hi e7 e4 hi16 hvs hp
    ·exact B0 b hb K k c r hk hv hc i lo hi e7 e4 hi16 hvs hp hlo hhi
    ·exact B1 b hb K k c r hk hv hc i lo hi e7 e4 hi16 hvs hp hlo hhi
    ·exact B2 b hb K k c r hk hv hc i lo hi e7 e4 hi16 hvs hp hlo hhi
  exact key _
theorem B3 {α:Type}{f:α->E}(b:List α):(((b.map f).length:Int)==0)=b.isEmpty:=by cases b<;>simp<;>omega
theorem Bi (l:List It):(((Zu l).length:Int)==0)=l.isEmpty:=by rw[Zz];cases l<;>simp<;>omega
theorem n0 (n:Nat):((n:Int)==0)=decide (n=0):=by rw[Bool.eq_iff_iff];simp
theorem R9 [Known][KnownU8](k:Int)(n:Nat)(b:List UInt8)(l:List It)(hb:b.length<=140737488351232):AP Tryz.prog 270 [.agg (itC k n b l)] (.bool (VT k n b l)) []:=by
 have e1:=B3 (f:=E.byte) b
 have e2:=Bi l
 have e3:=n0 n
 have hv:=IY b hb
 by_cases k0:k=0
 ·subst k0
  cases hbe:b.isEmpty<;>cases hle:l.isEmpty
  all_goals
   rw[hbe]at e1
   rw[hle]at e2
   have e:VT 0 n b l=(b.isEmpty&&l.isEmpty):=rfl
   rw[e,hbe,hle]
   refine AP.ofA (Zl Tryz.func270 Z Tryz.ntmps270 Z Z ?_)
   repeat'(first|rw[e1]|rw[e2]|(apply Zg Za;exact Z)|(apply Zh Za;exact Z)|refine Zd Z Z Z Qt ?_|refine Zr Z Z Z Qt ?_|refine Zj Z Qt Z Z ?_|refine Zi Z Qt Z Z ?_|refine Ze Z Qt ?_|refine Zn Za Z Z Z Z ?_)
   all_goals exact Qe
 by_cases k2:k=2
 ·subst k2
  cases hbe:decide (n=0)<;>cases hle:l.isEmpty
  all_goals
   rw[hbe]at e3
   rw[hle]at e2
   have e:VT 2 n b l=(decide (n=0)&&l.isEmpty):=rfl
   rw[e,hbe,hle]
   refine AP.ofA (Zl Tryz.func270 Z Tryz.ntmps270 Z Z ?_)
   repeat'(first|rw[e2]|rw[e3]|(apply Zg Za;exact Z)|(apply Zh Za;exact Z)|refine Zd Z Z Z Qt ?_|refine Zr Z Z Z Qt ?_|refine Zj Z Qt Z Z ?_|refine Zi Z Qt Z Z ?_|refine Ze Z Qt ?_|refine Zf Z Qt ?_|refine Zn Za Z Z Z Z ?_)
   all_goals exact Qe
 by_cases k3:k=3
 ·subst k3
  cases hbe:decide (n=0)<;>cases hle:l.isEmpty
  all_goals
   rw[hbe]at e3
   rw[hle]at e2
   have e:VT 3 n b l=(decide (n=0)&&(l.isEmpty&&ZI b)):=rfl
   rw[e,hbe,hle]
   refine AP.ofA (Zl Tryz.func270 Z Tryz.ntmps270 Z Z ?_)
   repeat'(first|rw[e2]|rw[e3]|(apply Zb (hv);kernel_rfl;(iterate 4 exact Z))|(apply Zg Za;exact Z)|(apply Zh Za;exact Z)|refine Zd Z Z Z Qt ?_|refine Zr Z Z Z Qt ?_|refine Zj Z Qt Z Z ?_|refine Zi Z Qt Z Z ?_|refine Ze Z Qt ?_|refine Zf Z Qt ?_|refine Zn Za Z Z Z Z ?_)
   all_goals exact Qe
 by_cases k4:k=4
 ·subst k4
  cases hbe:decide (n=0)<;>cases hle:b.isEmpty
  all_goals
   rw[hbe]at e3
   rw[hle]at e1
   have e:VT 4 n b l=(decide (n=0)&&b.isEmpty):=rfl
   rw[e,hbe,hle]
   refine AP.ofA (Zl Tryz.func270 Z Tryz.ntmps270 Z Z ?_)
   repeat'(first|rw[e1]|rw[e3]|(apply Zg Za;exact Z)|(apply Zh Za;exact Z)|refine Zd Z Z Z Qt ?_|refine Zr Z Z Z Qt ?_|refine Zj Z Qt Z Z ?_|refine Zi Z Qt Z Z ?_|refine Ze Z Qt ?_|refine Zf Z Qt ?_|refine Zn Za Z Z Z Z ?_)
   all_goals exact Qe
 ·have t0:(k==0)=false:=by simpa using k0
  have t2:(k==2)=false:=by simpa using k2
  have t3:(k==3)=false:=by simpa using k3
  have t4:(k==4)=false:=by simpa using k4
  have e:VT k n b l=false:=by simp[VT,k0,k2,k3,k4]
  rw[e]
  refine AP.ofA (Zl Tryz.func270 Z Tryz.ntmps270 Z Z ?_)
  repeat'(first|(apply Zh Za;exact Z)|refine Zf Z Qt ?_)
  all_goals exact Qe
def wkN:Option Nat->Int
 | some m=>(m:Int)
 | none => -1
theorem Lr [Known][KnownU8]:∀(x:It),wfI x->∀ d m:Nat,d<=7->m<=256->AP Tryz.prog 244 [itD x,.int .i64 (d:Int),.int .i64 (m:Int)] (.int .i64 (wkN (Wi x d m))) []:=by
 refine It.ind fun k n b l ih hw d m hd hm=>?_
 obtain⟨hn,hb,hl,hws⟩:=hw
 have hown:=R9 k n b l hb
 have hlen:=Zz l
 show AP Tryz.prog _ [.agg (itC k n b l),_,_] _ _
 rw[Wi]
 have em:1<=m->IntKind.i64.wrap ((m:Int)-1)=((m-1:Nat):Int):=fun h=>by rw[IntWalk.i64_in _ (by omega)];omega
 have ed:IntKind.i64.wrap ((d:Int)+1)=((d+1:Nat):Int):=by rw[IntWalk.i64_in _ (by omega)];omega
 by_cases hd6:6<d
 ·rw[if_pos hd6]
  have t1:decide ((d:Int)>6)=true:=by simp;omega
  refine AP.ofA (Zl Tryz.func244 Z Tryz.ntmps244 Z Z ?_)
  repeat'(first|(apply Zg Za;exact Z)|(apply Zh Za;exact Z)|(apply Zs Za;exact Z)|refine Zo Z Z Z Qt ?_|refine Zj Z Qt Z Z ?_|refine Ze Z Qt ?_)
  all_goals exact Qe
 have t1:decide ((d:Int)>6)=false:=by simp;omega
 rw[if_neg hd6]
 by_cases hm1:m<1
 ·rw[if_pos hm1]
  have t2:decide ((m:Int)<1)=true:=by simp;omega
  refine AP.ofA (Zl Tryz.func244 Z Tryz.ntmps244 Z Z ?_)
  repeat'(first|(apply Zg Za;exact Z)|(apply Zh Za;exact Z)|(apply Zs Za;exact Z)|refine Zd Z Z Z Qt ?_|refine Zo Z Z Z Qt ?_|refine Zj Z Qt Z Z ?_|refine Zi Z Qt Z Z ?_|refine Ze Z Qt ?_)
  all_goals exact Qe
 have t2:decide ((m:Int)<1)=false:=by simp;omega
 rw[if_neg hm1]
 have em:=em (by omega)
 cases ho:VT k n b l with
 | false=>
  rw[ho]at hown
  dsimp only
  refine AP.ofA (Zl Tryz.func244 Z Tryz.ntmps244 Z Z ?_)
  repeat'(first|(apply Zb (hown);kernel_rfl;(iterate 4 exact Z))|(apply Zg Za;exact Z)|(apply Zh Za;exact Z)|(apply Zs Za;exact Z)|refine Zd Z Z Z Qt ?_|refine Zi Z Qt Z Z ?_|refine Ze Z Qt ?_)
  all_goals exact Qe
 | true=>
  rw[ho]at hown
  dsimp only
  generalize hfin:YC l (d+1) (m-1)=fin
  refine AP.ofA (Zl Tryz.func244 Z Tryz.ntmps244 Z Z ?_)
  repeat'(first|rw[em]|(apply Zb (hown);kernel_rfl;(iterate 4 exact Z))|(apply Zg Za;exact Z)|(apply Zh Za;exact Z)|(apply Zs Za;exact Z)|refine Zd Z Z Z Qt ?_|refine Zi Z Qt Z Z ?_|refine Zf Z Qt ?_|refine Zn Za Z Z Z Z ?_)
  refine Yf (fun f tm bx fr=>∃ i m':Nat,f+i=l.length/\m'<=256/\YC (l.drop i) (d+1) m'=fin/\tm=[(1,.int .i64 (d:Int)),(2,.int .i64 (m':Int)),(23,.sl .ext (Zu l)),(24,.int .i64 ((Zu l).length:Int)),(25,.int .i64 (i:Int)),(6,.int .i64 0)]/\bx=[itC k n b l]/\fr=[]) (l.length+1) (Lands.mk' (m:=l.length) (Nat.lt_succ_self _) ⟨0,m-1,rfl,by omega,hfin,rfl,rfl,rfl⟩ ?_ rfl rfl rfl rfl rfl rfl) ?_
  ·exact .cons rfl (.cons rfl (.cons rfl (.cons rfl (.cons rfl (.cons rfl .nil)))))
  rintro f tm bx fr ⟨i,m',hf,hm',hfin,rfl,rfl,rfl⟩
  have hU:=Y4 l
  rcases Nat.lt_or_ge i l.length with hlt|hge
  ·have hdl:decide ((i:Int)<((Zu l).length:Int))=true:=decide_eq_true (by omega)
   obtain⟨⟨k1,n1,b1,l1⟩,hy⟩:∃ y,l[i]?=some y:=⟨_,List.getElem?_eq_getElem hlt⟩
   have hv:(Zu l)[((i:Nat):Int).toNat]?=some (.agg [.int .i64 k1,.int .u64 (n1:Int),.sl (b1.map E.byte),.sl (Zu l1)]):=by
    rw[Int.toNat_natCast,Yi,List.getElem?_map,hy];rfl
   have hmem:=List.mem_of_getElem? hy
   have hc:=ih _ hmem (YD hws _ hmem) (d+1) m' (by omega) hm'
   have hdr:l.drop i=It.mk k1 n1 b1 l1::l.drop (i+1):=by
    rw[List.drop_eq_getElem_cons hlt];congr 1
    have:=(List.getElem?_eq_some_iff.1 hy).2;exact this
   rw[hdr,YC]at hfin
   have ei:IntKind.i64.wrap ((i:Int)+1)=((i+1:Nat):Int):=by rw[IntWalk.i64_in _ (by omega)];omega
   cases hwk:Wi (.mk k1 n1 b1 l1) (d+1) m' with
   | none=>
    rw[hwk]at hfin hc
    subst hfin
    repeat'(first|rw[ed]|(apply Zb (hc);kernel_rfl;(iterate 4 exact Z))|(apply Zg Za;exact Z)|(apply Zh Za;exact Z)|refine Ze Z Qt ?_|(apply Zw Za;(iterate 6 exact Z);(first|exact Qt|rotate_left);(first|with_reducible assumption|decide +kernel|exact Z);(first|exact Zk rfl|with_reducible assumption|decide +kernel|rotate_left)))
    all_goals exact Qe
   | some r=>
    rw[hwk]at hfin hc
    simp only[wkN]at hc
    have hlt2:=Ur hwk
    have tr:decide ((r:Int)<0)=false:=by simp
    repeat'(first|rw[ed]|rw[ei]|(apply Zb (hc);kernel_rfl;(iterate 4 exact Z))|(apply Zg Za;exact Z)|(apply Zh Za;exact Z)|refine Ze Z Qt ?_|refine Zf Z Qt ?_|(apply Zw Za;(iterate 6 exact Z);(first|exact Qt|rotate_left);(first|with_reducible assumption|decide +kernel|exact Z);(first|exact Zk rfl|with_reducible assumption|decide +kernel|rotate_left)))
    refine Lands.mk' (m:=f-1) (by omega) ⟨i+1,r,by omega,by omega,hfin,rfl,rfl,rfl⟩ ?_ rfl rfl rfl rfl rfl rfl
    exact .cons rfl (.cons rfl (.cons rfl (.cons rfl (.cons rfl (.cons rfl .nil)))))
  ·have hdl:decide ((i:Int)<((Zu l).length:Int))=false:=decide_eq_false (by omega)
   have hdr:l.drop i=[]:=List.drop_eq_nil_of_le hge
   rw[hdr,YC]at hfin
   subst hfin
   repeat'(first|(apply Zh Za;exact Z)|refine Zf Z Qt ?_)
   all_goals exact Qe
theorem Wj [Known][KnownU8](x:It)(hw:wfI x):AP Tryz.prog 206 [itD x] (.bool (ZS x)) []:=by
 have hk:=Lr x hw 1 256 (by omega) (by omega)
 have e:decide (wkN (Wi x 1 256) ≥ 0)=ZS x:=by
  unfold ZS
  cases Wi x 1 256<;>simp[wkN]
 obtain⟨k,n,b,l⟩:=x
 refine AP.ofA (Zl Tryz.func206 Z Tryz.ntmps206 Z Z ?_)
 repeat'(first|rw[e]|(apply Zb (hk);kernel_rfl;(iterate 4 exact Z))|(apply Zg Za;exact Z)|(apply Zh Za;exact Z))
 all_goals exact Qe
end Go.Proofs.YtchlgagdbflkmaaGreatDoor
end
section
open Go.RowKit Go.Pl Go.Av
namespace Go.Proofs.YtchlgagdbflkmaaGreatDoor
set_option maxHeartbeats 4000000
mutual
def Y3:It->Nat->Int->Int
 | .mk k n b l,d,m=>if 9<d then -1 else if 3000<b.length then -1 else WH l (d+1) (m-1)
def WH:List It->Nat->Int->Int
 | [],_,m=>m
 | x::l,d,m=>if m<0 then m else WH l d (Y3 x d m)
end
mutual
theorem QJ:∀(x:It) (d:Nat) (m:Int),0<=m->Y3 x d m<m /\ -1<=Y3 x d m
 | .mk k n b l,d,m,h=>by
  rw[Y3]
  split
  ·omega
  ·split
   ·omega
   ·have:=QK l (d+1) (m-1) (by omega);omega
theorem QK:∀(l:List It) (d:Nat) (m:Int),-1<=m->WH l d m<=m /\ -1<=WH l d m
 | [],_,m,h=>by rw[WH];omega
 | x::l,d,m,h=>by
  rw[WH]
  split
  ·omega
  ·have h1:=QJ x d m (by omega)
   have h2:=QK l d (Y3 x d m) (by omega)
   omega
end
mutual
def nI:It->Prop
 | .mk _ n _ l=>n<18446744073709551616/\nIs l
def nIs:List It->Prop
 | []=>True
 | x::l=>nI x/\nIs l
end
mutual
def Us:It->Nat->Bool
 | .mk _ _ _ l,d=>match d with
  | 0=>false
  | d+1=>Ud l d
def Ud:List It->Nat->Bool
 | [],_=>true
 | x::l,d=>Us x d&&Ud l d
end
mutual
theorem IZ:∀(x:It) (d:Nat) (m:Int),m<=400->0<=Y3 x d m->nI x->wfI x/\(ZU x).length<=3009*(m-Y3 x d m)/\m-Y3 x d m ≥ 1/\Us x (10-d)=true
 | .mk k n b l,d,m,hm,h,hn=>by
  rw[Y3]at h ⊢
  split at h
  ·omega
  split at h
  ·omega
  rename_i h1 h2
  rw[if_neg h1,if_neg h2]
  obtain⟨q1,q2,q3,q4⟩:=Of l (d+1) (m-1) (by omega) h hn.2
  refine⟨⟨hn.1,by omega,by omega,q1⟩,?_,by omega,?_⟩
  ·rw[ZU]
   have hw:(if Z6 (k,(It.mk k n b l).hn,false) then ZY (k,(It.mk k n b l).hn,false) else []).length<=9:=by
    split
    ·rename_i hr;rw[YN _ hr];exact NV _
    ·exact Nat.zero_le _
   rw[List.length_append,List.length_append]
   omega
  ·obtain⟨e,he⟩:∃ e,10-d=e+1:=⟨9-d,by omega⟩
   rw[he,Us]
   rw[show 10-(d+1)=e by omega]at q4
   exact q4
theorem Of:∀(l:List It) (d:Nat) (m:Int),m<=400->0<=WH l d m->nIs l->wfs l/\(ZQ l).length<=3009*(m-WH l d m)/\m-WH l d m ≥ l.length/\Ud l (10-d)=true
 | [],_,m,_,h,hn=>by simp[wfs,ZQ,WH,Ud]
 | x::l,d,m,hm,h,hn=>by
  rw[WH]at h ⊢
  split at h
  ·omega
  rename_i h1
  rw[if_neg h1]
  have h0:0<=Y3 x d m:=by
   rcases Int.lt_or_le (Y3 x d m) 0 with hlt|hge
   ·have:=QK l d (Y3 x d m) (by have:=QJ x d m (by omega);omega);omega
   ·exact hge
  obtain⟨q1,q2,q3,q4⟩:=IZ x d m hm h0 hn.1
  obtain⟨r1,r2,r3,r4⟩:=Of l d _ (by have:=QJ x d m (by omega);omega) h hn.2
  refine⟨⟨q1,r1⟩,?_,?_,?_⟩
  ·rw[ZQ,List.length_append];omega
  ·rw[List.length_cons];omega
  ·rw[Ud,q4,r4];rfl
end
end Go.Proofs.YtchlgagdbflkmaaGreatDoor
end
section
open Go.RowKit Go.Pl
namespace Go.Av
theorem Z7 [Known][Dfr]{P:Program}{Q:X->St->Prop}{x:X}{S:St}(h:Q x S):unK P Q [] x S:=h
def X.noGoto (Q:X->St->Prop):X->St->Prop
 | .goto _,_=>False
 | x,S=>Q x S
theorem Ut [Known][Dfr]{P:Program}{Q:X->St->Prop}{S:St}{c:Code}(h:AW P c S (X.noGoto Q)):AW P (.scope c) S Q:=⟨fun b0 g a w hi=>wp_scope_straight <| wp_mono (h.run b0 g a w hi) fun e a w hc=>by
 cases e<;>simp only[Wk,X.noGoto,Exit.noGoto]at hc ⊢
 case goto l=>obtain⟨S,g,h1,h2⟩:=hc;exact h2
 all_goals exact hc⟩
section
variable {P:Program} {Q:X->St->Prop} {n:Nat} {ee:Nat × Nat} {tm:List (Nat × D)} {bx:List (List D)} {fr:List Fr} {T:Tab}
variable {ops:Array Oper} {rest:List Oper} {t ty:Nat} {pos:String} {after:Array Edge}
theorem NZ [Known][Dfr](hT:chk P T=true){x lo:Operand}{st e:Nat}{tk:Tok}{l l2:List E}{k1:IntKind}{j:Int}{ti te:Ti}(hx:ev tm x=.sl tk l)(ht:tl T st=some ti)(hk:ti.kd=.slice e)(hte:tl T e=some te)(htd:Nat.blt t n=true)
  (hlo:ev tm lo=.int k1 j) (hU:Uni te.size l) (h0:0<=j) (hle:j.toNat<=l.length) (hd:l.drop j.toNat=l2)
  (kk:AL P ops rest ⟨n,(t,.sl .ext l2)::tm,bx,fr,ee⟩ Q):AL P ops (⟨some t,.slice st x (some lo) none none,ty,pos,after,none⟩::rest) ⟨n,tm,bx,fr,ee⟩ Q:=by
 subst hd
 exact Ji hT hx ht hk hte htd (.lit lo _ k1 j hlo h0) (.dft _) hle (Nat.le_refl _) hU (by rw[List.take_length]) kk
end
end Go.Av
end
