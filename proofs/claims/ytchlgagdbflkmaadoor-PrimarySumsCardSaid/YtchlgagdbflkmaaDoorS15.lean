/- unicode/utf8.Valid: the rounds. -/
import Derived.Test.YtchlgagdbflkmaaDoorS14
set_option linter.unusedVariables false
set_option linter.unusedSimpArgs false
section
open Go.RowKit Go.Pl Go.Av
namespace Go.Proofs.YtchlgagdbflkmaaDoor
set_option maxHeartbeats 4000000
set_option maxRecDepth 10000 in
theorem HV [Known][KnownU8](b:List UInt8)(hb:b.length<=140737488351232)(K:St->Prop)(k:Nat)(c:UInt8)(r:List UInt8)(hk:k=r.length+1)(hv:ZA (c::r)=ZA b)(hc:¬ c.toNat<128)(i lo hi:Nat)(e7:bits .and .u8 (fT c.toNat:Int) 7=((4:Nat):Int))(e4:((fT c.toNat:Nat):Int).fdiv (2 ^ min (Int.toNat 4) IntKind.u8.bits)=(i:Int))(hi16:i<16)
  (hvs:(((List.range 16).flatMap aT).drop (0+((i:Nat):Int).toNat*2)).take 2=[.int .u8 (lo:Int),.int .u8 (hi:Int)]) (hp:ptN c.toNat=4) (hlo:lo=YC c.toNat) (hhi:hi=YD c.toNat):AW Tryd.prog (Y3 (Tryd.f47.body.getD .skip)) (vS (c::r)) (vQ b (ZA b) k K):=by
 conv=>enter [3];whnf
 subst hlo hhi
 have hU:=Yo (c::r)
 have hlen:decide ((((c::r).map E.byte).length:Int)>0)=true:=by simp
 have dc:decide ((c.toNat:Int)<128)=false:=by simp;omega
 have hlt:((c.toNat:Nat):Int).toNat<256:=by rw[Int.toNat_natCast];exact c.toNat_lt
 have hlt2:((i:Nat):Int).toNat<16:=by rw[Int.toNat_natCast];exact hi16
 have hfa:=Uf c
 have hks:=KnownU8.first
 have hka:=KnownU8.accept
 have htf:=VJ
 have hta:=W5
 cases r with
 | nil=>
  have hl:decide (((([c]:List UInt8).map E.byte).length:Int)<4)=true:=rfl
  rw[<- hv,v4s hp [] (by simp)]
  repeat'(first|rw[e7]|rw[e4]|(apply Z9 Za;(iterate 6 exact Z);exact Int.natCast_nonneg _;assumption)|(apply ZU Za;(iterate 3 exact Z);assumption;assumption;assumption;exact Z;exact Z)|(apply ZV Za;(iterate 3 exact Z);assumption;assumption;assumption;(iterate 3 exact Z))|refine Zj Za Z ?_|refine Zg Za Z ?_|refine Zv Za Z ?_|refine Zw Z Z Z Qt ?_|refine Zp Z Qt Z Z ?_|refine Zd Z Qt ?_|refine Ze Z Qt ?_|refine Zn Za Z Z Z Z ?_|(apply ZQ 17 ZG;decide +kernel;kernel_rfl;kernel_rfl;exact Z;exact Z)|(apply ZW;(iterate 3 exact Z))|refine AD.nil _|exact Yn rfl|(apply Zs Za;(iterate 6 exact Z);(first|exact Qt|rotate_left);(first|with_reducible assumption|decide +kernel|exact Z);(first|exact Zf rfl|with_reducible assumption|decide +kernel|rotate_left))|(apply Yg;exact Z;exact Z;(first|exact Qt|rotate_left);exact Z))
  all_goals exact Qe
 | cons c1 r=>
  cases r with
  | nil=>
   have hl:decide (((([c,c1]:List UInt8).map E.byte).length:Int)<4)=true:=rfl
   rw[<- hv,v4s hp [c1] (by simp)]
   repeat'(first|rw[e7]|rw[e4]|(apply Z9 Za;(iterate 6 exact Z);exact Int.natCast_nonneg _;assumption)|(apply ZU Za;(iterate 3 exact Z);assumption;assumption;assumption;exact Z;exact Z)|(apply ZV Za;(iterate 3 exact Z);assumption;assumption;assumption;(iterate 3 exact Z))|refine Zj Za Z ?_|refine Zg Za Z ?_|refine Zv Za Z ?_|refine Zw Z Z Z Qt ?_|refine Zp Z Qt Z Z ?_|refine Zd Z Qt ?_|refine Ze Z Qt ?_|refine Zn Za Z Z Z Z ?_|(apply ZQ 17 ZG;decide +kernel;kernel_rfl;kernel_rfl;exact Z;exact Z)|(apply ZW;(iterate 3 exact Z))|refine AD.nil _|exact Yn rfl|(apply Zs Za;(iterate 6 exact Z);(first|exact Qt|rotate_left);(first|with_reducible assumption|decide +kernel|exact Z);(first|exact Zf rfl|with_reducible assumption|decide +kernel|rotate_left))|(apply Yg;exact Z;exact Z;(first|exact Qt|rotate_left);exact Z))
   all_goals exact Qe
  | cons c2 r=>
   cases r with
   | nil=>
    have hl:decide (((([c,c1,c2]:List UInt8).map E.byte).length:Int)<4)=true:=rfl
    rw[<- hv,v4s hp [c1,c2] (by simp)]
    repeat'(first|rw[e7]|rw[e4]|(apply Z9 Za;(iterate 6 exact Z);exact Int.natCast_nonneg _;assumption)|(apply ZU Za;(iterate 3 exact Z);assumption;assumption;assumption;exact Z;exact Z)|(apply ZV Za;(iterate 3 exact Z);assumption;assumption;assumption;(iterate 3 exact Z))|refine Zj Za Z ?_|refine Zg Za Z ?_|refine Zv Za Z ?_|refine Zw Z Z Z Qt ?_|refine Zp Z Qt Z Z ?_|refine Zd Z Qt ?_|refine Ze Z Qt ?_|refine Zn Za Z Z Z Z ?_|(apply ZQ 17 ZG;decide +kernel;kernel_rfl;kernel_rfl;exact Z;exact Z)|(apply ZW;(iterate 3 exact Z))|refine AD.nil _|exact Yn rfl|(apply Zs Za;(iterate 6 exact Z);(first|exact Qt|rotate_left);(first|with_reducible assumption|decide +kernel|exact Z);(first|exact Zf rfl|with_reducible assumption|decide +kernel|rotate_left))|(apply Yg;exact Z;exact Z;(first|exact Qt|rotate_left);exact Z))
    all_goals exact Qe
   | cons c3 r=>
    have hl:decide ((((c::c1::c2::c3::r).map E.byte).length:Int)<4)=false:=by simp;omega
    have xd:(c::c1::c2::c3::r).drop (Int.toNat 4)=r:=rfl
    rw[v4 hp]at hv
    cases b1:decide ((c1.toNat:Int)<(YC c.toNat:Int)) with
    | true=>
     have hf:ZA b=false:=by
      rw[<- hv]
      have:=of_decide_eq_true b1
      have q:inB c1.toNat (YC c.toNat) (YD c.toNat)=false:=by simp[inB];omega
      rw[q];simp
     rw[hf]
     repeat'(first|rw[e7]|rw[e4]|(apply Z9 Za;(iterate 6 exact Z);exact Int.natCast_nonneg _;assumption)|(apply ZU Za;(iterate 3 exact Z);assumption;assumption;assumption;exact Z;exact Z)|(apply ZV Za;(iterate 3 exact Z);assumption;assumption;assumption;(iterate 3 exact Z))|refine Zj Za Z ?_|refine Zg Za Z ?_|refine Zv Za Z ?_|refine Zi Z Z Z Qt ?_|refine Zw Z Z Z Qt ?_|refine Zp Z Qt Z Z ?_|refine Zk Z Qt Z Z ?_|refine Zd Z Qt ?_|refine Ze Z Qt ?_|refine Zn Za Z Z Z Z ?_|(apply ZQ 17 ZG;decide +kernel;kernel_rfl;kernel_rfl;exact Z;exact Z)|(apply ZW;(iterate 3 exact Z))|refine AD.nil _|exact Yn rfl|(apply Zs Za;(iterate 6 exact Z);(first|exact Qt|rotate_left);(first|with_reducible assumption|decide +kernel|exact Z);(first|exact Zf rfl|with_reducible assumption|decide +kernel|rotate_left))|(apply Yg;exact Z;exact Z;(first|exact Qt|rotate_left);exact Z))
     all_goals exact Qe
    | false=>
     cases b2:decide ((YD c.toNat:Int)<(c1.toNat:Int)) with
     | true=>
      have hf:ZA b=false:=by
       rw[<- hv]
       have:=of_decide_eq_true b2
       have q:inB c1.toNat (YC c.toNat) (YD c.toNat)=false:=by simp[inB];omega
       rw[q];simp
      rw[hf]
      repeat'(first|rw[e7]|rw[e4]|(apply Z9 Za;(iterate 6 exact Z);exact Int.natCast_nonneg _;assumption)|(apply ZU Za;(iterate 3 exact Z);assumption;assumption;assumption;exact Z;exact Z)|(apply ZV Za;(iterate 3 exact Z);assumption;assumption;assumption;(iterate 3 exact Z))|refine Zj Za Z ?_|refine Zg Za Z ?_|refine Zv Za Z ?_|refine Zi Z Z Z Qt ?_|refine Zw Z Z Z Qt ?_|refine Zp Z Qt Z Z ?_|refine Zk Z Qt Z Z ?_|refine Zd Z Qt ?_|refine Ze Z Qt ?_|refine Zn Za Z Z Z Z ?_|(apply ZQ 17 ZG;decide +kernel;kernel_rfl;kernel_rfl;exact Z;exact Z)|(apply ZW;(iterate 3 exact Z))|refine AD.nil _|exact Yn rfl|(apply Zs Za;(iterate 6 exact Z);(first|exact Qt|rotate_left);(first|with_reducible assumption|decide +kernel|exact Z);(first|exact Zf rfl|with_reducible assumption|decide +kernel|rotate_left))|(apply Yg;exact Z;exact Z;(first|exact Qt|rotate_left);exact Z))
      all_goals exact Qe
     | false=>
      cases b3:decide ((c2.toNat:Int)<128) with
      | true=>
       have hf:ZA b=false:=by
        rw[<- hv]
        have:=of_decide_eq_true b3
        have q:inB c2.toNat 128 191=false:=by simp[inB];omega
        rw[q];simp
       rw[hf]
       repeat'(first|rw[e7]|rw[e4]|(apply Z9 Za;(iterate 6 exact Z);exact Int.natCast_nonneg _;assumption)|(apply ZU Za;(iterate 3 exact Z);assumption;assumption;assumption;exact Z;exact Z)|(apply ZV Za;(iterate 3 exact Z);assumption;assumption;assumption;(iterate 3 exact Z))|refine Zj Za Z ?_|refine Zg Za Z ?_|refine Zv Za Z ?_|refine Zi Z Z Z Qt ?_|refine Zw Z Z Z Qt ?_|refine Zp Z Qt Z Z ?_|refine Zk Z Qt Z Z ?_|refine Zd Z Qt ?_|refine Ze Z Qt ?_|refine Zn Za Z Z Z Z ?_|(apply ZQ 17 ZG;decide +kernel;kernel_rfl;kernel_rfl;exact Z;exact Z)|(apply ZW;(iterate 3 exact Z))|refine AD.nil _|exact Yn rfl|(apply Zs Za;(iterate 6 exact Z);(first|exact Qt|rotate_left);(first|with_reducible assumption|decide +kernel|exact Z);(first|exact Zf rfl|with_reducible assumption|decide +kernel|rotate_left))|(apply Yg;exact Z;exact Z;(first|exact Qt|rotate_left);exact Z))
       all_goals exact Qe
      | false=>
       cases b4:decide ((191:Int)<(c2.toNat:Int)) with
       | true=>
        have hf:ZA b=false:=by
         rw[<- hv]
         have:=of_decide_eq_true b4
         have q:inB c2.toNat 128 191=false:=by simp[inB];omega
         rw[q];simp
        rw[hf]
        repeat'(first|rw[e7]|rw[e4]|(apply Z9 Za;(iterate 6 exact Z);exact Int.natCast_nonneg _;assumption)|(apply ZU Za;(iterate 3 exact Z);assumption;assumption;assumption;exact Z;exact Z)|(apply ZV Za;(iterate 3 exact Z);assumption;assumption;assumption;(iterate 3 exact Z))|refine Zj Za Z ?_|refine Zg Za Z ?_|refine Zv Za Z ?_|refine Zi Z Z Z Qt ?_|refine Zw Z Z Z Qt ?_|refine Zp Z Qt Z Z ?_|refine Zk Z Qt Z Z ?_|refine Zd Z Qt ?_|refine Ze Z Qt ?_|refine Zn Za Z Z Z Z ?_|(apply ZQ 17 ZG;decide +kernel;kernel_rfl;kernel_rfl;exact Z;exact Z)|(apply ZW;(iterate 3 exact Z))|refine AD.nil _|exact Yn rfl|(apply Zs Za;(iterate 6 exact Z);(first|exact Qt|rotate_left);(first|with_reducible assumption|decide +kernel|exact Z);(first|exact Zf rfl|with_reducible assumption|decide +kernel|rotate_left))|(apply Yg;exact Z;exact Z;(first|exact Qt|rotate_left);exact Z))
        all_goals exact Qe
       | false=>
        cases b5:decide ((c3.toNat:Int)<128) with
        | true=>
         have hf:ZA b=false:=by
          rw[<- hv]
          have:=of_decide_eq_true b5
          have q:inB c3.toNat 128 191=false:=by simp[inB];omega
          rw[q];simp
         rw[hf]
         repeat'(first|rw[e7]|rw[e4]|(apply Z9 Za;(iterate 6 exact Z);exact Int.natCast_nonneg _;assumption)|(apply ZU Za;(iterate 3 exact Z);assumption;assumption;assumption;exact Z;exact Z)|(apply ZV Za;(iterate 3 exact Z);assumption;assumption;assumption;(iterate 3 exact Z))|refine Zj Za Z ?_|refine Zg Za Z ?_|refine Zv Za Z ?_|refine Zi Z Z Z Qt ?_|refine Zw Z Z Z Qt ?_|refine Zp Z Qt Z Z ?_|refine Zk Z Qt Z Z ?_|refine Zd Z Qt ?_|refine Ze Z Qt ?_|refine Zn Za Z Z Z Z ?_|(apply ZQ 17 ZG;decide +kernel;kernel_rfl;kernel_rfl;exact Z;exact Z)|(apply ZW;(iterate 3 exact Z))|refine AD.nil _|exact Yn rfl|(apply Zs Za;(iterate 6 exact Z);(first|exact Qt|rotate_left);(first|with_reducible assumption|decide +kernel|exact Z);(first|exact Zf rfl|with_reducible assumption|decide +kernel|rotate_left))|(apply Yg;exact Z;exact Z;(first|exact Qt|rotate_left);exact Z))
         all_goals exact Qe
        | false=>
         cases b6:decide ((191:Int)<(c3.toNat:Int)) with
         | true=>
          have hf:ZA b=false:=by
           rw[<- hv]
           have:=of_decide_eq_true b6
           have q:inB c3.toNat 128 191=false:=by simp[inB];omega
           rw[q];simp
          rw[hf]
          repeat'(first|rw[e7]|rw[e4]|(apply Z9 Za;(iterate 6 exact Z);exact Int.natCast_nonneg _;assumption)|(apply ZU Za;(iterate 3 exact Z);assumption;assumption;assumption;exact Z;exact Z)|(apply ZV Za;(iterate 3 exact Z);assumption;assumption;assumption;(iterate 3 exact Z))|refine Zj Za Z ?_|refine Zg Za Z ?_|refine Zv Za Z ?_|refine Zi Z Z Z Qt ?_|refine Zk Z Qt Z Z ?_|refine Zd Z Qt ?_|refine Ze Z Qt ?_|refine Zn Za Z Z Z Z ?_|(apply ZQ 17 ZG;decide +kernel;kernel_rfl;kernel_rfl;exact Z;exact Z)|(apply ZW;(iterate 3 exact Z))|refine AD.nil _|exact Yn rfl|(apply Zs Za;(iterate 6 exact Z);(first|exact Qt|rotate_left);(first|with_reducible assumption|decide +kernel|exact Z);(first|exact Zf rfl|with_reducible assumption|decide +kernel|rotate_left))|(apply Yg;exact Z;exact Z;(first|exact Qt|rotate_left);exact Z))
          all_goals exact Qe
         | false=>
          have hv2:ZA r=ZA b:=by
           rw[<- hv]
           have:=of_decide_eq_false b1
           have:=of_decide_eq_false b2
           have:=of_decide_eq_false b3
           have:=of_decide_eq_false b4
           have:=of_decide_eq_false b5
           have:=of_decide_eq_false b6
           have q1:inB c1.toNat (YC c.toNat) (YD c.toNat)=true:=by simp[inB];omega
           have q2:inB c2.toNat 128 191=true:=by simp[inB];omega
           have q3:inB c3.toNat 128 191=true:=by simp[inB];omega
           rw[q1,q2,q3];rfl
          repeat'(first|rw[e7]|rw[e4]|(apply Z9 Za;(iterate 6 exact Z);exact Int.natCast_nonneg _;assumption)|(apply ZU Za;(iterate 3 exact Z);assumption;assumption;assumption;exact Z;exact Z)|(apply ZV Za;(iterate 3 exact Z);assumption;assumption;assumption;(iterate 3 exact Z))|(apply Wf Za;(iterate 8 exact Z);exact Qb;(first|with_reducible assumption|decide|(simp only[List.length_cons,List.length_drop,List.length_take,List.length_append,Int.toNat_natCast]at *;omega));(first|with_reducible assumption|exact Z))|refine Zj Za Z ?_|refine Zg Za Z ?_|refine Zv Za Z ?_|refine Zi Z Z Z Qt ?_|refine Zk Z Qt Z Z ?_|refine Zd Z Qt ?_|refine Ze Z Qt ?_|refine Zn Za Z Z Z Z ?_|(apply ZQ 17 ZG;decide +kernel;kernel_rfl;kernel_rfl;exact Z;exact Z)|(apply ZW;(iterate 3 exact Z))|refine AD.nil _|exact Yn rfl|(apply Zs Za;(iterate 6 exact Z);(first|exact Qt|rotate_left);(first|with_reducible assumption|decide +kernel|exact Z);(first|exact Zf rfl|with_reducible assumption|decide +kernel|rotate_left))|(apply Yg;exact Z;exact Z;(first|exact Qt|rotate_left);exact Z))
          refine Lands.mk' (m:=r.length) (by simp only[List.length_cons]at hk;omega) ⟨r,rfl,hv2,rfl,rfl,rfl⟩ ?_ rfl rfl rfl rfl rfl rfl
          exact .cons rfl (.cons rfl .nil)
theorem O4 [Known][KnownU8](b:List UInt8)(hb:b.length<=140737488351232):AP Tryd.prog 47 [byE b] (.bool (ZA b)) []:=by
 refine AP.ofA (Zm Tryd.func47 Z Tryd.ntmps47 Z Z ?_)
 repeat'(first|(apply OR Za;(iterate 9 exact Z);(simp);(simp))|refine Zj Za Z ?_|refine Zg Za Z ?_|refine Zn Za Z Z Z Z ?_)
 refine ZT (vJ b) (b.length+1) (Lands.mk' (m:=b.length) (Nat.lt_succ_self _) ⟨b,rfl,rfl,rfl,rfl,rfl⟩ ?_ rfl rfl rfl rfl rfl rfl) ?_
 ·exact .cons rfl (.cons rfl .nil)
 rintro k tm bx fr ⟨l,hk,hv,rfl,rfl,rfl⟩
 cases l with
 | nil=>
  rw[<- hv]
  repeat'(first|refine Zj Za Z ?_|refine Zg Za Z ?_|refine Zv Za Z ?_|refine Ze Z Qt ?_|refine Zn Za Z Z Z Z ?_)
  all_goals exact Qe
 | cons c r=>
  have key:∀ K:St->Prop,AW Tryd.prog (Y3 (Tryd.f47.body.getD .skip)) (vS (c::r)) (vQ b (ZA b) k K):=fun K=>by
   simp only[List.length_cons]at hk
   by_cases hc:c.toNat<128
   ·exact Hu b hb K k c r hk hv hc
   ·obtain⟨sz,i,lo,hi,e7,e4,hi16,hvs,hcls⟩:=cls c (by omega)
    rcases hcls with⟨rfl,hp⟩ | ⟨rfl|rfl|rfl,hp,hlo,hhi⟩
    ·exact HS b hb K k c r hk hv hc i lo hi e7 e4 hi16 hvs hp
    ·exact HT b hb K k c r hk hv hc i lo hi e7 e4 hi16 hvs hp hlo hhi
    ·exact HU b hb K k c r hk hv hc i lo hi e7 e4 hi16 hvs hp hlo hhi
    ·exact HV b hb K k c r hk hv hc i lo hi e7 e4 hi16 hvs hp hlo hhi
  exact key _
theorem HW {α:Type}{f:α->E}(b:List α):(((b.map f).length:Int)==0)=b.isEmpty:=by cases b<;>simp<;>omega
theorem Hv (l:List It):(((Zh l).length:Int)==0)=l.isEmpty:=by rw[Zl];cases l<;>simp<;>omega
theorem n0 (n:Nat):((n:Int)==0)=decide (n=0):=by rw[Bool.eq_iff_iff];simp
theorem G3 [Known][KnownU8](k:Int)(n:Nat)(b:List UInt8)(l:List It)(hb:b.length<=140737488351232):AP Tryd.prog 41 [.agg (itC k n b l)] (.bool (Vh k n b l)) []:=by
 have e1:=HW (f:=E.byte) b
 have e2:=Hv l
 have e3:=n0 n
 have hv:=O4 b hb
 by_cases k0:k=0
 ·subst k0
  cases hbe:b.isEmpty<;>cases hle:l.isEmpty
  all_goals
   rw[hbe]at e1
   rw[hle]at e2
   have e:Vh 0 n b l=(b.isEmpty&&l.isEmpty):=rfl
   rw[e,hbe,hle]
   refine AP.ofA (Zm Tryd.func41 Z Tryd.ntmps41 Z Z ?_)
   repeat'(first|rw[e1]|rw[e2]|refine Zj Za Z ?_|refine Zg Za Z ?_|refine Zi Z Z Z Qt ?_|refine ZE Z Z Z Qt ?_|refine Zp Z Qt Z Z ?_|refine Zk Z Qt Z Z ?_|refine Zd Z Qt ?_|refine Zn Za Z Z Z Z ?_)
   all_goals exact Qe
 by_cases k2:k=2
 ·subst k2
  cases hbe:decide (n=0)<;>cases hle:l.isEmpty
  all_goals
   rw[hbe]at e3
   rw[hle]at e2
   have e:Vh 2 n b l=(decide (n=0)&&l.isEmpty):=rfl
   rw[e,hbe,hle]
   refine AP.ofA (Zm Tryd.func41 Z Tryd.ntmps41 Z Z ?_)
   repeat'(first|rw[e2]|rw[e3]|refine Zj Za Z ?_|refine Zg Za Z ?_|refine Zi Z Z Z Qt ?_|refine ZE Z Z Z Qt ?_|refine Zp Z Qt Z Z ?_|refine Zk Z Qt Z Z ?_|refine Zd Z Qt ?_|refine Ze Z Qt ?_|refine Zn Za Z Z Z Z ?_)
   all_goals exact Qe
 by_cases k3:k=3
 ·subst k3
  cases hbe:decide (n=0)<;>cases hle:l.isEmpty
  all_goals
   rw[hbe]at e3
   rw[hle]at e2
   have e:Vh 3 n b l=(decide (n=0)&&(l.isEmpty&&ZA b)):=rfl
   rw[e,hbe,hle]
   refine AP.ofA (Zm Tryd.func41 Z Tryd.ntmps41 Z Z ?_)
   repeat'(first|rw[e2]|rw[e3]|refine Zb hv Qk Z Z Z Z ?_|refine Zj Za Z ?_|refine Zg Za Z ?_|refine Zi Z Z Z Qt ?_|refine ZE Z Z Z Qt ?_|refine Zp Z Qt Z Z ?_|refine Zk Z Qt Z Z ?_|refine Zd Z Qt ?_|refine Ze Z Qt ?_|refine Zn Za Z Z Z Z ?_)
   all_goals exact Qe
 by_cases k4:k=4
 ·subst k4
  cases hbe:decide (n=0)<;>cases hle:b.isEmpty
  all_goals
   rw[hbe]at e3
   rw[hle]at e1
   have e:Vh 4 n b l=(decide (n=0)&&b.isEmpty):=rfl
   rw[e,hbe,hle]
   refine AP.ofA (Zm Tryd.func41 Z Tryd.ntmps41 Z Z ?_)
   repeat'(first|rw[e1]|rw[e3]|refine Zj Za Z ?_|refine Zg Za Z ?_|refine Zi Z Z Z Qt ?_|refine ZE Z Z Z Qt ?_|refine Zp Z Qt Z Z ?_|refine Zk Z Qt Z Z ?_|refine Zd Z Qt ?_|refine Ze Z Qt ?_|refine Zn Za Z Z Z Z ?_)
   all_goals exact Qe
 ·have t0:(k==0)=false:=by simpa using k0
  have t2:(k==2)=false:=by simpa using k2
  have t3:(k==3)=false:=by simpa using k3
  have t4:(k==4)=false:=by simpa using k4
  have e:Vh k n b l=false:=by simp[Vh,k0,k2,k3,k4]
  rw[e]
  refine AP.ofA (Zm Tryd.func41 Z Tryd.ntmps41 Z Z ?_)
  repeat'(first|refine Zg Za Z ?_|refine Ze Z Qt ?_)
  all_goals exact Qe
def wkN:Option Nat->Int
 | some m=>(m:Int)
 | none => -1
theorem Ga [Known][KnownU8]:∀(x:It),wfI x->∀ d m:Nat,d<=7->m<=256->AP Tryd.prog 26 [itD x,.int .i64 (d:Int),.int .i64 (m:Int)] (.int .i64 (wkN (Yz x d m))) []:=by
 refine It.ind fun k n b l ih hw d m hd hm=>?_
 obtain⟨hn,hb,hl,hws⟩:=hw
 have hown:=G3 k n b l hb
 have hlen:=Zl l
 show AP Tryd.prog _ [.agg (itC k n b l),_,_] _ _
 rw[Yz]
 have em:1<=m->IntKind.i64.wrap ((m:Int)-1)=((m-1:Nat):Int):=fun h=>by rw[IntWalk.i64_in _ (by omega)];omega
 have ed:IntKind.i64.wrap ((d:Int)+1)=((d+1:Nat):Int):=by rw[IntWalk.i64_in _ (by omega)];omega
 by_cases hd6:6<d
 ·rw[if_pos hd6]
  have t1:decide ((d:Int)>6)=true:=by simp;omega
  refine AP.ofA (Zm Tryd.func26 Z Tryd.ntmps26 Z Z ?_)
  repeat'(first|refine Zj Za Z ?_|refine Zg Za Z ?_|refine Zv Za Z ?_|refine Zw Z Z Z Qt ?_|refine Zp Z Qt Z Z ?_|refine Zd Z Qt ?_)
  all_goals exact Qe
 have t1:decide ((d:Int)>6)=false:=by simp;omega
 rw[if_neg hd6]
 by_cases hm1:m<1
 ·rw[if_pos hm1]
  have t2:decide ((m:Int)<1)=true:=by simp;omega
  refine AP.ofA (Zm Tryd.func26 Z Tryd.ntmps26 Z Z ?_)
  repeat'(first|refine Zj Za Z ?_|refine Zg Za Z ?_|refine Zv Za Z ?_|refine Zi Z Z Z Qt ?_|refine Zw Z Z Z Qt ?_|refine Zp Z Qt Z Z ?_|refine Zk Z Qt Z Z ?_|refine Zd Z Qt ?_)
  all_goals exact Qe
 have t2:decide ((m:Int)<1)=false:=by simp;omega
 rw[if_neg hm1]
 have em:=em (by omega)
 cases ho:Vh k n b l with
 | false=>
  rw[ho]at hown
  dsimp only
  refine AP.ofA (Zm Tryd.func26 Z Tryd.ntmps26 Z Z ?_)
  repeat'(first|refine Zb hown Qk Z Z Z Z ?_|refine Zj Za Z ?_|refine Zg Za Z ?_|refine Zv Za Z ?_|refine Zi Z Z Z Qt ?_|refine Zk Z Qt Z Z ?_|refine Zd Z Qt ?_)
  all_goals exact Qe
 | true=>
  rw[ho]at hown
  dsimp only
  generalize hfin:Yu l (d+1) (m-1)=fin
  refine AP.ofA (Zm Tryd.func26 Z Tryd.ntmps26 Z Z ?_)
  repeat'(first|rw[em]|refine Zb hown Qk Z Z Z Z ?_|refine Zj Za Z ?_|refine Zg Za Z ?_|refine Zv Za Z ?_|refine Zi Z Z Z Qt ?_|refine Zk Z Qt Z Z ?_|refine Ze Z Qt ?_|refine Zn Za Z Z Z Z ?_)
  refine ZT (fun f tm bx fr=>∃ i m':Nat,f+i=l.length/\m'<=256/\Yu (l.drop i) (d+1) m'=fin/\tm=[(1,.int .i64 (d:Int)),(2,.int .i64 (m':Int)),(23,.sl .ext (Zh l)),(24,.int .i64 ((Zh l).length:Int)),(25,.int .i64 (i:Int)),(6,.int .i64 0)]/\bx=[itC k n b l]/\fr=[]) (l.length+1) (Lands.mk' (m:=l.length) (Nat.lt_succ_self _) ⟨0,m-1,rfl,by omega,hfin,rfl,rfl,rfl⟩ ?_ rfl rfl rfl rfl rfl rfl) ?_
  ·exact .cons rfl (.cons rfl (.cons rfl (.cons rfl (.cons rfl (.cons rfl .nil)))))
  rintro f tm bx fr ⟨i,m',hf,hm',hfin,rfl,rfl,rfl⟩
  have hU:=Yb l
  rcases Nat.lt_or_ge i l.length with hlt|hge
  ·have hdl:decide ((i:Int)<((Zh l).length:Int))=true:=decide_eq_true (by omega)
   obtain⟨⟨k1,n1,b1,l1⟩,hy⟩:∃ y,l[i]?=some y:=⟨_,List.getElem?_eq_getElem hlt⟩
   have hv:(Zh l)[((i:Nat):Int).toNat]?=some (.agg [.int .i64 k1,.int .u64 (n1:Int),.sl (b1.map E.byte),.sl (Zh l1)]):=by
    rw[Int.toNat_natCast,ZD,List.getElem?_map,hy];rfl
   have hmem:=List.mem_of_getElem? hy
   have hc:=ih _ hmem (ZX hws _ hmem) (d+1) m' (by omega) hm'
   have hdr:l.drop i=It.mk k1 n1 b1 l1::l.drop (i+1):=by
    rw[List.drop_eq_getElem_cons hlt];congr 1
    have:=(List.getElem?_eq_some_iff.1 hy).2;exact this
   rw[hdr,Yu]at hfin
   have ei:IntKind.i64.wrap ((i:Int)+1)=((i+1:Nat):Int):=by rw[IntWalk.i64_in _ (by omega)];omega
   cases hwk:Yz (.mk k1 n1 b1 l1) (d+1) m' with
   | none=>
    rw[hwk]at hfin hc
    subst hfin
    repeat'(first|rw[ed]|refine Zb hc Qk Z Z Z Z ?_|refine Zj Za Z ?_|refine Zg Za Z ?_|refine Zd Z Qt ?_|(apply Zs Za;(iterate 6 exact Z);(first|exact Qt|rotate_left);(first|with_reducible assumption|decide +kernel|exact Z);(first|exact Zf rfl|with_reducible assumption|decide +kernel|rotate_left)))
    all_goals exact Qe
   | some r=>
    rw[hwk]at hfin hc
    simp only[wkN]at hc
    have hlt2:=J9 hwk
    have tr:decide ((r:Int)<0)=false:=by simp
    repeat'(first|rw[ed]|rw[ei]|refine Zb hc Qk Z Z Z Z ?_|refine Zj Za Z ?_|refine Zg Za Z ?_|refine Zd Z Qt ?_|refine Ze Z Qt ?_|(apply Zs Za;(iterate 6 exact Z);(first|exact Qt|rotate_left);(first|with_reducible assumption|decide +kernel|exact Z);(first|exact Zf rfl|with_reducible assumption|decide +kernel|rotate_left)))
    refine Lands.mk' (m:=f-1) (by omega) ⟨i+1,r,by omega,by omega,hfin,rfl,rfl,rfl⟩ ?_ rfl rfl rfl rfl rfl rfl
    exact .cons rfl (.cons rfl (.cons rfl (.cons rfl (.cons rfl (.cons rfl .nil)))))
  ·have hdl:decide ((i:Int)<((Zh l).length:Int))=false:=decide_eq_false (by omega)
   have hdr:l.drop i=[]:=List.drop_eq_nil_of_le hge
   rw[hdr,Yu]at hfin
   subst hfin
   repeat'(first|refine Zg Za Z ?_|refine Ze Z Qt ?_)
   all_goals exact Qe
theorem YF [Known][KnownU8](x:It)(hw:wfI x):AP Tryd.prog 12 [itD x] (.bool (ZB x)) []:=by
 have hk:=Ga x hw 1 256 (by omega) (by omega)
 have e:decide (wkN (Yz x 1 256) ≥ 0)=ZB x:=by
  unfold ZB
  cases Yz x 1 256<;>simp[wkN]
 obtain⟨k,n,b,l⟩:=x
 refine AP.ofA (Zm Tryd.func12 Z Tryd.ntmps12 Z Z ?_)
 repeat'(first|rw[e]|refine Zb hk Qk Z Z Z Z ?_|refine Zj Za Z ?_|refine Zg Za Z ?_)
 all_goals exact Qe
end Go.Proofs.YtchlgagdbflkmaaDoor
end
