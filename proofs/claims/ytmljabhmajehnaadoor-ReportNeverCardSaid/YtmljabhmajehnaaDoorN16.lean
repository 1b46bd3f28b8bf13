/- unicode/utf8.Valid: the rounds. -/
import Derived.Test.YtmljabhmajehnaaDoorN15
import Derived.Test.YtmljabhmajehnaaDoorN13
set_option linter.unusedVariables false
set_option linter.unusedSimpArgs false
section
open Go.RowKit Go.Pl Go.Av
namespace Go.Proofs.YtmljabhmajehnaaDoor
set_option maxHeartbeats 4000000
set_option maxRecDepth 10000 in
theorem M8 [Known][KnownU8](b:List UInt8)(hb:b.length<=140737488351232)(K:St->Prop)(k:Nat)(c:UInt8)(r:List UInt8)(hk:k=r.length+1)(hv:ZD (c::r)=ZD b)(hc:¬ c.toNat<128)(i lo hi:Nat)(e7:bits .and .u8 (fT c.toNat:Int) 7=((4:Nat):Int))(e4:((fT c.toNat:Nat):Int).fdiv (2 ^ min (Int.toNat 4) IntKind.u8.bits)=(i:Int))(hi16:i<16)
  (hvs:(((List.range 16).flatMap aT).drop (0+((i:Nat):Int).toNat*2)).take 2=[.int .u8 (lo:Int),.int .u8 (hi:Int)]) (hp:ptN c.toNat=4) (hlo:lo=YX c.toNat) (hhi:hi=YY c.toNat):AW Tryd.prog (Wz (Tryd.f93.body.getD .skip)) (vS (c::r)) (vQ b (ZD b) k K):=by
 conv=>enter [3];whnf
 subst hlo hhi
 have hU:=YK (c::r)
 have hlen:decide ((((c::r).map E.byte).length:Int)>0)=true:=by simp
 have dc:decide ((c.toNat:Int)<128)=false:=by simp;omega
 have hlt:((c.toNat:Nat):Int).toNat<256:=by rw[Int.toNat_natCast];exact c.toNat_lt
 have hlt2:((i:Nat):Int).toNat<16:=by rw[Int.toNat_natCast];exact hi16
 have hfa:=Ql c
 have hks:=KnownU8.first
 have hka:=KnownU8.accept
 have htf:=Uz
 have hta:=V0
 cases r with
 | nil=>
  have hl:decide (((([c]:List UInt8).map E.byte).length:Int)<4)=true:=rfl
  rw[<- hv,v4s hp [] (by simp)]
  repeat'(first|rw[e7]|rw[e4]|(apply Yf Za;(iterate 6 exact Z);exact Int.natCast_nonneg _;assumption)|(apply ZS Za;(iterate 3 exact Z);assumption;assumption;assumption;exact Z;exact Z)|(apply ZT Za;(iterate 3 exact Z);assumption;assumption;assumption;(iterate 3 exact Z))|(apply Zg Za;exact Z)|(apply Zf Za;exact Z)|(apply Zs Za;exact Z)|refine Zo Z Z Z Qt ?_|refine Zk Z Qt Z Z ?_|refine Zd Z Qt ?_|refine Zh Z Qt ?_|refine Zn Za Z Z Z Z ?_|(apply ZO 17 ZF;decide +kernel;kernel_rfl;kernel_rfl;exact Z;exact Z)|(apply ZU;(iterate 3 exact Z))|refine AD.nil _|exact Yb rfl|(apply Zx Za;(iterate 6 exact Z);(first|exact Qt|rotate_left);(first|with_reducible assumption|decide +kernel|exact Z);(first|exact Zj rfl|with_reducible assumption|decide +kernel|rotate_left))|(apply Yn;exact Z;exact Z;(first|exact Qt|rotate_left);exact Z))
  all_goals exact Qe
 | cons c1 r=>
  cases r with
  | nil=>
   have hl:decide (((([c,c1]:List UInt8).map E.byte).length:Int)<4)=true:=rfl
   rw[<- hv,v4s hp [c1] (by simp)]
   repeat'(first|rw[e7]|rw[e4]|(apply Yf Za;(iterate 6 exact Z);exact Int.natCast_nonneg _;assumption)|(apply ZS Za;(iterate 3 exact Z);assumption;assumption;assumption;exact Z;exact Z)|(apply ZT Za;(iterate 3 exact Z);assumption;assumption;assumption;(iterate 3 exact Z))|(apply Zg Za;exact Z)|(apply Zf Za;exact Z)|(apply Zs Za;exact Z)|refine Zo Z Z Z Qt ?_|refine Zk Z Qt Z Z ?_|refine Zd Z Qt ?_|refine Zh Z Qt ?_|refine Zn Za Z Z Z Z ?_|(apply ZO 17 ZF;decide +kernel;kernel_rfl;kernel_rfl;exact Z;exact Z)|(apply ZU;(iterate 3 exact Z))|refine AD.nil _|exact Yb rfl|(apply Zx Za;(iterate 6 exact Z);(first|exact Qt|rotate_left);(first|with_reducible assumption|decide +kernel|exact Z);(first|exact Zj rfl|with_reducible assumption|decide +kernel|rotate_left))|(apply Yn;exact Z;exact Z;(first|exact Qt|rotate_left);exact Z))
   all_goals exact Qe
  | cons c2 r=>
   cases r with
   | nil=>
    have hl:decide (((([c,c1,c2]:List UInt8).map E.byte).length:Int)<4)=true:=rfl
    rw[<- hv,v4s hp [c1,c2] (by simp)]
    repeat'(first|rw[e7]|rw[e4]|(apply Yf Za;(iterate 6 exact Z);exact Int.natCast_nonneg _;assumption)|(apply ZS Za;(iterate 3 exact Z);assumption;assumption;assumption;exact Z;exact Z)|(apply ZT Za;(iterate 3 exact Z);assumption;assumption;assumption;(iterate 3 exact Z))|(apply Zg Za;exact Z)|(apply Zf Za;exact Z)|(apply Zs Za;exact Z)|refine Zo Z Z Z Qt ?_|refine Zk Z Qt Z Z ?_|refine Zd Z Qt ?_|refine Zh Z Qt ?_|refine Zn Za Z Z Z Z ?_|(apply ZO 17 ZF;decide +kernel;kernel_rfl;kernel_rfl;exact Z;exact Z)|(apply ZU;(iterate 3 exact Z))|refine AD.nil _|exact Yb rfl|(apply Zx Za;(iterate 6 exact Z);(first|exact Qt|rotate_left);(first|with_reducible assumption|decide +kernel|exact Z);(first|exact Zj rfl|with_reducible assumption|decide +kernel|rotate_left))|(apply Yn;exact Z;exact Z;(first|exact Qt|rotate_left);exact Z))
    all_goals exact Qe
   | cons c3 r=>
    have hl:decide ((((c::c1::c2::c3::r).map E.byte).length:Int)<4)=false:=by simp;omega
    have xd:(c::c1::c2::c3::r).drop (Int.toNat 4)=r:=rfl
    rw[v4 hp]at hv
    cases b1:decide ((c1.toNat:Int)<(YX c.toNat:Int)) with
    | true=>
     have hf:ZD b=false:=by
      rw[<- hv]
      have:=of_decide_eq_true b1
      have q:inB c1.toNat (YX c.toNat) (YY c.toNat)=false:=by simp[inB];omega
      rw[q];simp
     rw[hf]
     repeat'(first|rw[e7]|rw[e4]|(apply Yf Za;(iterate 6 exact Z);exact Int.natCast_nonneg _;assumption)|(apply ZS Za;(iterate 3 exact Z);assumption;assumption;assumption;exact Z;exact Z)|(apply ZT Za;(iterate 3 exact Z);assumption;assumption;assumption;(iterate 3 exact Z))|(apply Zg Za;exact Z)|(apply Zf Za;exact Z)|(apply Zs Za;exact Z)|refine Ze Z Z Z Qt ?_|refine Zo Z Z Z Qt ?_|refine Zk Z Qt Z Z ?_|refine Zi Z Qt Z Z ?_|refine Zd Z Qt ?_|refine Zh Z Qt ?_|refine Zn Za Z Z Z Z ?_|(apply ZO 17 ZF;decide +kernel;kernel_rfl;kernel_rfl;exact Z;exact Z)|(apply ZU;(iterate 3 exact Z))|refine AD.nil _|exact Yb rfl|(apply Zx Za;(iterate 6 exact Z);(first|exact Qt|rotate_left);(first|with_reducible assumption|decide +kernel|exact Z);(first|exact Zj rfl|with_reducible assumption|decide +kernel|rotate_left))|(apply Yn;exact Z;exact Z;(first|exact Qt|rotate_left);exact Z))
     all_goals exact Qe
    | false=>
     cases b2:decide ((YY c.toNat:Int)<(c1.toNat:Int)) with
     | true=>
      have hf:ZD b=false:=by
       rw[<- hv]
       have:=of_decide_eq_true b2
       have q:inB c1.toNat (YX c.toNat) (YY c.toNat)=false:=by simp[inB];omega
       rw[q];simp
      rw[hf]
      repeat'(first|rw[e7]|rw[e4]|(apply Yf Za;(iterate 6 exact Z);exact Int.natCast_nonneg _;assumption)|(apply ZS Za;(iterate 3 exact Z);assumption;assumption;assumption;exact Z;exact Z)|(apply ZT Za;(iterate 3 exact Z);assumption;assumption;assumption;(iterate 3 exact Z))|(apply Zg Za;exact Z)|(apply Zf Za;exact Z)|(apply Zs Za;exact Z)|refine Ze Z Z Z Qt ?_|refine Zo Z Z Z Qt ?_|refine Zk Z Qt Z Z ?_|refine Zi Z Qt Z Z ?_|refine Zd Z Qt ?_|refine Zh Z Qt ?_|refine Zn Za Z Z Z Z ?_|(apply ZO 17 ZF;decide +kernel;kernel_rfl;kernel_rfl;exact Z;exact Z)|(apply ZU;(iterate 3 exact Z))|refine AD.nil _|exact Yb rfl|(apply Zx Za;(iterate 6 exact Z);(first|exact Qt|rotate_left);(first|with_reducible assumption|decide +kernel|exact Z);(first|exact Zj rfl|with_reducible assumption|decide +kernel|rotate_left))|(apply Yn;exact Z;exact Z;(first|exact Qt|rotate_left);exact Z))
      all_goals exact Qe
     | false=>
      cases b3:decide ((c2.toNat:Int)<128) with
      | true=>
       have hf:ZD b=false:=by
        rw[<- hv]
        have:=of_decide_eq_true b3
        have q:inB c2.toNat 128 191=false:=by simp[inB];omega
        rw[q];simp
       rw[hf]
       repeat'(first|rw[e7]|rw[e4]|(apply Yf Za;(iterate 6 exact Z);exact Int.natCast_nonneg _;assumption)|(apply ZS Za;(iterate 3 exact Z);assumption;assumption;assumption;exact Z;exact Z)|(apply ZT Za;(iterate 3 exact Z);assumption;assumption;assumption;(iterate 3 exact Z))|(apply Zg Za;exact Z)|(apply Zf Za;exact Z)|(apply Zs Za;exact Z)|refine Ze Z Z Z Qt ?_|refine Zo Z Z Z Qt ?_|refine Zk Z Qt Z Z ?_|refine Zi Z Qt Z Z ?_|refine Zd Z Qt ?_|refine Zh Z Qt ?_|refine Zn Za Z Z Z Z ?_|(apply ZO 17 ZF;decide +kernel;kernel_rfl;kernel_rfl;exact Z;exact Z)|(apply ZU;(iterate 3 exact Z))|refine AD.nil _|exact Yb rfl|(apply Zx Za;(iterate 6 exact Z);(first|exact Qt|rotate_left);(first|with_reducible assumption|decide +kernel|exact Z);(first|exact Zj rfl|with_reducible assumption|decide +kernel|rotate_left))|(apply Yn;exact Z;exact Z;(first|exact Qt|rotate_left);exact Z))
       all_goals exact Qe
      | false=>
       cases b4:decide ((191:Int)<(c2.toNat:Int)) with
       | true=>
        have hf:ZD b=false:=by
         rw[<- hv]
         have:=of_decide_eq_true b4
         have q:inB c2.toNat 128 191=false:=by simp[inB];omega
         rw[q];simp
        rw[hf]
        repeat'(first|rw[e7]|rw[e4]|(apply Yf Za;(iterate 6 exact Z);exact Int.natCast_nonneg _;assumption)|(apply ZS Za;(iterate 3 exact Z);assumption;assumption;assumption;exact Z;exact Z)|(apply ZT Za;(iterate 3 exact Z);assumption;assumption;assumption;(iterate 3 exact Z))|(apply Zg Za;exact Z)|(apply Zf Za;exact Z)|(apply Zs Za;exact Z)|refine Ze Z Z Z Qt ?_|refine Zo Z Z Z Qt ?_|refine Zk Z Qt Z Z ?_|refine Zi Z Qt Z Z ?_|refine Zd Z Qt ?_|refine Zh Z Qt ?_|refine Zn Za Z Z Z Z ?_|(apply ZO 17 ZF;decide +kernel;kernel_rfl;kernel_rfl;exact Z;exact Z)|(apply ZU;(iterate 3 exact Z))|refine AD.nil _|exact Yb rfl|(apply Zx Za;(iterate 6 exact Z);(first|exact Qt|rotate_left);(first|with_reducible assumption|decide +kernel|exact Z);(first|exact Zj rfl|with_reducible assumption|decide +kernel|rotate_left))|(apply Yn;exact Z;exact Z;(first|exact Qt|rotate_left);exact Z))
        all_goals exact Qe
       | false=>
        cases b5:decide ((c3.toNat:Int)<128) with
        | true=>
         have hf:ZD b=false:=by
          rw[<- hv]
          have:=of_decide_eq_true b5
          have q:inB c3.toNat 128 191=false:=by simp[inB];omega
          rw[q];simp
         rw[hf]
         repeat'(first|rw[e7]|rw[e4]|(apply Yf Za;(iterate 6 exact Z);exact Int.natCast_nonneg _;assumption)|(apply ZS Za;(iterate 3 exact Z);assumption;assumption;assumption;exact Z;exact Z)|(apply ZT Za;(iterate 3 exact Z);assumption;assumption;assumption;(iterate 3 exact Z))|(apply Zg Za;exact Z)|(apply Zf Za;exact Z)|(apply Zs Za;exact Z)|refine Ze Z Z Z Qt ?_|refine Zo Z Z Z Qt ?_|refine Zk Z Qt Z Z ?_|refine Zi Z Qt Z Z ?_|refine Zd Z Qt ?_|refine Zh Z Qt ?_|refine Zn Za Z Z Z Z ?_|(apply ZO 17 ZF;decide +kernel;kernel_rfl;kernel_rfl;exact Z;exact Z)|(apply ZU;(iterate 3 exact Z))|refine AD.nil _|exact Yb rfl|(apply Zx Za;(iterate 6 exact Z);(first|exact Qt|rotate_left);(first|with_reducible assumption|decide +kernel|exact Z);(first|exact Zj rfl|with_reducible assumption|decide +kernel|rotate_left))|(apply Yn;exact Z;exact Z;(first|exact Qt|rotate_left);exact Z))
         all_goals exact Qe
        | false=>
         cases b6:decide ((191:Int)<(c3.toNat:Int)) with
         | true=>
          have hf:ZD b=false:=by
           rw[<- hv]
           have:=of_decide_eq_true b6
           have q:inB c3.toNat 128 191=false:=by simp[inB];omega
           rw[q];simp
          rw[hf]
          repeat'(first|rw[e7]|rw[e4]|(apply Yf Za;(iterate 6 exact Z);exact Int.natCast_nonneg _;assumption)|(apply ZS Za;(iterate 3 exact Z);assumption;assumption;assumption;exact Z;exact Z)|(apply ZT Za;(iterate 3 exact Z);assumption;assumption;assumption;(iterate 3 exact Z))|(apply Zg Za;exact Z)|(apply Zf Za;exact Z)|(apply Zs Za;exact Z)|refine Ze Z Z Z Qt ?_|refine Zi Z Qt Z Z ?_|refine Zd Z Qt ?_|refine Zh Z Qt ?_|refine Zn Za Z Z Z Z ?_|(apply ZO 17 ZF;decide +kernel;kernel_rfl;kernel_rfl;exact Z;exact Z)|(apply ZU;(iterate 3 exact Z))|refine AD.nil _|exact Yb rfl|(apply Zx Za;(iterate 6 exact Z);(first|exact Qt|rotate_left);(first|with_reducible assumption|decide +kernel|exact Z);(first|exact Zj rfl|with_reducible assumption|decide +kernel|rotate_left))|(apply Yn;exact Z;exact Z;(first|exact Qt|rotate_left);exact Z))
          all_goals exact Qe
         | false=>
          have hv2:ZD r=ZD b:=by
           rw[<- hv]
           have:=of_decide_eq_false b1
           have:=of_decide_eq_false b2
           have:=of_decide_eq_false b3
           have:=of_decide_eq_false b4
           have:=of_decide_eq_false b5
           have:=of_decide_eq_false b6
           have q1:inB c1.toNat (YX c.toNat) (YY c.toNat)=true:=by simp[inB];omega
           have q2:inB c2.toNat 128 191=true:=by simp[inB];omega
           have q3:inB c3.toNat 128 191=true:=by simp[inB];omega
           rw[q1,q2,q3];rfl
          repeat'(first|rw[e7]|rw[e4]|(apply Yf Za;(iterate 6 exact Z);exact Int.natCast_nonneg _;assumption)|(apply ZS Za;(iterate 3 exact Z);assumption;assumption;assumption;exact Z;exact Z)|(apply ZT Za;(iterate 3 exact Z);assumption;assumption;assumption;(iterate 3 exact Z))|(apply WR Za;(iterate 8 exact Z);exact Qb;(first|with_reducible assumption|decide|(simp only[List.length_cons,List.length_drop,List.length_take,List.length_append,Int.toNat_natCast]at *;omega));(first|with_reducible assumption|exact Z))|(apply Zg Za;exact Z)|(apply Zf Za;exact Z)|(apply Zs Za;exact Z)|refine Ze Z Z Z Qt ?_|refine Zi Z Qt Z Z ?_|refine Zd Z Qt ?_|refine Zh Z Qt ?_|refine Zn Za Z Z Z Z ?_|(apply ZO 17 ZF;decide +kernel;kernel_rfl;kernel_rfl;exact Z;exact Z)|(apply ZU;(iterate 3 exact Z))|refine AD.nil _|exact Yb rfl|(apply Zx Za;(iterate 6 exact Z);(first|exact Qt|rotate_left);(first|with_reducible assumption|decide +kernel|exact Z);(first|exact Zj rfl|with_reducible assumption|decide +kernel|rotate_left))|(apply Yn;exact Z;exact Z;(first|exact Qt|rotate_left);exact Z))
          refine Lands.mk' (m:=r.length) (by simp only[List.length_cons]at hk;omega) ⟨r,rfl,hv2,rfl,rfl,rfl⟩ ?_ rfl rfl rfl rfl rfl rfl
          exact .cons rfl (.cons rfl .nil)
theorem KV [Known][KnownU8](b:List UInt8)(hb:b.length<=140737488351232):AP Tryd.prog 93 [byE b] (.bool (ZD b)) []:=by
 refine AP.ofA (Zl Tryd.func93 Z Tryd.ntmps93 Z Z ?_)
 repeat'(first|(apply Hh Za;(iterate 9 exact Z);(simp);(simp))|(apply Zg Za;exact Z)|(apply Zf Za;exact Z)|refine Zn Za Z Z Z Z ?_)
 refine Z4 (vJ b) (b.length+1) (Lands.mk' (m:=b.length) (Nat.lt_succ_self _) ⟨b,rfl,rfl,rfl,rfl,rfl⟩ ?_ rfl rfl rfl rfl rfl rfl) ?_
 ·exact .cons rfl (.cons rfl .nil)
 rintro k tm bx fr ⟨l,hk,hv,rfl,rfl,rfl⟩
 cases l with
 | nil=>
  rw[<- hv]
  repeat'(first|(apply Zg Za;exact Z)|(apply Zf Za;exact Z)|(apply Zs Za;exact Z)|refine Zh Z Qt ?_|refine Zn Za Z Z Z Z ?_)
  all_goals exact Qe
 | cons c r=>
  have key:∀ K:St->Prop,AW Tryd.prog (Wz (Tryd.f93.body.getD .skip)) (vS (c::r)) (vQ b (ZD b) k K):=fun K=>by
   simp only[List.length_cons]at hk
   by_cases hc:c.toNat<128
   ·exact MH b hb K k c r hk hv hc
   ·obtain⟨sz,i,lo,hi,e7,e4,hi16,hvs,hcls⟩:=cls c (by omega)
    rcases hcls with⟨rfl,hp⟩ | ⟨rfl|rfl|rfl,hp,hlo,hhi⟩
    ·exact M5 b hb K k c r hk hv hc i lo hi e7 e4 hi16 hvs hp
    ·exact M6 b hb K k c r hk hv hc i lo hi e7 e4 hi16 hvs hp hlo hhi
    ·exact M7 b hb K k c r hk hv hc i lo hi e7 e4 hi16 hvs hp hlo hhi
    ·exact M8 b hb K k c r hk hv hc i lo hi e7 e4 hi16 hvs hp hlo hhi
  exact key _
theorem M9 {α:Type}{f:α->E}(b:List α):(((b.map f).length:Int)==0)=b.isEmpty:=by cases b<;>simp<;>omega
theorem MI (l:List It):(((Zz l).length:Int)==0)=l.isEmpty:=by rw[Zw];cases l<;>simp<;>omega
theorem n0 (n:Nat):((n:Int)==0)=decide (n=0):=by rw[Bool.eq_iff_iff];simp
theorem N0 [Known][KnownU8](k:Int)(n:Nat)(b:List UInt8)(l:List It)(hb:b.length<=140737488351232):AP Tryd.prog 85 [.agg (itC k n b l)] (.bool (WV k n b l)) []:=by
 have e1:=M9 (f:=E.byte) b
 have e2:=MI l
 have e3:=n0 n
 have hv:=KV b hb
 by_cases k0:k=0
 ·subst k0
  cases hbe:b.isEmpty<;>cases hle:l.isEmpty
  all_goals
   rw[hbe]at e1
   rw[hle]at e2
   have e:WV 0 n b l=(b.isEmpty&&l.isEmpty):=rfl
   rw[e,hbe,hle]
   refine AP.ofA (Zl Tryd.func85 Z Tryd.ntmps85 Z Z ?_)
   repeat'(first|rw[e1]|rw[e2]|(apply Zg Za;exact Z)|(apply Zf Za;exact Z)|refine Ze Z Z Z Qt ?_|refine Zt Z Z Z Qt ?_|refine Zk Z Qt Z Z ?_|refine Zi Z Qt Z Z ?_|refine Zd Z Qt ?_|refine Zn Za Z Z Z Z ?_)
   all_goals exact Qe
 by_cases k2:k=2
 ·subst k2
  cases hbe:decide (n=0)<;>cases hle:l.isEmpty
  all_goals
   rw[hbe]at e3
   rw[hle]at e2
   have e:WV 2 n b l=(decide (n=0)&&l.isEmpty):=rfl
   rw[e,hbe,hle]
   refine AP.ofA (Zl Tryd.func85 Z Tryd.ntmps85 Z Z ?_)
   repeat'(first|rw[e2]|rw[e3]|(apply Zg Za;exact Z)|(apply Zf Za;exact Z)|refine Ze Z Z Z Qt ?_|refine Zt Z Z Z Qt ?_|refine Zk Z Qt Z Z ?_|refine Zi Z Qt Z Z ?_|refine Zd Z Qt ?_|refine Zh Z Qt ?_|refine Zn Za Z Z Z Z ?_)
   all_goals exact Qe
 by_cases k3:k=3
 ·subst k3
  cases hbe:decide (n=0)<;>cases hle:l.isEmpty
  all_goals
   rw[hbe]at e3
   rw[hle]at e2
   have e:WV 3 n b l=(decide (n=0)&&(l.isEmpty&&ZD b)):=rfl
   rw[e,hbe,hle]
   refine AP.ofA (Zl Tryd.func85 Z Tryd.ntmps85 Z Z ?_)
   repeat'(first|rw[e2]|rw[e3]|(apply Zb (hv);kernel_rfl;(iterate 4 exact Z))|(apply Zg Za;exact Z)|(apply Zf Za;exact Z)|refine Ze Z Z Z Qt ?_|refine Zt Z Z Z Qt ?_|refine Zk Z Qt Z Z ?_|refine Zi Z Qt Z Z ?_|refine Zd Z Qt ?_|refine Zh Z Qt ?_|refine Zn Za Z Z Z Z ?_)
   all_goals exact Qe
 by_cases k4:k=4
 ·subst k4
  cases hbe:decide (n=0)<;>cases hle:b.isEmpty
  all_goals
   rw[hbe]at e3
   rw[hle]at e1
   have e:WV 4 n b l=(decide (n=0)&&b.isEmpty):=rfl
   rw[e,hbe,hle]
   refine AP.ofA (Zl Tryd.func85 Z Tryd.ntmps85 Z Z ?_)
   repeat'(first|rw[e1]|rw[e3]|(apply Zg Za;exact Z)|(apply Zf Za;exact Z)|refine Ze Z Z Z Qt ?_|refine Zt Z Z Z Qt ?_|refine Zk Z Qt Z Z ?_|refine Zi Z Qt Z Z ?_|refine Zd Z Qt ?_|refine Zh Z Qt ?_|refine Zn Za Z Z Z Z ?_)
   all_goals exact Qe
 ·have t0:(k==0)=false:=by simpa using k0
  have t2:(k==2)=false:=by simpa using k2
  have t3:(k==3)=false:=by simpa using k3
  have t4:(k==4)=false:=by simpa using k4
  have e:WV k n b l=false:=by simp[WV,k0,k2,k3,k4]
  rw[e]
  refine AP.ofA (Zl Tryd.func85 Z Tryd.ntmps85 Z Z ?_)
  repeat'(first|(apply Zf Za;exact Z)|refine Zh Z Qt ?_)
  all_goals exact Qe
def wkN:Option Nat->Int
 | some m=>(m:Int)
 | none => -1
theorem TO [Known][KnownU8]:∀(x:It),wfI x->∀ d m:Nat,d<=7->m<=256->AP Tryd.prog 67 [itD x,.int .i64 (d:Int),.int .i64 (m:Int)] (.int .i64 (wkN (YS x d m))) []:=by
 refine It.ind fun k n b l ih hw d m hd hm=>?_
 obtain⟨hn,hb,hl,hws⟩:=hw
 have hown:=N0 k n b l hb
 have hlen:=Zw l
 show AP Tryd.prog _ [.agg (itC k n b l),_,_] _ _
 rw[YS]
 have em:1<=m->IntKind.i64.wrap ((m:Int)-1)=((m-1:Nat):Int):=fun h=>by rw[IntWalk.i64_in _ (by omega)];omega
 have ed:IntKind.i64.wrap ((d:Int)+1)=((d+1:Nat):Int):=by rw[IntWalk.i64_in _ (by omega)];omega
 by_cases hd6:6<d
 ·rw[if_pos hd6]
  have t1:decide ((d:Int)>6)=true:=by simp;omega
  refine AP.ofA (Zl Tryd.func67 Z Tryd.ntmps67 Z Z ?_)
  repeat'(first|(apply Zg Za;exact Z)|(apply Zf Za;exact Z)|(apply Zs Za;exact Z)|refine Zo Z Z Z Qt ?_|refine Zk Z Qt Z Z ?_|refine Zd Z Qt ?_)
  all_goals exact Qe
 have t1:decide ((d:Int)>6)=false:=by simp;omega
 rw[if_neg hd6]
 by_cases hm1:m<1
 ·rw[if_pos hm1]
  have t2:decide ((m:Int)<1)=true:=by simp;omega
  refine AP.ofA (Zl Tryd.func67 Z Tryd.ntmps67 Z Z ?_)
  repeat'(first|(apply Zg Za;exact Z)|(apply Zf Za;exact Z)|(apply Zs Za;exact Z)|refine Ze Z Z Z Qt ?_|refine Zo Z Z Z Qt ?_|refine Zk Z Qt Z Z ?_|refine Zi Z Qt Z Z ?_|refine Zd Z Qt ?_)
  all_goals exact Qe
 have t2:decide ((m:Int)<1)=false:=by simp;omega
 rw[if_neg hm1]
 have em:=em (by omega)
 cases ho:WV k n b l with
 | false=>
  rw[ho]at hown
  dsimp only
  refine AP.ofA (Zl Tryd.func67 Z Tryd.ntmps67 Z Z ?_)
  repeat'(first|(apply Zb (hown);kernel_rfl;(iterate 4 exact Z))|(apply Zg Za;exact Z)|(apply Zf Za;exact Z)|(apply Zs Za;exact Z)|refine Ze Z Z Z Qt ?_|refine Zi Z Qt Z Z ?_|refine Zd Z Qt ?_)
  all_goals exact Qe
 | true=>
  rw[ho]at hown
  dsimp only
  generalize hfin:Ym l (d+1) (m-1)=fin
  refine AP.ofA (Zl Tryd.func67 Z Tryd.ntmps67 Z Z ?_)
  repeat'(first|rw[em]|(apply Zb (hown);kernel_rfl;(iterate 4 exact Z))|(apply Zg Za;exact Z)|(apply Zf Za;exact Z)|(apply Zs Za;exact Z)|refine Ze Z Z Z Qt ?_|refine Zi Z Qt Z Z ?_|refine Zh Z Qt ?_|refine Zn Za Z Z Z Z ?_)
  refine Z4 (fun f tm bx fr=>∃ i m':Nat,f+i=l.length/\m'<=256/\Ym (l.drop i) (d+1) m'=fin/\tm=[(1,.int .i64 (d:Int)),(2,.int .i64 (m':Int)),(23,.sl .ext (Zz l)),(24,.int .i64 ((Zz l).length:Int)),(25,.int .i64 (i:Int)),(6,.int .i64 0)]/\bx=[itC k n b l]/\fr=[]) (l.length+1) (Lands.mk' (m:=l.length) (Nat.lt_succ_self _) ⟨0,m-1,rfl,by omega,hfin,rfl,rfl,rfl⟩ ?_ rfl rfl rfl rfl rfl rfl) ?_
  ·exact .cons rfl (.cons rfl (.cons rfl (.cons rfl (.cons rfl (.cons rfl .nil)))))
  rintro f tm bx fr ⟨i,m',hf,hm',hfin,rfl,rfl,rfl⟩
  have hU:=Y2 l
  rcases Nat.lt_or_ge i l.length with hlt|hge
  ·have hdl:decide ((i:Int)<((Zz l).length:Int))=true:=decide_eq_true (by omega)
   obtain⟨⟨k1,n1,b1,l1⟩,hy⟩:∃ y,l[i]?=some y:=⟨_,List.getElem?_eq_getElem hlt⟩
   have hv:(Zz l)[((i:Nat):Int).toNat]?=some (.agg [.int .i64 k1,.int .u64 (n1:Int),.sl (b1.map E.byte),.sl (Zz l1)]):=by
    rw[Int.toNat_natCast,Yi,List.getElem?_map,hy];rfl
   have hmem:=List.mem_of_getElem? hy
   have hc:=ih _ hmem (Wa hws _ hmem) (d+1) m' (by omega) hm'
   have hdr:l.drop i=It.mk k1 n1 b1 l1::l.drop (i+1):=by
    rw[List.drop_eq_getElem_cons hlt];congr 1
    have:=(List.getElem?_eq_some_iff.1 hy).2;exact this
   rw[hdr,Ym]at hfin
   have ei:IntKind.i64.wrap ((i:Int)+1)=((i+1:Nat):Int):=by rw[IntWalk.i64_in _ (by omega)];omega
   cases hwk:YS (.mk k1 n1 b1 l1) (d+1) m' with
   | none=>
    rw[hwk]at hfin hc
    subst hfin
    repeat'(first|rw[ed]|(apply Zb (hc);kernel_rfl;(iterate 4 exact Z))|(apply Zg Za;exact Z)|(apply Zf Za;exact Z)|refine Zd Z Qt ?_|(apply Zx Za;(iterate 6 exact Z);(first|exact Qt|rotate_left);(first|with_reducible assumption|decide +kernel|exact Z);(first|exact Zj rfl|with_reducible assumption|decide +kernel|rotate_left)))
    all_goals exact Qe
   | some r=>
    rw[hwk]at hfin hc
    simp only[wkN]at hc
    have hlt2:=VM hwk
    have tr:decide ((r:Int)<0)=false:=by simp
    repeat'(first|rw[ed]|rw[ei]|(apply Zb (hc);kernel_rfl;(iterate 4 exact Z))|(apply Zg Za;exact Z)|(apply Zf Za;exact Z)|refine Zd Z Qt ?_|refine Zh Z Qt ?_|(apply Zx Za;(iterate 6 exact Z);(first|exact Qt|rotate_left);(first|with_reducible assumption|decide +kernel|exact Z);(first|exact Zj rfl|with_reducible assumption|decide +kernel|rotate_left)))
    refine Lands.mk' (m:=f-1) (by omega) ⟨i+1,r,by omega,by omega,hfin,rfl,rfl,rfl⟩ ?_ rfl rfl rfl rfl rfl rfl
    exact .cons rfl (.cons rfl (.cons rfl (.cons rfl (.cons rfl (.cons rfl .nil)))))
  ·have hdl:decide ((i:Int)<((Zz l).length:Int))=false:=decide_eq_false (by omega)
   have hdr:l.drop i=[]:=List.drop_eq_nil_of_le hge
   rw[hdr,Ym]at hfin
   subst hfin
   repeat'(first|(apply Zf Za;exact Z)|refine Zh Z Qt ?_)
   all_goals exact Qe
theorem Wb [Known][KnownU8](x:It)(hw:wfI x):AP Tryd.prog 45 [itD x] (.bool (ZI x)) []:=by
 have hk:=TO x hw 1 256 (by omega) (by omega)
 have e:decide (wkN (YS x 1 256) ≥ 0)=ZI x:=by
  unfold ZI
  cases YS x 1 256<;>simp[wkN]
 obtain⟨k,n,b,l⟩:=x
 refine AP.ofA (Zl Tryd.func45 Z Tryd.ntmps45 Z Z ?_)
 repeat'(first|rw[e]|(apply Zb (hk);kernel_rfl;(iterate 4 exact Z))|(apply Zg Za;exact Z)|(apply Zf Za;exact Z))
 all_goals exact Qe
end Go.Proofs.YtmljabhmajehnaaDoor
end
section
open Go.RowKit Go.Pl
namespace Go.Av
inductive Zy where
 | pu (d:D)
 | al (cs:List D)
def z0 (p:Nat × Zy):Nat × D:=(p.1,match p.2 with | .pu d=>d | .al _=>.junk)
def TP:Nat->List (Nat × Zy)->List (Nat × D)->List (Nat × D)
 | _,[],tm=>tm
 | m,(_,.pu _)::zs,tm=>TP m zs tm
 | m,(t,.al _)::zs,tm=>TP (m+1) zs ((t,.ptr m 0)::tm)
def zcs:List (Nat × Zy)->List (List D)
 | []=>[]
 | (_,.pu _)::zs=>zcs zs
 | (_,.al cs)::zs=>cs::zcs zs
section
variable {P:Program} {T:Tab} {Q:X->St->Prop} {n:Nat} {ee:Nat × Nat} {tm tm':List (Nat × D)} {bx:List (List D)} {fr:List Fr} {b0:Bs} {g g':G} {w w':World} {a:Act}
inductive AZ [Known][Dfr](P:Program) (T:Tab) (l:List Oper) (n:Nat) (bx:List (List D)) (fr:List Fr):List Oper->List (Nat × D)->List (Nat × Zy)->List (Nat × D)->Prop
 | nil (tm:List (Nat × D)):AZ P T l n bx fr [] tm [] tm
 | pu (o:Oper) (rest:List Oper) (t:Nat) (d:D) (tm:List (Nat × D)) (zs:List (Nat × Zy)) (tm':List (Nat × D)) (hd:o.dst=some t) (ht:Nat.blt t n=true) (h:AL P l.toArray [o] ⟨n,Z3 l o tm,bx,fr,(bx.length,fr.length)⟩ (qY o bx fr (.pu d))) (k:AZ P T l n bx fr rest ((t,d)::tm) zs tm'):AZ P T l n bx fr (o::rest) tm ((t,.pu d)::zs) tm'
 | al (t:Nat) (e:TypeId) (ty:Nat) (pos:String) (after:Array Edge) (rest:List Oper) (ti:Ti) (tm:List (Nat × D)) (zs:List (Nat × Zy)) (tm':List (Nat × D)) (ht:Nat.blt t n=true) (hti:tl T e=some ti) (k:AZ P T l n bx fr rest ((t,.junk)::tm) zs tm'):AZ P T l n bx fr (⟨some t,.alloc e,ty,pos,after,none⟩::rest) tm ((t,.al (ti.zero.map ZK.d))::zs) tm'
theorem WA (l:List Oper)(o:Oper):∀ tm:List (Nat × D),Z3 l o tm=tm.filter fun p=>(YQ l o).contains p.1
 | []=>rfl
 | p::tm=>by
  rw[Z3,List.filter_cons,WA l o tm]
  cases(YQ l o).contains p.1<;>rfl
def KW (b0:Bs)(g:G)(w:World)(k:Nat)(cs:List D):Prop:=b0.w.heap.size<=k/\¬ M g k/\(∀ o,¬ g.C k o)/\∃ vs ty,w.heap[k]?=some (.cells vs ty (0,0))/\(vs.size=cs.length/\D.isRow cs=false)/\∀(w:World) (g:G) (fr:List Fr) (j:Nat) (d:D) (v:Value),cs[j]?=some d->vs[j]?=some v->V w g fr d v
theorem KW.lt {k:Nat}{cs:List D}(h:KW b0 g w k cs):k<w.heap.size:=by
 obtain⟨_,_,_,vs,ty,h1,_⟩:=h
 exact(Array.getElem?_eq_some_iff.1 h1).1
theorem KW.evo {k:Nat}{cs:List D}(h:KW b0 g w k cs){fr fr':List Fr}(e:Evo ⟨g,fr,w⟩ ⟨g',fr',w'⟩):KW b0 g' w' k cs:=by
 have hlt:=h.lt
 obtain⟨h1,h2,h3,vs,ty,h4,h5,h6⟩:=h
 refine⟨h1,fun hm=>?_,fun o hc=>?_,vs,ty,(e.block k hlt h2).trans h4,h5,h6⟩
 ·rcases e.own hm with hm|hm
  ·exact h2 hm
  ·exact absurd hlt (Nat.not_lt.2 hm)
 ·rcases e.newC k o hc with hc|hc|hc
  ·exact h3 o hc
  ·exact absurd hlt (Nat.not_lt.2 hc)
  ·exact h2 hc
theorem Evo.al [Known](hm:Mem g bx fr w)(o:Obj):Evo ⟨g,fr,w⟩ ⟨g,fr,w.alloc o⟩:=
 ⟨rfl,rfl,rfl,by simp,fun k hk _=>Below.heap_alloc w _ k hk,fun _ _ h=>h,fun k p h=>WJ w _ (hm.Clt k p h) p,fun _ _ h=>.inl h,fun _ _ h=>h,fun _ h=>.inl h,fun k c h=>.inl ⟨c,h⟩,Wd.refl _ _⟩
theorem Mem.al [Known](hm:Mem g bx fr w)(o:Obj):Mem g bx fr (w.alloc o) where
 bl:=hm.bl
 bat i k cs' h1 h2:=by
  obtain⟨us,ty,k1,k2,k3⟩:=hm.bat i k cs' h1 h2
  exact⟨us,ty,(Below.heap_alloc w _ k (Array.getElem?_eq_some_iff.1 k1).1).trans k1,k2,fun j d v hd hv=>(k3 j d v hd hv).evo (Evo.al hm o)⟩
 bC:=hm.bC
 bN:=hm.bN
 tl:=hm.tl
 tat i k c f h1 h2:=by
  have hT:=hm.tat i k c f h1 h2
  obtain⟨cur,r1,r2⟩:=hT.row
  exact⟨⟨cur,(Below.heap_alloc w _ k (Array.getElem?_eq_some_iff.1 r1).1).trans r1,r2⟩,hT.le,hT.max,hT.pos,hT.far⟩
 tN:=hm.tN
 tρ:=hm.tρ
 Clt k p hC:=by
  have:=hm.Clt k p hC
  simp;omega
 gl:=hm.gl.evo (Evo.al hm o)
theorem HA {k k':Nat}(h:M ⟨g.C,g.ρ++[k],g.τ⟩ k'):M g k'\/k'=k:=by
 rcases h with h|h
 ·rcases List.mem_append.1 h with h|h
  ·exact .inl (.inl h)
  ·simp at h;exact .inr h
 ·exact .inl (.inr h)
theorem Inv.addB [Known][Dfr]{k t:Nat}{cs:List D}(hi:Inv b0 ⟨n,tm,bx,fr,ee⟩ g a w)(hG:KW b0 g w k cs)(ht:a.tmps.getD t undef=.pointer (some ⟨k,0,none⟩)):Inv b0 ⟨n,(t,.ptr bx.length 0)::tm,bx++[cs],fr,ee⟩ ⟨g.C,g.ρ++[k],g.τ⟩ a w:=by
 obtain⟨h1,h2,h3,vs,ty,h4,h5,h6⟩:=hG
 have hm:=hi.mem
 have hρ:∀(i b:Nat),g.ρ[i]?=some b->(g.ρ++[k])[i]?=some b:=fun i b h=>(List.getElem?_append_left (List.getElem?_eq_some_iff.1 h).1).trans h
 have hV:∀ {d:D} {v:Value},V w g fr d v->V w ⟨g.C,g.ρ++[k],g.τ⟩ fr d v:=fun h=>h.mono (fun _ _ h=>h) (fun _ _ _=>rfl) hρ (Wd.refl g fr)
 have hget:∀(i b:Nat),(g.ρ++[k])[i]?=some b->g.ρ[i]?=some b\/(i=g.ρ.length/\b=k):=fun i b h=>by
  rcases Nat.lt_or_ge i g.ρ.length with hlt|hge
  ·rw[List.getElem?_append_left hlt]at h;exact .inl h
  ·rw[List.getElem?_append_right hge]at h
   have h0:i-g.ρ.length=0:=by have:=(List.getElem?_eq_some_iff.1 h).1;simp at this;omega
   simp[h0]at h
   exact .inr ⟨by omega,h.symm⟩
 refine⟨hi.size,hi.defers,⟨?_,?_,?_,?_,hm.tl,?_,hm.tN,?_,hm.Clt,hm.gl⟩,fun x=>?_,⟨hi.evo.os,hi.evo.tape,hi.evo.output,hi.evo.size,hi.evo.block,hi.evo.C,hi.evo.cell,hi.evo.newC,fun i b h=>hρ i b (hi.evo.ρp i b h),fun b h=>?_,hi.evo.τn,hi.evo.tok⟩,hi.bd⟩
 ·simp[hm.bl]
 ·intro i b cs' e1 e2
  rcases hget i b e1 with e3|⟨rfl,rfl⟩
  ·have hlt:i<bx.length:=by rw[<- hm.bl];exact(List.getElem?_eq_some_iff.1 e3).1
   rw[List.getElem?_append_left hlt]at e2
   obtain⟨us,ty',k1,k2,k3⟩:=hm.bat i b cs' e3 e2
   exact⟨us,ty',k1,k2,fun j d v hd hv=>hV (k3 j d v hd hv)⟩
  ·rw[List.getElem?_append_right (by rw[hm.bl];exact Nat.le_refl _),hm.bl]at e2
   simp at e2;subst e2
   exact⟨vs,ty,h4,XT h5.1 h5.2,fun j d v hd hv=>h6 _ _ _ j d v (by rw[Ud h5.2]at hd;exact hd) hv⟩
 ·intro b o hb hC
  rcases List.mem_append.1 hb with h|h
  ·exact hm.bC b o h hC
  ·simp at h;subst h
   exact h3 o hC
 ·intro i j b e1 e2
  have cross:∀ i:Nat,g.ρ[i]?=some b->b=k->False:=fun i e3 e=>by
   subst e;exact h2 (.inl (List.mem_of_getElem? e3))
  rcases hget i b e1 with e3|⟨e3,e3'⟩<;>rcases hget j b e2 with e4|⟨e4,e4'⟩
  ·exact hm.bN i j b e3 e4
  ·exact(cross i e3 e4').elim
  ·exact(cross j e4 e3').elim
  ·omega
 ·intro i b c f e1 e2
  have hT:=hm.tat i b c f e1 e2
  exact⟨hT.row,hT.le,hT.max,hT.pos,hT.far⟩
 ·intro b c hb hr
  rcases List.mem_append.1 hr with h|h
  ·exact hm.tρ b c hb h
  ·simp at h;subst h
   exact h2 (.inr ⟨c,hb⟩)
 ·cases hb:Nat.beq t x with
  | true=>
   have e:=Nat.eq_of_beq_eq_true hb
   subst e
   simp only[look,hb]
   rw[ht]
   exact .ptr _ _ _ (by rw[List.getElem?_append_right (by rw[hm.bl];exact Nat.le_refl _),hm.bl];simp)
  | false=>
   simp only[look,hb]
   exact hV (hi.tm x)
 ·rcases List.mem_append.1 h with h|h
  ·exact hi.evo.ρn b h
  ·simp at h;subst h;exact .inr h1
structure AZk [Known][Dfr](P:Program) (l acts:List Oper) (n:Nat) (zs:List (Nat × Zy)) (tm:List (Nat × D)) (bx:List (List D)) (fr:List Fr) (ee:Nat × Nat) (Q:X->St->Prop):Prop where
 run:AL P l.toArray acts ⟨n,TP bx.length zs tm,bx++zcs zs,fr,ee⟩ Q
theorem N1 [Known][Dfr]{l acts:List Oper}{zs:List (Nat × Zy)}{bx2:List (List D)}{tm2:List (Nat × D)}{k0:Nat}(hk0:VG bx=some k0)(htm:nfl (TP k0 zs tm)=some tm2)(hbx:nfb (bx++zcs zs)=some bx2)(k:AL P l.toArray acts ⟨n,tm2,bx2,fr,ee⟩ Q):AZk P l acts n zs tm bx fr ee Q:=by
 have e1:=YV hk0
 have e2:=Yd htm
 have e3:=Wn hbx
 subst e1 e2 e3
 exact⟨k⟩
end
end Go.Av
end
