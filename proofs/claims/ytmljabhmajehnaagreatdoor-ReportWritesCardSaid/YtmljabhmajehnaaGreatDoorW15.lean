/- unicode/utf8.Valid: the rounds. -/
import Derived.Test.YtmljabhmajehnaaGreatDoorW14
set_option linter.unusedVariables false
set_option linter.unusedSimpArgs false
section
open Go.RowKit Go.Pl Go.Av
namespace Go.Proofs.YtmljabhmajehnaaGreatDoor
set_option maxHeartbeats 4000000
set_option maxRecDepth 10000 in
theorem Sy [Known][KnownU8](b:List UInt8)(hb:b.length<=140737488351232)(K:St->Prop)(k:Nat)(c:UInt8)(r:List UInt8)(hk:k=r.length+1)(hv:ZG (c::r)=ZG b)(hc:¬ c.toNat<128)(i lo hi:Nat)(e7:bits .and .u8 (fT c.toNat:Int) 7=((4:Nat):Int))(e4:((fT c.toNat:Nat):Int).fdiv (2 ^ min (Int.toNat 4) IntKind.u8.bits)=(i:Int))(hi16:i<16)
  (hvs:(((List.range 16).flatMap aT).drop (0+((i:Nat):Int).toNat*2)).take 2=[.int .u8 (lo:Int),.int .u8 (hi:Int)]) (hp:ptN c.toNat=4) (hlo:lo=YN c.toNat) (hhi:hi=YO c.toNat):AW Tryz.prog (WP (Tryz.f187.body.getD .skip)) (vS (c::r)) (vQ b (ZG b) k K):=by
 conv=>enter [3];whnf
 subst hlo hhi
 have hU:=Yj (c::r)
 have hlen:decide ((((c::r).map E.byte).length:Int)>0)=true:=by simp
 have dc:decide ((c.toNat:Int)<128)=false:=by simp;omega
 have hlt:((c.toNat:Nat):Int).toNat<256:=by rw[Int.toNat_natCast];exact c.toNat_lt
 have hlt2:((i:Nat):Int).toNat<16:=by rw[Int.toNat_natCast];exact hi16
 have hfa:=Jh c
 have hks:=KnownU8.first
 have hka:=KnownU8.accept
 have htf:=Qj
 have hta:=Uu
 cases r with
 | nil=>
  have hl:decide (((([c]:List UInt8).map E.byte).length:Int)<4)=true:=rfl
  rw[<- hv,v4s hp [] (by simp)]
  repeat'(first|rw[e7]|rw[e4]|(apply Yx Za;(iterate 6 exact Z);exact Int.natCast_nonneg _;assumption)|(apply Z4 Za;(iterate 3 exact Z);assumption;assumption;assumption;exact Z;exact Z)|(apply Z5 Za;(iterate 3 exact Z);assumption;assumption;assumption;(iterate 3 exact Z))|(apply Zi Za;exact Z)|(apply Zf Za;exact Z)|(apply Zp Za;exact Z)|refine Zn Z Z Z Qt ?_|refine Zj Z Qt Z Z ?_|refine Zd Z Qt ?_|refine Zg Z Qt ?_|refine Zm Za Z Z Z Z ?_|(apply ZP 17 ZD;decide +kernel;kernel_rfl;kernel_rfl;exact Z;exact Z)|(apply ZZ;(iterate 3 exact Z))|refine AD.nil _|exact Ym rfl|(apply Zv Za;(iterate 6 exact Z);(first|exact Qt|rotate_left);(first|with_reducible assumption|decide +kernel|exact Z);(first|exact Zk rfl|with_reducible assumption|decide +kernel|rotate_left))|(apply YC;exact Z;exact Z;(first|exact Qt|rotate_left);exact Z))
  all_goals exact Qe
 | cons c1 r=>
  cases r with
  | nil=>
   have hl:decide (((([c,c1]:List UInt8).map E.byte).length:Int)<4)=true:=rfl
   rw[<- hv,v4s hp [c1] (by simp)]
   repeat'(first|rw[e7]|rw[e4]|(apply Yx Za;(iterate 6 exact Z);exact Int.natCast_nonneg _;assumption)|(apply Z4 Za;(iterate 3 exact Z);assumption;assumption;assumption;exact Z;exact Z)|(apply Z5 Za;(iterate 3 exact Z);assumption;assumption;assumption;(iterate 3 exact Z))|(apply Zi Za;exact Z)|(apply Zf Za;exact Z)|(apply Zp Za;exact Z)|refine Zn Z Z Z Qt ?_|refine Zj Z Qt Z Z ?_|refine Zd Z Qt ?_|refine Zg Z Qt ?_|refine Zm Za Z Z Z Z ?_|(apply ZP 17 ZD;decide +kernel;kernel_rfl;kernel_rfl;exact Z;exact Z)|(apply ZZ;(iterate 3 exact Z))|refine AD.nil _|exact Ym rfl|(apply Zv Za;(iterate 6 exact Z);(first|exact Qt|rotate_left);(first|with_reducible assumption|decide +kernel|exact Z);(first|exact Zk rfl|with_reducible assumption|decide +kernel|rotate_left))|(apply YC;exact Z;exact Z;(first|exact Qt|rotate_left);exact Z))
   all_goals exact Qe
  | cons c2 r=>
   cases r with
   | nil=>
    have hl:decide (((([c,c1,c2]:List UInt8).map E.byte).length:Int)<4)=true:=rfl
    rw[<- hv,v4s hp [c1,c2] (by simp)]
    repeat'(first|rw[e7]|rw[e4]|(apply Yx Za;(iterate 6 exact Z);exact Int.natCast_nonneg _;assumption)|(apply Z4 Za;(iterate 3 exact Z);assumption;assumption;assumption;exact Z;exact Z)|(apply Z5 Za;(iterate 3 exact Z);assumption;assumption;assumption;(iterate 3 exact Z))|(apply Zi Za;exact Z)|(apply Zf Za;exact Z)|(apply Zp Za;exact Z)|refine Zn Z Z Z Qt ?_|refine Zj Z Qt Z Z ?_|refine Zd Z Qt ?_|refine Zg Z Qt ?_|refine Zm Za Z Z Z Z ?_|(apply ZP 17 ZD;decide +kernel;kernel_rfl;kernel_rfl;exact Z;exact Z)|(apply ZZ;(iterate 3 exact Z))|refine AD.nil _|exact Ym rfl|(apply Zv Za;(iterate 6 exact Z);(first|exact Qt|rotate_left);(first|with_reducible assumption|decide +kernel|exact Z);(first|exact Zk rfl|with_reducible assumption|decide +kernel|rotate_left))|(apply YC;exact Z;exact Z;(first|exact Qt|rotate_left);exact Z))
    all_goals exact Qe
   | cons c3 r=>
    have hl:decide ((((c::c1::c2::c3::r).map E.byte).length:Int)<4)=false:=by simp;omega
    have xd:(c::c1::c2::c3::r).drop (Int.toNat 4)=r:=rfl
    rw[v4 hp]at hv
    cases b1:decide ((c1.toNat:Int)<(YN c.toNat:Int)) with
    | true=>
     have hf:ZG b=false:=by
      rw[<- hv]
      have:=of_decide_eq_true b1
      have q:inB c1.toNat (YN c.toNat) (YO c.toNat)=false:=by simp[inB];omega
      rw[q];simp
     rw[hf]
     repeat'(first|rw[e7]|rw[e4]|(apply Yx Za;(iterate 6 exact Z);exact Int.natCast_nonneg _;assumption)|(apply Z4 Za;(iterate 3 exact Z);assumption;assumption;assumption;exact Z;exact Z)|(apply Z5 Za;(iterate 3 exact Z);assumption;assumption;assumption;(iterate 3 exact Z))|(apply Zi Za;exact Z)|(apply Zf Za;exact Z)|(apply Zp Za;exact Z)|refine Ze Z Z Z Qt ?_|refine Zn Z Z Z Qt ?_|refine Zj Z Qt Z Z ?_|refine Zh Z Qt Z Z ?_|refine Zd Z Qt ?_|refine Zg Z Qt ?_|refine Zm Za Z Z Z Z ?_|(apply ZP 17 ZD;decide +kernel;kernel_rfl;kernel_rfl;exact Z;exact Z)|(apply ZZ;(iterate 3 exact Z))|refine AD.nil _|exact Ym rfl|(apply Zv Za;(iterate 6 exact Z);(first|exact Qt|rotate_left);(first|with_reducible assumption|decide +kernel|exact Z);(first|exact Zk rfl|with_reducible assumption|decide +kernel|rotate_left))|(apply YC;exact Z;exact Z;(first|exact Qt|rotate_left);exact Z))
     all_goals exact Qe
    | false=>
     cases b2:decide ((YO c.toNat:Int)<(c1.toNat:Int)) with
     | true=>
      have hf:ZG b=false:=by
       rw[<- hv]
       have:=of_decide_eq_true b2
       have q:inB c1.toNat (YN c.toNat) (YO c.toNat)=false:=by simp[inB];omega
       rw[q];simp
      rw[hf]
      repeat'(first|rw[e7]|rw[e4]|(apply Yx Za;(iterate 6 exact Z);exact Int.natCast_nonneg _;assumption)|(apply Z4 Za;(iterate 3 exact Z);assumption;assumption;assumption;exact Z;exact Z)|(apply Z5 Za;(iterate 3 exact Z);assumption;assumption;assumption;(iterate 3 exact Z))|(apply Zi Za;exact Z)|(apply Zf Za;exact Z)|(apply Zp Za;exact Z)|refine Ze Z Z Z Qt ?_|refine Zn Z Z Z Qt ?_|refine Zj Z Qt Z Z ?_|refine Zh Z Qt Z Z ?_|refine Zd Z Qt ?_|refine Zg Z Qt ?_|refine Zm Za Z Z Z Z ?_|(apply ZP 17 ZD;decide +kernel;kernel_rfl;kernel_rfl;exact Z;exact Z)|(apply ZZ;(iterate 3 exact Z))|refine AD.nil _|exact Ym rfl|(apply Zv Za;(iterate 6 exact Z);(first|exact Qt|rotate_left);(first|with_reducible assumption|decide +kernel|exact Z);(first|exact Zk rfl|with_reducible assumption|decide +kernel|rotate_left))|(apply YC;exact Z;exact Z;(first|exact Qt|rotate_left);exact Z))
      all_goals exact Qe
     | false=>
      cases b3:decide ((c2.toNat:Int)<128) with
      | true=>
       have hf:ZG b=false:=by
        rw[<- hv]
        have:=of_decide_eq_true b3
        have q:inB c2.toNat 128 191=false:=by simp[inB];omega
        rw[q];simp
       rw[hf]
       repeat'(first|rw[e7]|rw[e4]|(apply Yx Za;(iterate 6 exact Z);exact Int.natCast_nonneg _;assumption)|(apply Z4 Za;(iterate 3 exact Z);assumption;assumption;assumption;exact Z;exact Z)|(apply Z5 Za;(iterate 3 exact Z);assumption;assumption;assumption;(iterate 3 exact Z))|(apply Zi Za;exact Z)|(apply Zf Za;exact Z)|(apply Zp Za;exact Z)|refine Ze Z Z Z Qt ?_|refine Zn Z Z Z Qt ?_|refine Zj Z Qt Z Z ?_|refine Zh Z Qt Z Z ?_|refine Zd Z Qt ?_|refine Zg Z Qt ?_|refine Zm Za Z Z Z Z ?_|(apply ZP 17 ZD;decide +kernel;kernel_rfl;kernel_rfl;exact Z;exact Z)|(apply ZZ;(iterate 3 exact Z))|refine AD.nil _|exact Ym rfl|(apply Zv Za;(iterate 6 exact Z);(first|exact Qt|rotate_left);(first|with_reducible assumption|decide +kernel|exact Z);(first|exact Zk rfl|with_reducible assumption|decide +kernel|rotate_left))|(apply YC;exact Z;exact Z;(first|exact Qt|rotate_left);exact Z))
       all_goals exact Qe
      | false=>
       cases b4:decide ((191:Int)<(c2.toNat:Int)) with
       | true=>
        have hf:ZG b=false:=by
         rw[<- hv]
         have:=of_decide_eq_true b4
         have q:inB c2.toNat 128 191=false:=by simp[inB];omega
         rw[q];simp
        rw[hf]
        repeat'(first|rw[e7]|rw[e4]|(apply Yx Za;(iterate 6 exact Z);exact Int.natCast_nonneg _;assumption)|(apply Z4 Za;(iterate 3 exact Z);assumption;assumption;assumption;exact Z;exact Z)|(apply Z5 Za;(iterate 3 exact Z);assumption;assumption;assumption;(iterate 3 exact Z))|(apply Zi Za;exact Z)|(apply Zf Za;exact Z)|(apply Zp Za;exact Z)|refine Ze Z Z Z Qt ?_|refine Zn Z Z Z Qt ?_|refine Zj Z Qt Z Z ?_|refine Zh Z Qt Z Z ?_|refine Zd Z Qt ?_|refine Zg Z Qt ?_|refine Zm Za Z Z Z Z ?_|(apply ZP 17 ZD;decide +kernel;kernel_rfl;kernel_rfl;exact Z;exact Z)|(apply ZZ;(iterate 3 exact Z))|refine AD.nil _|exact Ym rfl|(apply Zv Za;(iterate 6 exact Z);(first|exact Qt|rotate_left);(first|with_reducible assumption|decide +kernel|exact Z);(first|exact Zk rfl|with_reducible assumption|decide +kernel|rotate_left))|(apply YC;exact Z;exact Z;(first|exact Qt|rotate_left);exact Z))
        all_goals exact Qe
       | false=>
        cases b5:decide ((c3.toNat:Int)<128) with
        | true=>
         have hf:ZG b=false:=by
          rw[<- hv]
          have:=of_decide_eq_true b5
          have q:inB c3.toNat 128 191=false:=by simp[inB];omega
          rw[q];simp
         rw[hf]
         repeat'(first|rw[e7]|rw[e4]|(apply Yx Za;(iterate 6 exact Z);exact Int.natCast_nonneg _;assumption)|(apply Z4 Za;(iterate 3 exact Z);assumption;assumption;assumption;exact Z;exact Z)|(apply Z5 Za;(iterate 3 exact Z);assumption;assumption;assumption;(iterate 3 exact Z))|(apply Zi Za;exact Z)|(apply Zf Za;exact Z)|(apply Zp Za;exact Z)|refine Ze Z Z Z Qt ?_|refine Zn Z Z Z Qt ?_|refine Zj Z Qt Z Z ?_|refine Zh Z Qt Z Z ?_|refine Zd Z Qt ?_|refine Zg Z Qt ?_|refine Zm Za Z Z Z Z ?_|(apply ZP 17 ZD;decide +kernel;kernel_rfl;kernel_rfl;exact Z;exact Z)|(apply ZZ;(iterate 3 exact Z))|refine AD.nil _|exact Ym rfl|(apply Zv Za;(iterate 6 exact Z);(first|exact Qt|rotate_left);(first|with_reducible assumption|decide +kernel|exact Z);(first|exact Zk rfl|with_reducible assumption|decide +kernel|rotate_left))|(apply YC;exact Z;exact Z;(first|exact Qt|rotate_left);exact Z))
         all_goals exact Qe
        | false=>
         cases b6:decide ((191:Int)<(c3.toNat:Int)) with
         | true=>
          have hf:ZG b=false:=by
           rw[<- hv]
           have:=of_decide_eq_true b6
           have q:inB c3.toNat 128 191=false:=by simp[inB];omega
           rw[q];simp
          rw[hf]
          repeat'(first|rw[e7]|rw[e4]|(apply Yx Za;(iterate 6 exact Z);exact Int.natCast_nonneg _;assumption)|(apply Z4 Za;(iterate 3 exact Z);assumption;assumption;assumption;exact Z;exact Z)|(apply Z5 Za;(iterate 3 exact Z);assumption;assumption;assumption;(iterate 3 exact Z))|(apply Zi Za;exact Z)|(apply Zf Za;exact Z)|(apply Zp Za;exact Z)|refine Ze Z Z Z Qt ?_|refine Zh Z Qt Z Z ?_|refine Zd Z Qt ?_|refine Zg Z Qt ?_|refine Zm Za Z Z Z Z ?_|(apply ZP 17 ZD;decide +kernel;kernel_rfl;kernel_rfl;exact Z;exact Z)|(apply ZZ;(iterate 3 exact Z))|refine AD.nil _|exact Ym rfl|(apply Zv Za;(iterate 6 exact Z);(first|exact Qt|rotate_left);(first|with_reducible assumption|decide +kernel|exact Z);(first|exact Zk rfl|with_reducible assumption|decide +kernel|rotate_left))|(apply YC;exact Z;exact Z;(first|exact Qt|rotate_left);exact Z))
          all_goals exact Qe
         | false=>
          have hv2:ZG r=ZG b:=by
           rw[<- hv]
           have:=of_decide_eq_false b1
           have:=of_decide_eq_false b2
           have:=of_decide_eq_false b3
           have:=of_decide_eq_false b4
           have:=of_decide_eq_false b5
           have:=of_decide_eq_false b6
           have q1:inB c1.toNat (YN c.toNat) (YO c.toNat)=true:=by simp[inB];omega
           have q2:inB c2.toNat 128 191=true:=by simp[inB];omega
           have q3:inB c3.toNat 128 191=true:=by simp[inB];omega
           rw[q1,q2,q3];rfl
          repeat'(first|rw[e7]|rw[e4]|(apply Yx Za;(iterate 6 exact Z);exact Int.natCast_nonneg _;assumption)|(apply Z4 Za;(iterate 3 exact Z);assumption;assumption;assumption;exact Z;exact Z)|(apply Z5 Za;(iterate 3 exact Z);assumption;assumption;assumption;(iterate 3 exact Z))|(apply WM Za;(iterate 8 exact Z);exact Qb;(first|with_reducible assumption|decide|(simp only[List.length_cons,List.length_drop,List.length_take,List.length_append,Int.toNat_natCast]at *;omega));(first|with_reducible assumption|exact Z))|(apply Zi Za;exact Z)|(apply Zf Za;exact Z)|(apply Zp Za;exact Z)|refine Ze Z Z Z Qt ?_|refine Zh Z Qt Z Z ?_|refine Zd Z Qt ?_|refine Zg Z Qt ?_|refine Zm Za Z Z Z Z ?_|(apply ZP 17 ZD;decide +kernel;kernel_rfl;kernel_rfl;exact Z;exact Z)|(apply ZZ;(iterate 3 exact Z))|refine AD.nil _|exact Ym rfl|(apply Zv Za;(iterate 6 exact Z);(first|exact Qt|rotate_left);(first|with_reducible assumption|decide +kernel|exact Z);(first|exact Zk rfl|with_reducible assumption|decide +kernel|rotate_left))|(apply YC;exact Z;exact Z;(first|exact Qt|rotate_left);exact Z))
          refine Lands.mk' (m:=r.length) (by simp only[List.length_cons]at hk;omega) ⟨r,rfl,hv2,rfl,rfl,rfl⟩ ?_ rfl rfl rfl rfl rfl rfl
          exact .cons rfl (.cons rfl .nil)
theorem Ii [Known][KnownU8](b:List UInt8)(hb:b.length<=140737488351232):AP Tryz.prog 187 [byE b] (.bool (ZG b)) []:=by
 refine AP.ofA (Zl Tryz.func187 Z Tryz.ntmps187 Z Z ?_)
 repeat'(first|(apply T9 Za;(iterate 9 exact Z);(simp);(simp))|(apply Zi Za;exact Z)|(apply Zf Za;exact Z)|refine Zm Za Z Z Z Z ?_)
 refine ZQ (vJ b) (b.length+1) (Lands.mk' (m:=b.length) (Nat.lt_succ_self _) ⟨b,rfl,rfl,rfl,rfl,rfl⟩ ?_ rfl rfl rfl rfl rfl rfl) ?_
 ·exact .cons rfl (.cons rfl .nil)
 rintro k tm bx fr ⟨l,hk,hv,rfl,rfl,rfl⟩
 cases l with
 | nil=>
  rw[<- hv]
  repeat'(first|(apply Zi Za;exact Z)|(apply Zf Za;exact Z)|(apply Zp Za;exact Z)|refine Zg Z Qt ?_|refine Zm Za Z Z Z Z ?_)
  all_goals exact Qe
 | cons c r=>
  have key:∀ K:St->Prop,AW Tryz.prog (WP (Tryz.f187.body.getD .skip)) (vS (c::r)) (vQ b (ZG b) k K):=fun K=>by
   simp only[List.length_cons]at hk
   by_cases hc:c.toNat<128
   ·exact RD b hb K k c r hk hv hc
   ·obtain⟨sz,i,lo,hi,e7,e4,hi16,hvs,hcls⟩:=cls c (by omega)
    rcases hcls with⟨rfl,hp⟩ | ⟨rfl|rfl|rfl,hp,hlo,hhi⟩
    ·exact Sv b hb K k c r hk hv hc i lo hi e7 e4 hi16 hvs hp
    ·exact Sw b hb K k c r hk hv hc i lo hi e7 e4 hi16 hvs hp hlo hhi
    ·exact Sx b hb K k c r hk hv hc i lo hi e7 e4 hi16 hvs hp hlo hhi
    ·exact Sy b hb K k c r hk hv hc i lo hi e7 e4 hi16 hvs hp hlo hhi
  exact key _
theorem Sz {α:Type}{f:α->E}(b:List α):(((b.map f).length:Int)==0)=b.isEmpty:=by cases b<;>simp<;>omega
theorem RF (l:List It):(((Zu l).length:Int)==0)=l.isEmpty:=by rw[Zx];cases l<;>simp<;>omega
theorem n0 (n:Nat):((n:Int)==0)=decide (n=0):=by rw[Bool.eq_iff_iff];simp
theorem LQ [Known][KnownU8](k:Int)(n:Nat)(b:List UInt8)(l:List It)(hb:b.length<=140737488351232):AP Tryz.prog 171 [.agg (itC k n b l)] (.bool (WD k n b l)) []:=by
 have e1:=Sz (f:=E.byte) b
 have e2:=RF l
 have e3:=n0 n
 have hv:=Ii b hb
 by_cases k0:k=0
 ·subst k0
  cases hbe:b.isEmpty<;>cases hle:l.isEmpty
  all_goals
   rw[hbe]at e1
   rw[hle]at e2
   have e:WD 0 n b l=(b.isEmpty&&l.isEmpty):=rfl
   rw[e,hbe,hle]
   refine AP.ofA (Zl Tryz.func171 Z Tryz.ntmps171 Z Z ?_)
   repeat'(first|rw[e1]|rw[e2]|(apply Zi Za;exact Z)|(apply Zf Za;exact Z)|refine Ze Z Z Z Qt ?_|refine Zt Z Z Z Qt ?_|refine Zj Z Qt Z Z ?_|refine Zh Z Qt Z Z ?_|refine Zd Z Qt ?_|refine Zm Za Z Z Z Z ?_)
   all_goals exact Qe
 by_cases k2:k=2
 ·subst k2
  cases hbe:decide (n=0)<;>cases hle:l.isEmpty
  all_goals
   rw[hbe]at e3
   rw[hle]at e2
   have e:WD 2 n b l=(decide (n=0)&&l.isEmpty):=rfl
   rw[e,hbe,hle]
   refine AP.ofA (Zl Tryz.func171 Z Tryz.ntmps171 Z Z ?_)
   repeat'(first|rw[e2]|rw[e3]|(apply Zi Za;exact Z)|(apply Zf Za;exact Z)|refine Ze Z Z Z Qt ?_|refine Zt Z Z Z Qt ?_|refine Zj Z Qt Z Z ?_|refine Zh Z Qt Z Z ?_|refine Zd Z Qt ?_|refine Zg Z Qt ?_|refine Zm Za Z Z Z Z ?_)
   all_goals exact Qe
 by_cases k3:k=3
 ·subst k3
  cases hbe:decide (n=0)<;>cases hle:l.isEmpty
  all_goals
   rw[hbe]at e3
   rw[hle]at e2
   have e:WD 3 n b l=(decide (n=0)&&(l.isEmpty&&ZG b)):=rfl
   rw[e,hbe,hle]
   refine AP.ofA (Zl Tryz.func171 Z Tryz.ntmps171 Z Z ?_)
   repeat'(first|rw[e2]|rw[e3]|(apply Zb (hv);kernel_rfl;(iterate 4 exact Z))|(apply Zi Za;exact Z)|(apply Zf Za;exact Z)|refine Ze Z Z Z Qt ?_|refine Zt Z Z Z Qt ?_|refine Zj Z Qt Z Z ?_|refine Zh Z Qt Z Z ?_|refine Zd Z Qt ?_|refine Zg Z Qt ?_|refine Zm Za Z Z Z Z ?_)
   all_goals exact Qe
 by_cases k4:k=4
 ·subst k4
  cases hbe:decide (n=0)<;>cases hle:b.isEmpty
  all_goals
   rw[hbe]at e3
   rw[hle]at e1
   have e:WD 4 n b l=(decide (n=0)&&b.isEmpty):=rfl
   rw[e,hbe,hle]
   refine AP.ofA (Zl Tryz.func171 Z Tryz.ntmps171 Z Z ?_)
   repeat'(first|rw[e1]|rw[e3]|(apply Zi Za;exact Z)|(apply Zf Za;exact Z)|refine Ze Z Z Z Qt ?_|refine Zt Z Z Z Qt ?_|refine Zj Z Qt Z Z ?_|refine Zh Z Qt Z Z ?_|refine Zd Z Qt ?_|refine Zg Z Qt ?_|refine Zm Za Z Z Z Z ?_)
   all_goals exact Qe
 ·have t0:(k==0)=false:=by simpa using k0
  have t2:(k==2)=false:=by simpa using k2
  have t3:(k==3)=false:=by simpa using k3
  have t4:(k==4)=false:=by simpa using k4
  have e:WD k n b l=false:=by simp[WD,k0,k2,k3,k4]
  rw[e]
  refine AP.ofA (Zl Tryz.func171 Z Tryz.ntmps171 Z Z ?_)
  repeat'(first|(apply Zf Za;exact Z)|refine Zg Z Qt ?_)
  all_goals exact Qe
def wkN:Option Nat->Int
 | some m=>(m:Int)
 | none => -1
theorem MK [Known][KnownU8]:∀(x:It),wfI x->∀ d m:Nat,d<=7->m<=256->AP Tryz.prog 149 [itD x,.int .i64 (d:Int),.int .i64 (m:Int)] (.int .i64 (wkN (Y3 x d m))) []:=by
 refine It.ind fun k n b l ih hw d m hd hm=>?_
 obtain⟨hn,hb,hl,hws⟩:=hw
 have hown:=LQ k n b l hb
 have hlen:=Zx l
 show AP Tryz.prog _ [.agg (itC k n b l),_,_] _ _
 rw[Y3]
 have em:1<=m->IntKind.i64.wrap ((m:Int)-1)=((m-1:Nat):Int):=fun h=>by rw[IntWalk.i64_in _ (by omega)];omega
 have ed:IntKind.i64.wrap ((d:Int)+1)=((d+1:Nat):Int):=by rw[IntWalk.i64_in _ (by omega)];omega
 by_cases hd6:6<d
 ·rw[if_pos hd6]
  have t1:decide ((d:Int)>6)=true:=by simp;omega
  refine AP.ofA (Zl Tryz.func149 Z Tryz.ntmps149 Z Z ?_)
  repeat'(first|(apply Zi Za;exact Z)|(apply Zf Za;exact Z)|(apply Zp Za;exact Z)|refine Zn Z Z Z Qt ?_|refine Zj Z Qt Z Z ?_|refine Zd Z Qt ?_)
  all_goals exact Qe
 have t1:decide ((d:Int)>6)=false:=by simp;omega
 rw[if_neg hd6]
 by_cases hm1:m<1
 ·rw[if_pos hm1]
  have t2:decide ((m:Int)<1)=true:=by simp;omega
  refine AP.ofA (Zl Tryz.func149 Z Tryz.ntmps149 Z Z ?_)
  repeat'(first|(apply Zi Za;exact Z)|(apply Zf Za;exact Z)|(apply Zp Za;exact Z)|refine Ze Z Z Z Qt ?_|refine Zn Z Z Z Qt ?_|refine Zj Z Qt Z Z ?_|refine Zh Z Qt Z Z ?_|refine Zd Z Qt ?_)
  all_goals exact Qe
 have t2:decide ((m:Int)<1)=false:=by simp;omega
 rw[if_neg hm1]
 have em:=em (by omega)
 cases ho:WD k n b l with
 | false=>
  rw[ho]at hown
  dsimp only
  refine AP.ofA (Zl Tryz.func149 Z Tryz.ntmps149 Z Z ?_)
  repeat'(first|(apply Zb (hown);kernel_rfl;(iterate 4 exact Z))|(apply Zi Za;exact Z)|(apply Zf Za;exact Z)|(apply Zp Za;exact Z)|refine Ze Z Z Z Qt ?_|refine Zh Z Qt Z Z ?_|refine Zd Z Qt ?_)
  all_goals exact Qe
 | true=>
  rw[ho]at hown
  dsimp only
  generalize hfin:YB l (d+1) (m-1)=fin
  refine AP.ofA (Zl Tryz.func149 Z Tryz.ntmps149 Z Z ?_)
  repeat'(first|rw[em]|(apply Zb (hown);kernel_rfl;(iterate 4 exact Z))|(apply Zi Za;exact Z)|(apply Zf Za;exact Z)|(apply Zp Za;exact Z)|refine Ze Z Z Z Qt ?_|refine Zh Z Qt Z Z ?_|refine Zg Z Qt ?_|refine Zm Za Z Z Z Z ?_)
  refine ZQ (fun f tm bx fr=>∃ i m':Nat,f+i=l.length/\m'<=256/\YB (l.drop i) (d+1) m'=fin/\tm=[(1,.int .i64 (d:Int)),(2,.int .i64 (m':Int)),(23,.sl .ext (Zu l)),(24,.int .i64 ((Zu l).length:Int)),(25,.int .i64 (i:Int)),(6,.int .i64 0)]/\bx=[itC k n b l]/\fr=[]) (l.length+1) (Lands.mk' (m:=l.length) (Nat.lt_succ_self _) ⟨0,m-1,rfl,by omega,hfin,rfl,rfl,rfl⟩ ?_ rfl rfl rfl rfl rfl rfl) ?_
  ·exact .cons rfl (.cons rfl (.cons rfl (.cons rfl (.cons rfl (.cons rfl .nil)))))
  rintro f tm bx fr ⟨i,m',hf,hm',hfin,rfl,rfl,rfl⟩
  have hU:=Yz l
  rcases Nat.lt_or_ge i l.length with hlt|hge
  ·have hdl:decide ((i:Int)<((Zu l).length:Int))=true:=decide_eq_true (by omega)
   obtain⟨⟨k1,n1,b1,l1⟩,hy⟩:∃ y,l[i]?=some y:=⟨_,List.getElem?_eq_getElem hlt⟩
   have hv:(Zu l)[((i:Nat):Int).toNat]?=some (.agg [.int .i64 k1,.int .u64 (n1:Int),.sl (b1.map E.byte),.sl (Zu l1)]):=by
    rw[Int.toNat_natCast,Yk,List.getElem?_map,hy];rfl
   have hmem:=List.mem_of_getElem? hy
   have hc:=ih _ hmem (Y5 hws _ hmem) (d+1) m' (by omega) hm'
   have hdr:l.drop i=It.mk k1 n1 b1 l1::l.drop (i+1):=by
    rw[List.drop_eq_getElem_cons hlt];congr 1
    have:=(List.getElem?_eq_some_iff.1 hy).2;exact this
   rw[hdr,YB]at hfin
   have ei:IntKind.i64.wrap ((i:Int)+1)=((i+1:Nat):Int):=by rw[IntWalk.i64_in _ (by omega)];omega
   cases hwk:Y3 (.mk k1 n1 b1 l1) (d+1) m' with
   | none=>
    rw[hwk]at hfin hc
    subst hfin
    repeat'(first|rw[ed]|(apply Zb (hc);kernel_rfl;(iterate 4 exact Z))|(apply Zi Za;exact Z)|(apply Zf Za;exact Z)|refine Zd Z Qt ?_|(apply Zv Za;(iterate 6 exact Z);(first|exact Qt|rotate_left);(first|with_reducible assumption|decide +kernel|exact Z);(first|exact Zk rfl|with_reducible assumption|decide +kernel|rotate_left)))
    all_goals exact Qe
   | some r=>
    rw[hwk]at hfin hc
    simp only[wkN]at hc
    have hlt2:=Ve hwk
    have tr:decide ((r:Int)<0)=false:=by simp
    repeat'(first|rw[ed]|rw[ei]|(apply Zb (hc);kernel_rfl;(iterate 4 exact Z))|(apply Zi Za;exact Z)|(apply Zf Za;exact Z)|refine Zd Z Qt ?_|refine Zg Z Qt ?_|(apply Zv Za;(iterate 6 exact Z);(first|exact Qt|rotate_left);(first|with_reducible assumption|decide +kernel|exact Z);(first|exact Zk rfl|with_reducible assumption|decide +kernel|rotate_left)))
    refine Lands.mk' (m:=f-1) (by omega) ⟨i+1,r,by omega,by omega,hfin,rfl,rfl,rfl⟩ ?_ rfl rfl rfl rfl rfl rfl
    exact .cons rfl (.cons rfl (.cons rfl (.cons rfl (.cons rfl (.cons rfl .nil)))))
  ·have hdl:decide ((i:Int)<((Zu l).length:Int))=false:=decide_eq_false (by omega)
   have hdr:l.drop i=[]:=List.drop_eq_nil_of_le hge
   rw[hdr,YB]at hfin
   subst hfin
   repeat'(first|(apply Zf Za;exact Z)|refine Zg Z Qt ?_)
   all_goals exact Qe
theorem Wt [Known][KnownU8](x:It)(hw:wfI x):AP Tryz.prog 113 [itD x] (.bool (ZN x)) []:=by
 have hk:=MK x hw 1 256 (by omega) (by omega)
 have e:decide (wkN (Y3 x 1 256) ≥ 0)=ZN x:=by
  unfold ZN
  cases Y3 x 1 256<;>simp[wkN]
 obtain⟨k,n,b,l⟩:=x
 refine AP.ofA (Zl Tryz.func113 Z Tryz.ntmps113 Z Z ?_)
 repeat'(first|rw[e]|(apply Zb (hk);kernel_rfl;(iterate 4 exact Z))|(apply Zi Za;exact Z)|(apply Zf Za;exact Z))
 all_goals exact Qe
end Go.Proofs.YtmljabhmajehnaaGreatDoor
end
