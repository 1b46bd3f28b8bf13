/- unicode/utf8.Valid: the rounds. -/
import Derived.Test.YtchlgagdbflkmaaGreatDoorK16
set_option linter.unusedVariables false
set_option linter.unusedSimpArgs false
section
open Go.RowKit Go.Pl Go.Av
namespace Go.Proofs.YtchlgagdbflkmaaGreatDoor
set_option maxHeartbeats 4000000
set_option maxRecDepth 10000 in
theorem BZ [Known][KnownU8](b:List UInt8)(hb:b.length<=140737488351232)(K:St->Prop)(k:Nat)(c:UInt8)(r:List UInt8)(hk:k=r.length+1)(hv:ZI (c::r)=ZI b)(hc:¬ c.toNat<128)(i lo hi:Nat)(e7:bits .and .u8 (fT c.toNat:Int) 7=((1:Nat):Int))(e4:((fT c.toNat:Nat):Int).fdiv (2 ^ min (Int.toNat 4) IntKind.u8.bits)=(i:Int))(hi16:i<16)
  (hvs:(((List.range 16).flatMap aT).drop (0+((i:Nat):Int).toNat*2)).take 2=[.int .u8 (lo:Int),.int .u8 (hi:Int)]) (hp:ptN c.toNat=0):AW Tryz.prog (W5 (Tryz.f269.body.getD .skip)) (vS (c::r)) (vQ b (ZI b) k K):=by
 conv=>enter [3];whnf
 have hU:=Y7 (c::r)
 have hlen:decide ((((c::r).map E.byte).length:Int)>0)=true:=by simp
 have dc:decide ((c.toNat:Int)<128)=false:=by simp;omega
 have hlt:((c.toNat:Nat):Int).toNat<256:=by rw[Int.toNat_natCast];exact c.toNat_lt
 have hlt2:((i:Nat):Int).toNat<16:=by rw[Int.toNat_natCast];exact hi16
 have hfa:=Jz c
 have hks:=KnownU8.first
 have hka:=KnownU8.accept
 have htf:=QI
 have hta:=UM
 rw[<- hv,v0 hp]
 repeat'(first|rw[e7]|rw[e4]|(apply Yu Za;(iterate 6 exact Z);exact Int.natCast_nonneg _;assumption)|(apply Z4 Za;(iterate 3 exact Z);assumption;assumption;assumption;exact Z;exact Z)|(apply Z5 Za;(iterate 3 exact Z);assumption;assumption;assumption;(iterate 3 exact Z))|(apply Zg Za;exact Z)|(apply Zh Za;exact Z)|(apply Zs Za;exact Z)|refine Ze Z Qt ?_|refine Zf Z Qt ?_|refine Zn Za Z Z Z Z ?_|(apply Zw Za;(iterate 6 exact Z);(first|exact Qt|rotate_left);(first|with_reducible assumption|decide +kernel|exact Z);(first|exact Zk rfl|with_reducible assumption|decide +kernel|rotate_left))|(apply Yy;exact Z;exact Z;(first|exact Qt|rotate_left);exact Z))
 all_goals exact Qe
set_option maxRecDepth 10000 in
theorem B0 [Known][KnownU8](b:List UInt8)(hb:b.length<=140737488351232)(K:St->Prop)(k:Nat)(c:UInt8)(r:List UInt8)(hk:k=r.length+1)(hv:ZI (c::r)=ZI b)(hc:¬ c.toNat<128)(i lo hi:Nat)(e7:bits .and .u8 (fT c.toNat:Int) 7=((2:Nat):Int))(e4:((fT c.toNat:Nat):Int).fdiv (2 ^ min (Int.toNat 4) IntKind.u8.bits)=(i:Int))(hi16:i<16)
  (hvs:(((List.range 16).flatMap aT).drop (0+((i:Nat):Int).toNat*2)).take 2=[.int .u8 (lo:Int),.int .u8 (hi:Int)]) (hp:ptN c.toNat=2) (hlo:lo=Y9 c.toNat) (hhi:hi=Wa c.toNat):AW Tryz.prog (W5 (Tryz.f269.body.getD .skip)) (vS (c::r)) (vQ b (ZI b) k K):=by
 conv=>enter [3];whnf
 subst hlo hhi
 have hU:=Y7 (c::r)
 have hlen:decide ((((c::r).map E.byte).length:Int)>0)=true:=by simp
 have dc:decide ((c.toNat:Int)<128)=false:=by simp;omega
 have hlt:((c.toNat:Nat):Int).toNat<256:=by rw[Int.toNat_natCast];exact c.toNat_lt
 have hlt2:((i:Nat):Int).toNat<16:=by rw[Int.toNat_natCast];exact hi16
 have hfa:=Jz c
 have hks:=KnownU8.first
 have hka:=KnownU8.accept
 have htf:=QI
 have hta:=UM
 cases r with
 | nil=>
  have hl:decide (((([c]:List UInt8).map E.byte).length:Int)<2)=true:=rfl
  rw[<- hv,v2s hp]
  repeat'(first|rw[e7]|rw[e4]|(apply Yu Za;(iterate 6 exact Z);exact Int.natCast_nonneg _;assumption)|(apply Z4 Za;(iterate 3 exact Z);assumption;assumption;assumption;exact Z;exact Z)|(apply Z5 Za;(iterate 3 exact Z);assumption;assumption;assumption;(iterate 3 exact Z))|(apply Zg Za;exact Z)|(apply Zh Za;exact Z)|(apply Zs Za;exact Z)|refine Zo Z Z Z Qt ?_|refine Zj Z Qt Z Z ?_|refine Ze Z Qt ?_|refine Zf Z Qt ?_|refine Zn Za Z Z Z Z ?_|(apply ZW 17 ZG;decide +kernel;kernel_rfl;kernel_rfl;exact Z;exact Z)|(apply Yb;(iterate 3 exact Z))|refine AD.nil _|exact Yv rfl|(apply Zw Za;(iterate 6 exact Z);(first|exact Qt|rotate_left);(first|with_reducible assumption|decide +kernel|exact Z);(first|exact Zk rfl|with_reducible assumption|decide +kernel|rotate_left))|(apply Yy;exact Z;exact Z;(first|exact Qt|rotate_left);exact Z))
  all_goals exact Qe
 | cons c1 r=>
  have hl:decide ((((c::c1::r).map E.byte).length:Int)<2)=false:=by simp;omega
  have xd:(c::c1::r).drop (Int.toNat 2)=r:=rfl
  rw[v2 hp]at hv
  cases b1:decide ((c1.toNat:Int)<(Y9 c.toNat:Int)) with
  | true=>
   have hf:ZI b=false:=by
    rw[<- hv]
    have:=of_decide_eq_true b1
    have q:inB c1.toNat (Y9 c.toNat) (Wa c.toNat)=false:=by simp[inB];omega
    rw[q];simp
   rw[hf]
   repeat'(first|rw[e7]|rw[e4]|(apply Yu Za;(iterate 6 exact Z);exact Int.natCast_nonneg _;assumption)|(apply Z4 Za;(iterate 3 exact Z);assumption;assumption;assumption;exact Z;exact Z)|(apply Z5 Za;(iterate 3 exact Z);assumption;assumption;assumption;(iterate 3 exact Z))|(apply Zg Za;exact Z)|(apply Zh Za;exact Z)|(apply Zs Za;exact Z)|refine Zd Z Z Z Qt ?_|refine Zo Z Z Z Qt ?_|refine Zj Z Qt Z Z ?_|refine Zi Z Qt Z Z ?_|refine Ze Z Qt ?_|refine Zf Z Qt ?_|refine Zn Za Z Z Z Z ?_|(apply ZW 17 ZG;decide +kernel;kernel_rfl;kernel_rfl;exact Z;exact Z)|(apply Yb;(iterate 3 exact Z))|refine AD.nil _|exact Yv rfl|(apply Zw Za;(iterate 6 exact Z);(first|exact Qt|rotate_left);(first|with_reducible assumption|decide +kernel|exact Z);(first|exact Zk rfl|with_reducible assumption|decide +kernel|rotate_left))|(apply Yy;exact Z;exact Z;(first|exact Qt|rotate_left);exact Z))
   all_goals exact Qe
  | false=>
   cases b2:decide ((Wa c.toNat:Int)<(c1.toNat:Int)) with
   | true=>
    have hf:ZI b=false:=by
     rw[<- hv]
     have:=of_decide_eq_true b2
     have q:inB c1.toNat (Y9 c.toNat) (Wa c.toNat)=false:=by simp[inB];omega
     rw[q];simp
    rw[hf]
    repeat'(first|rw[e7]|rw[e4]|(apply Yu Za;(iterate 6 exact Z);exact Int.natCast_nonneg _;assumption)|(apply Z4 Za;(iterate 3 exact Z);assumption;assumption;assumption;exact Z;exact Z)|(apply Z5 Za;(iterate 3 exact Z);assumption;assumption;assumption;(iterate 3 exact Z))|(apply Zg Za;exact Z)|(apply Zh Za;exact Z)|(apply Zs Za;exact Z)|refine Zd Z Z Z Qt ?_|refine Zi Z Qt Z Z ?_|refine Ze Z Qt ?_|refine Zf Z Qt ?_|refine Zn Za Z Z Z Z ?_|(apply ZW 17 ZG;decide +kernel;kernel_rfl;kernel_rfl;exact Z;exact Z)|(apply Yb;(iterate 3 exact Z))|refine AD.nil _|exact Yv rfl|(apply Zw Za;(iterate 6 exact Z);(first|exact Qt|rotate_left);(first|with_reducible assumption|decide +kernel|exact Z);(first|exact Zk rfl|with_reducible assumption|decide +kernel|rotate_left))|(apply Yy;exact Z;exact Z;(first|exact Qt|rotate_left);exact Z))
    all_goals exact Qe
   | false=>
    have hv2:ZI r=ZI b:=by
     rw[<- hv]
     have:=of_decide_eq_false b1
     have:=of_decide_eq_false b2
     have q1:inB c1.toNat (Y9 c.toNat) (Wa c.toNat)=true:=by simp[inB];omega
     rw[q1];rfl
    repeat'(first|rw[e7]|rw[e4]|(apply Yu Za;(iterate 6 exact Z);exact Int.natCast_nonneg _;assumption)|(apply Z4 Za;(iterate 3 exact Z);assumption;assumption;assumption;exact Z;exact Z)|(apply Z5 Za;(iterate 3 exact Z);assumption;assumption;assumption;(iterate 3 exact Z))|(apply Vp Za;(iterate 8 exact Z);exact Qb;(first|with_reducible assumption|decide|(simp only[List.length_cons,List.length_drop,List.length_take,List.length_append,Int.toNat_natCast]at *;omega));(first|with_reducible assumption|exact Z))|(apply Zg Za;exact Z)|(apply Zh Za;exact Z)|(apply Zs Za;exact Z)|refine Zd Z Z Z Qt ?_|refine Zi Z Qt Z Z ?_|refine Ze Z Qt ?_|refine Zf Z Qt ?_|refine Zn Za Z Z Z Z ?_|(apply ZW 17 ZG;decide +kernel;kernel_rfl;kernel_rfl;exact Z;exact Z)|(apply Yb;(iterate 3 exact Z))|refine AD.nil _|exact Yv rfl|(apply Zw Za;(iterate 6 exact Z);(first|exact Qt|rotate_left);(first|with_reducible assumption|decide +kernel|exact Z);(first|exact Zk rfl|with_reducible assumption|decide +kernel|rotate_left))|(apply Yy;exact Z;exact Z;(first|exact Qt|rotate_left);exact Z))
    refine Lands.mk' (m:=r.length) (by simp only[List.length_cons]at hk;omega) ⟨r,rfl,hv2,rfl,rfl,rfl⟩ ?_ rfl rfl rfl rfl rfl rfl
    exact .cons rfl (.cons rfl .nil)
set_option maxRecDepth 10000 in
theorem B1 [Known][KnownU8](b:List UInt8)(hb:b.length<=140737488351232)(K:St->Prop)(k:Nat)(c:UInt8)(r:List UInt8)(hk:k=r.length+1)(hv:ZI (c::r)=ZI b)(hc:¬ c.toNat<128)(i lo hi:Nat)(e7:bits .and .u8 (fT c.toNat:Int) 7=((3:Nat):Int))(e4:((fT c.toNat:Nat):Int).fdiv (2 ^ min (Int.toNat 4) IntKind.u8.bits)=(i:Int))(hi16:i<16)
  (hvs:(((List.range 16).flatMap aT).drop (0+((i:Nat):Int).toNat*2)).take 2=[.int .u8 (lo:Int),.int .u8 (hi:Int)]) (hp:ptN c.toNat=3) (hlo:lo=Y9 c.toNat) (hhi:hi=Wa c.toNat):AW Tryz.prog (W5 (Tryz.f269.body.getD .skip)) (vS (c::r)) (vQ b (ZI b) k K):=by
 conv=>enter [3];whnf
 subst hlo hhi
 have hU:=Y7 (c::r)
 have hlen:decide ((((c::r).map E.byte).length:Int)>0)=true:=by simp
 have dc:decide ((c.toNat:Int)<128)=false:=by simp;omega
 have hlt:((c.toNat:Nat):Int).toNat<256:=by rw[Int.toNat_natCast];exact c.toNat_lt
 have hlt2:((i:Nat):Int).toNat<16:=by rw[Int.toNat_natCast];exact hi16
 have hfa:=Jz c
 have hks:=KnownU8.first
 have hka:=KnownU8.accept
 have htf:=QI
 have hta:=UM
 cases r with
 | nil=>
  have hl:decide (((([c]:List UInt8).map E.byte).length:Int)<3)=true:=rfl
  rw[<- hv,v3s hp [] (by simp)]
  repeat'(first|rw[e7]|rw[e4]|(apply Yu Za;(iterate 6 exact Z);exact Int.natCast_nonneg _;assumption)|(apply Z4 Za;(iterate 3 exact Z);assumption;assumption;assumption;exact Z;exact Z)|(apply Z5 Za;(iterate 3 exact Z);assumption;assumption;assumption;(iterate 3 exact Z))|(apply Zg Za;exact Z)|(apply Zh Za;exact Z)|(apply Zs Za;exact Z)|refine Zo Z Z Z Qt ?_|refine Zj Z Qt Z Z ?_|refine Ze Z Qt ?_|refine Zf Z Qt ?_|refine Zn Za Z Z Z Z ?_|(apply ZW 17 ZG;decide +kernel;kernel_rfl;kernel_rfl;exact Z;exact Z)|(apply Yb;(iterate 3 exact Z))|refine AD.nil _|exact Yv rfl|(apply Zw Za;(iterate 6 exact Z);(first|exact Qt|rotate_left);(first|with_reducible assumption|decide +kernel|exact Z);(first|exact Zk rfl|with_reducible assumption|decide +kernel|rotate_left))|(apply Yy;exact Z;exact Z;(first|exact Qt|rotate_left);exact Z))
  all_goals exact Qe
 | cons c1 r=>
  cases r with
  | nil=>
   have hl:decide (((([c,c1]:List UInt8).map E.byte).length:Int)<3)=true:=rfl
   rw[<- hv,v3s hp [c1] (by simp)]
   repeat'(first|rw[e7]|rw[e4]|(apply Yu Za;(iterate 6 exact Z);exact Int.natCast_nonneg _;assumption)|(apply Z4 Za;(iterate 3 exact Z);assumption;assumption;assumption;exact Z;exact Z)|(apply Z5 Za;(iterate 3 exact Z);assumption;assumption;assumption;(iterate 3 exact Z))|(apply Zg Za;exact Z)|(apply Zh Za;exact Z)|(apply Zs Za;exact Z)|refine Zo Z Z Z Qt ?_|refine Zj Z Qt Z Z ?_|refine Ze Z Qt ?_|refine Zf Z Qt ?_|refine Zn Za Z Z Z Z ?_|(apply ZW 17 ZG;decide +kernel;kernel_rfl;kernel_rfl;exact Z;exact Z)|(apply Yb;(iterate 3 exact Z))|refine AD.nil _|exact Yv rfl|(apply Zw Za;(iterate 6 exact Z);(first|exact Qt|rotate_left);(first|with_reducible assumption|decide +kernel|exact Z);(first|exact Zk rfl|with_reducible assumption|decide +kernel|rotate_left))|(apply Yy;exact Z;exact Z;(first|exact Qt|rotate_left);exact Z))
   all_goals exact Qe
  | cons c2 r=>
   have hl:decide ((((c::c1::c2::r).map E.byte).length:Int)<3)=false:=by simp;omega
   have xd:(c::c1::c2::r).drop (Int.toNat 3)=r:=rfl
   rw[v3 hp]at hv
   cases b1:decide ((c1.toNat:Int)<(Y9 c.toNat:Int)) with
   | true=>
    have hf:ZI b=false:=by
     rw[<- hv]
     have:=of_decide_eq_true b1
     have q:inB c1.toNat (Y9 c.toNat) (Wa c.toNat)=false:=by simp[inB];omega
     rw[q];simp
    rw[hf]
    repeat'(first|rw[e7]|rw[e4]|(apply Yu Za;(iterate 6 exact Z);exact Int.natCast_nonneg _;assumption)|(apply Z4 Za;(iterate 3 exact Z);assumption;assumption;assumption;exact Z;exact Z)|(apply Z5 Za;(iterate 3 exact Z);assumption;assumption;assumption;(iterate 3 exact Z))|(apply Zg Za;exact Z)|(apply Zh Za;exact Z)|(apply Zs Za;exact Z)|refine Zd Z Z Z Qt ?_|refine Zo Z Z Z Qt ?_|refine Zj Z Qt Z Z ?_|refine Zi Z Qt Z Z ?_|refine Ze Z Qt ?_|refine Zf Z Qt ?_|refine Zn Za Z Z Z Z ?_|(apply ZW 17 ZG;decide +kernel;kernel_rfl;kernel_rfl;exact Z;exact Z)|(apply Yb;(iterate 3 exact Z))|refine AD.nil _|exact Yv rfl|(apply Zw Za;(iterate 6 exact Z);(first|exact Qt|rotate_left);(first|with_reducible assumption|decide +kernel|exact Z);(first|exact Zk rfl|with_reducible assumption|decide +kernel|rotate_left))|(apply Yy;exact Z;exact Z;(first|exact Qt|rotate_left);exact Z))
    all_goals exact Qe
   | false=>
    cases b2:decide ((Wa c.toNat:Int)<(c1.toNat:Int)) with
    | true=>
     have hf:ZI b=false:=by
      rw[<- hv]
      have:=of_decide_eq_true b2
      have q:inB c1.toNat (Y9 c.toNat) (Wa c.toNat)=false:=by simp[inB];omega
      rw[q];simp
     rw[hf]
     repeat'(first|rw[e7]|rw[e4]|(apply Yu Za;(iterate 6 exact Z);exact Int.natCast_nonneg _;assumption)|(apply Z4 Za;(iterate 3 exact Z);assumption;assumption;assumption;exact Z;exact Z)|(apply Z5 Za;(iterate 3 exact Z);assumption;assumption;assumption;(iterate 3 exact Z))|(apply Zg Za;exact Z)|(apply Zh Za;exact Z)|(apply Zs Za;exact Z)|refine Zd Z Z Z Qt ?_|refine Zo Z Z Z Qt ?_|refine Zj Z Qt Z Z ?_|refine Zi Z Qt Z Z ?_|refine Ze Z Qt ?_|refine Zf Z Qt ?_|refine Zn Za Z Z Z Z ?_|(apply ZW 17 ZG;decide +kernel;kernel_rfl;kernel_rfl;exact Z;exact Z)|(apply Yb;(iterate 3 exact Z))|refine AD.nil _|exact Yv rfl|(apply Zw Za;(iterate 6 exact Z);(first|exact Qt|rotate_left);(first|with_reducible assumption|decide +kernel|exact Z);(first|exact Zk rfl|with_reducible assumption|decide +kernel|rotate_left))|(apply Yy;exact Z;exact Z;(first|exact Qt|rotate_left);exact Z))
     all_goals exact Qe
    | false=>
     cases b3:decide ((c2.toNat:Int)<128) with
     | true=>
      have hf:ZI b=false:=by
       rw[<- hv]
       have:=of_decide_eq_true b3
       have q:inB c2.toNat 128 191=false:=by simp[inB];omega
       rw[q];simp
      rw[hf]
      repeat'(first|rw[e7]|rw[e4]|(apply Yu Za;(iterate 6 exact Z);exact Int.natCast_nonneg _;assumption)|(apply Z4 Za;(iterate 3 exact Z);assumption;assumption;assumption;exact Z;exact Z)|(apply Z5 Za;(iterate 3 exact Z);assumption;assumption;assumption;(iterate 3 exact Z))|(apply Zg Za;exact Z)|(apply Zh Za;exact Z)|(apply Zs Za;exact Z)|refine Zd Z Z Z Qt ?_|refine Zo Z Z Z Qt ?_|refine Zj Z Qt Z Z ?_|refine Zi Z Qt Z Z ?_|refine Ze Z Qt ?_|refine Zf Z Qt ?_|refine Zn Za Z Z Z Z ?_|(apply ZW 17 ZG;decide +kernel;kernel_rfl;kernel_rfl;exact Z;exact Z)|(apply Yb;(iterate 3 exact Z))|refine AD.nil _|exact Yv rfl|(apply Zw Za;(iterate 6 exact Z);(first|exact Qt|rotate_left);(first|with_reducible assumption|decide +kernel|exact Z);(first|exact Zk rfl|with_reducible assumption|decide +kernel|rotate_left))|(apply Yy;exact Z;exact Z;(first|exact Qt|rotate_left);exact Z))
      all_goals exact Qe
     | false=>
      cases b4:decide ((191:Int)<(c2.toNat:Int)) with
      | true=>
       have hf:ZI b=false:=by
        rw[<- hv]
        have:=of_decide_eq_true b4
        have q:inB c2.toNat 128 191=false:=by simp[inB];omega
        rw[q];simp
       rw[hf]
       repeat'(first|rw[e7]|rw[e4]|(apply Yu Za;(iterate 6 exact Z);exact Int.natCast_nonneg _;assumption)|(apply Z4 Za;(iterate 3 exact Z);assumption;assumption;assumption;exact Z;exact Z)|(apply Z5 Za;(iterate 3 exact Z);assumption;assumption;assumption;(iterate 3 exact Z))|(apply Zg Za;exact Z)|(apply Zh Za;exact Z)|(apply Zs Za;exact Z)|refine Zd Z Z Z Qt ?_|refine Zi Z Qt Z Z ?_|refine Ze Z Qt ?_|refine Zf Z Qt ?_|refine Zn Za Z Z Z Z ?_|(apply ZW 17 ZG;decide +kernel;kernel_rfl;kernel_rfl;exact Z;exact Z)|(apply Yb;(iterate 3 exact Z))|refine AD.nil _|exact Yv rfl|(apply Zw Za;(iterate 6 exact Z);(first|exact Qt|rotate_left);(first|with_reducible assumption|decide +kernel|exact Z);(first|exact Zk rfl|with_reducible assumption|decide +kernel|rotate_left))|(apply Yy;exact Z;exact Z;(first|exact Qt|rotate_left);exact Z))
       all_goals exact Qe
      | false=>
       have hv2:ZI r=ZI b:=by
        rw[<- hv]
        have:=of_decide_eq_false b1
        have:=of_decide_eq_false b2
        have:=of_decide_eq_false b3
        have:=of_decide_eq_false b4
        have q1:inB c1.toNat (Y9 c.toNat) (Wa c.toNat)=true:=by simp[inB];omega
        have q2:inB c2.toNat 128 191=true:=by simp[inB];omega
        rw[q1,q2];rfl
       repeat'(first|rw[e7]|rw[e4]|(apply Yu Za;(iterate 6 exact Z);exact Int.natCast_nonneg _;assumption)|(apply Z4 Za;(iterate 3 exact Z);assumption;assumption;assumption;exact Z;exact Z)|(apply Z5 Za;(iterate 3 exact Z);assumption;assumption;assumption;(iterate 3 exact Z))|(apply Vp Za;(iterate 8 exact Z);exact Qb;(first|with_reducible assumption|decide|(simp only[List.length_cons,List.length_drop,List.length_take,List.length_append,Int.toNat_natCast]at *;omega));(first|with_reducible assumption|exact Z))|(apply Zg Za;exact Z)|(apply Zh Za;exact Z)|(apply Zs Za;exact Z)|refine Zd Z Z Z Qt ?_|refine Zi Z Qt Z Z ?_|refine Ze Z Qt ?_|refine Zf Z Qt ?_|refine Zn Za Z Z Z Z ?_|(apply ZW 17 ZG;decide +kernel;kernel_rfl;kernel_rfl;exact Z;exact Z)|(apply Yb;(iterate 3 exact Z))|refine AD.nil _|exact Yv rfl|(apply Zw Za;(iterate 6 exact Z);(first|exact Qt|rotate_left);(first|with_reducible assumption|decide +kernel|exact Z);(first|exact Zk rfl|with_reducible assumption|decide +kernel|rotate_left))|(apply Yy;exact Z;exact Z;(first|exact Qt|rotate_left);exact Z))
       refine Lands.mk' (m:=r.length) (by simp only[List.length_cons]at hk;omega) ⟨r,rfl,hv2,rfl,rfl,rfl⟩ ?_ rfl rfl rfl rfl rfl rfl
       exact .cons rfl (.cons rfl .nil)
end Go.Proofs.YtchlgagdbflkmaaGreatDoor
end
