/- unicode/utf8.Valid: the rounds. -/
import Derived.Test.YtchlgagdbflkmaaDoorS13
set_option linter.unusedVariables false
set_option linter.unusedSimpArgs false
section
open Go.RowKit Go.Pl Go.Av
namespace Go.Proofs.YtchlgagdbflkmaaDoor
set_option maxHeartbeats 4000000
set_option maxRecDepth 10000 in
theorem HS [Known][KnownU8](b:List UInt8)(hb:b.length<=140737488351232)(K:St->Prop)(k:Nat)(c:UInt8)(r:List UInt8)(hk:k=r.length+1)(hv:ZA (c::r)=ZA b)(hc:¬ c.toNat<128)(i lo hi:Nat)(e7:bits .and .u8 (fT c.toNat:Int) 7=((1:Nat):Int))(e4:((fT c.toNat:Nat):Int).fdiv (2 ^ min (Int.toNat 4) IntKind.u8.bits)=(i:Int))(hi16:i<16)
  (hvs:(((List.range 16).flatMap aT).drop (0+((i:Nat):Int).toNat*2)).take 2=[.int .u8 (lo:Int),.int .u8 (hi:Int)]) (hp:ptN c.toNat=0):AW Tryd.prog (Y3 (Tryd.f47.body.getD .skip)) (vS (c::r)) (vQ b (ZA b) k K):=by
 conv=>enter [3];whnf
 have hU:=Yo (c::r)
 have hlen:decide ((((c::r).map E.byte).length:Int)>0)=true:=by simp
 have dc:decide ((c.toNat:Int)<128)=false:=by simp;omega
 have hlt:((c.toNat:Nat):Int).toNat<256:=by rw[Int.toNat_natCast];exact c.toNat_lt
 have hlt2:((i:Nat):Int).toNat<16:=by rw[Int.toNat_natCast];exact hi16
 have hfa:=Uf c
 have hks:=KnownU8.first
 have hka:=KnownU8.accept
 have htf:=VJ
 have hta:=W5
 rw[<- hv,v0 hp]
 repeat'(first|rw[e7]|rw[e4]|(apply Z9 Za;(iterate 6 exact Z);exact Int.natCast_nonneg _;assumption)|(apply ZU Za;(iterate 3 exact Z);assumption;assumption;assumption;exact Z;exact Z)|(apply ZV Za;(iterate 3 exact Z);assumption;assumption;assumption;(iterate 3 exact Z))|refine Zj Za Z ?_|refine Zg Za Z ?_|refine Zv Za Z ?_|refine Zd Z Qt ?_|refine Ze Z Qt ?_|refine Zn Za Z Z Z Z ?_|(apply Zs Za;(iterate 6 exact Z);(first|exact Qt|rotate_left);(first|with_reducible assumption|decide +kernel|exact Z);(first|exact Zf rfl|with_reducible assumption|decide +kernel|rotate_left))|(apply Yg;exact Z;exact Z;(first|exact Qt|rotate_left);exact Z))
 all_goals exact Qe
set_option maxRecDepth 10000 in
theorem HT [Known][KnownU8](b:List UInt8)(hb:b.length<=140737488351232)(K:St->Prop)(k:Nat)(c:UInt8)(r:List UInt8)(hk:k=r.length+1)(hv:ZA (c::r)=ZA b)(hc:¬ c.toNat<128)(i lo hi:Nat)(e7:bits .and .u8 (fT c.toNat:Int) 7=((2:Nat):Int))(e4:((fT c.toNat:Nat):Int).fdiv (2 ^ min (Int.toNat 4) IntKind.u8.bits)=(i:Int))(hi16:i<16)
  (hvs:(((List.range 16).flatMap aT).drop (0+((i:Nat):Int).toNat*2)).take 2=[.int .u8 (lo:Int),.int .u8 (hi:Int)]) (hp:ptN c.toNat=2) (hlo:lo=YC c.toNat) (hhi:hi=YD c.toNat):AW Tryd.prog (Y3 (Tryd.f47.body.getD .skip)) (vS (c::r)) (vQ b (ZA b) k K):=by
 conv=>enter [3];whnf
 subst hlo hhi
 have hU:=Yo (c::r)
 have hlen:decide ((((c::r).map E.byte).length:Int)>0)=true:=by simp
 have dc:decide ((c.toNat:Int)<128)=false:=by simp;omega
 have hlt:((c.toNat:Nat):Int).toNat<256:=by rw[Int.toNat_natCast];exact c.toNat_lt
 have hlt2:((i:Nat):Int).toNat<16:=by rw[Int.toNat_natCast];exact hi16
 have hfa:=Uf c
 have hks:=KnownU8.first
 have hka:=KnownU8.accept
 have htf:=VJ
 have hta:=W5
 cases r with
 | nil=>
  have hl:decide (((([c]:List UInt8).map E.byte).length:Int)<2)=true:=rfl
  rw[<- hv,v2s hp]
  repeat'(first|rw[e7]|rw[e4]|(apply Z9 Za;(iterate 6 exact Z);exact Int.natCast_nonneg _;assumption)|(apply ZU Za;(iterate 3 exact Z);assumption;assumption;assumption;exact Z;exact Z)|(apply ZV Za;(iterate 3 exact Z);assumption;assumption;assumption;(iterate 3 exact Z))|refine Zj Za Z ?_|refine Zg Za Z ?_|refine Zv Za Z ?_|refine Zw Z Z Z Qt ?_|refine Zp Z Qt Z Z ?_|refine Zd Z Qt ?_|refine Ze Z Qt ?_|refine Zn Za Z Z Z Z ?_|(apply ZQ 17 ZG;decide +kernel;kernel_rfl;kernel_rfl;exact Z;exact Z)|(apply ZW;(iterate 3 exact Z))|refine AD.nil _|exact Yn rfl|(apply Zs Za;(iterate 6 exact Z);(first|exact Qt|rotate_left);(first|with_reducible assumption|decide +kernel|exact Z);(first|exact Zf rfl|with_reducible assumption|decide +kernel|rotate_left))|(apply Yg;exact Z;exact Z;(first|exact Qt|rotate_left);exact Z))
  all_goals exact Qe
 | cons c1 r=>
  have hl:decide ((((c::c1::r).map E.byte).length:Int)<2)=false:=by simp;omega
  have xd:(c::c1::r).drop (Int.toNat 2)=r:=rfl
  rw[v2 hp]at hv
  cases b1:decide ((c1.toNat:Int)<(YC c.toNat:Int)) with
  | true=>
   have hf:ZA b=false:=by
    rw[<- hv]
    have:=of_decide_eq_true b1
    have q:inB c1.toNat (YC c.toNat) (YD c.toNat)=false:=by simp[inB];omega
    rw[q];simp
   rw[hf]
   repeat'(first|rw[e7]|rw[e4]|(apply Z9 Za;(iterate 6 exact Z);exact Int.natCast_nonneg _;assumption)|(apply ZU Za;(iterate 3 exact Z);assumption;assumption;assumption;exact Z;exact Z)|(apply ZV Za;(iterate 3 exact Z);assumption;assumption;assumption;(iterate 3 exact Z))|refine Zj Za Z ?_|refine Zg Za Z ?_|refine Zv Za Z ?_|refine Zi Z Z Z Qt ?_|refine Zw Z Z Z Qt ?_|refine Zp Z Qt Z Z ?_|refine Zk Z Qt Z Z ?_|refine Zd Z Qt ?_|refine Ze Z Qt ?_|refine Zn Za Z Z Z Z ?_|(apply ZQ 17 ZG;decide +kernel;kernel_rfl;kernel_rfl;exact Z;exact Z)|(apply ZW;(iterate 3 exact Z))|refine AD.nil _|exact Yn rfl|(apply Zs Za;(iterate 6 exact Z);(first|exact Qt|rotate_left);(first|with_reducible assumption|decide +kernel|exact Z);(first|exact Zf rfl|with_reducible assumption|decide +kernel|rotate_left))|(apply Yg;exact Z;exact Z;(first|exact Qt|rotate_left);exact Z))
   all_goals exact Qe
  | false=>
   cases b2:decide ((YD c.toNat:Int)<(c1.toNat:Int)) with
   | true=>
    have hf:ZA b=false:=by
     rw[<- hv]
     have:=of_decide_eq_true b2
     have q:inB c1.toNat (YC c.toNat) (YD c.toNat)=false:=by simp[inB];omega
     rw[q];simp
    rw[hf]
    repeat'(first|rw[e7]|rw[e4]|(apply Z9 Za;(iterate 6 exact Z);exact Int.natCast_nonneg _;assumption)|(apply ZU Za;(iterate 3 exact Z);assumption;assumption;assumption;exact Z;exact Z)|(apply ZV Za;(iterate 3 exact Z);assumption;assumption;assumption;(iterate 3 exact Z))|refine Zj Za Z ?_|refine Zg Za Z ?_|refine Zv Za Z ?_|refine Zi Z Z Z Qt ?_|refine Zk Z Qt Z Z ?_|refine Zd Z Qt ?_|refine Ze Z Qt ?_|refine Zn Za Z Z Z Z ?_|(apply ZQ 17 ZG;decide +kernel;kernel_rfl;kernel_rfl;exact Z;exact Z)|(apply ZW;(iterate 3 exact Z))|refine AD.nil _|exact Yn rfl|(apply Zs Za;(iterate 6 exact Z);(first|exact Qt|rotate_left);(first|with_reducible assumption|decide +kernel|exact Z);(first|exact Zf rfl|with_reducible assumption|decide +kernel|rotate_left))|(apply Yg;exact Z;exact Z;(first|exact Qt|rotate_left);exact Z))
    all_goals exact Qe
   | false=>
    have hv2:ZA r=ZA b:=by
     rw[<- hv]
     have:=of_decide_eq_false b1
     have:=of_decide_eq_false b2
     have q1:inB c1.toNat (YC c.toNat) (YD c.toNat)=true:=by simp[inB];omega
     rw[q1];rfl
    repeat'(first|rw[e7]|rw[e4]|(apply Z9 Za;(iterate 6 exact Z);exact Int.natCast_nonneg _;assumption)|(apply ZU Za;(iterate 3 exact Z);assumption;assumption;assumption;exact Z;exact Z)|(apply ZV Za;(iterate 3 exact Z);assumption;assumption;assumption;(iterate 3 exact Z))|(apply Wf Za;(iterate 8 exact Z);exact Qb;(first|with_reducible assumption|decide|(simp only[List.length_cons,List.length_drop,List.length_take,List.length_append,Int.toNat_natCast]at *;omega));(first|with_reducible assumption|exact Z))|refine Zj Za Z ?_|refine Zg Za Z ?_|refine Zv Za Z ?_|refine Zi Z Z Z Qt ?_|refine Zk Z Qt Z Z ?_|refine Zd Z Qt ?_|refine Ze Z Qt ?_|refine Zn Za Z Z Z Z ?_|(apply ZQ 17 ZG;decide +kernel;kernel_rfl;kernel_rfl;exact Z;exact Z)|(apply ZW;(iterate 3 exact Z))|refine AD.nil _|exact Yn rfl|(apply Zs Za;(iterate 6 exact Z);(first|exact Qt|rotate_left);(first|with_reducible assumption|decide +kernel|exact Z);(first|exact Zf rfl|with_reducible assumption|decide +kernel|rotate_left))|(apply Yg;exact Z;exact Z;(first|exact Qt|rotate_left);exact Z))
    refine Lands.mk' (m:=r.length) (by simp only[List.length_cons]at hk;omega) ⟨r,rfl,hv2,rfl,rfl,rfl⟩ ?_ rfl rfl rfl rfl rfl rfl
    exact .cons rfl (.cons rfl .nil)
set_option maxRecDepth 10000 in
theorem HU [Known][KnownU8](b:List UInt8)(hb:b.length<=140737488351232)(K:St->Prop)(k:Nat)(c:UInt8)(r:List UInt8)(hk:k=r.length+1)(hv:ZA (c::r)=ZA b)(hc:¬ c.toNat<128)(i lo hi:Nat)(e7:bits .and .u8 (fT c.toNat:Int) 7=((3:Nat):Int))(e4:((fT c.toNat:Nat):Int).fdiv (2 ^ min (Int.toNat 4) IntKind.u8.bits)=(i:Int))(hi16:i<16)
  (hvs:(((List.range 16).flatMap aT).drop (0+((i:Nat):Int).toNat*2)).take 2=[.int .u8 (lo:Int),.int .u8 (hi:Int)]) (hp:ptN c.toNat=3) (hlo:lo=YC c.toNat) (hhi:hi=YD c.toNat):AW Tryd.prog (Y3 (Tryd.f47.body.getD .skip)) (vS (c::r)) (vQ b (ZA b) k K):=by
 conv=>enter [3];whnf
 subst hlo hhi
 have hU:=Yo (c::r)
 have hlen:decide ((((c::r).map E.byte).length:Int)>0)=true:=by simp
 have dc:decide ((c.toNat:Int)<128)=false:=by simp;omega
 have hlt:((c.toNat:Nat):Int).toNat<256:=by rw[Int.toNat_natCast];exact c.toNat_lt
 have hlt2:((i:Nat):Int).toNat<16:=by rw[Int.toNat_natCast];exact hi16
 have hfa:=Uf c
 have hks:=KnownU8.first
 have hka:=KnownU8.accept
 have htf:=VJ
 have hta:=W5
 cases r with
 | nil=>
  have hl:decide (((([c]:List UInt8).map E.byte).length:Int)<3)=true:=rfl
  rw[<- hv,v3s hp [] (by simp)]
  repeat'(first|rw[e7]|rw[e4]|(apply Z9 Za;(iterate 6 exact Z);exact Int.natCast_nonneg _;assumption)|(apply ZU Za;(iterate 3 exact Z);assumption;assumption;assumption;exact Z;exact Z)|(apply ZV Za;(iterate 3 exact Z);assumption;assumption;assumption;(iterate 3 exact Z))|refine Zj Za Z ?_|refine Zg Za Z ?_|refine Zv Za Z ?_|refine Zw Z Z Z Qt ?_|refine Zp Z Qt Z Z ?_|refine Zd Z Qt ?_|refine Ze Z Qt ?_|refine Zn Za Z Z Z Z ?_|(apply ZQ 17 ZG;decide +kernel;kernel_rfl;kernel_rfl;exact Z;exact Z)|(apply ZW;(iterate 3 exact Z))|refine AD.nil _|exact Yn rfl|(apply Zs Za;(iterate 6 exact Z);(first|exact Qt|rotate_left);(first|with_reducible assumption|decide +kernel|exact Z);(first|exact Zf rfl|with_reducible assumption|decide +kernel|rotate_left))|(apply Yg;exact Z;exact Z;(first|exact Qt|rotate_left);exact Z))
  all_goals exact Qe
 | cons c1 r=>
  cases r with
  | nil=>
   have hl:decide (((([c,c1]:List UInt8).map E.byte).length:Int)<3)=true:=rfl
   rw[<- hv,v3s hp [c1] (by simp)]
   repeat'(first|rw[e7]|rw[e4]|(apply Z9 Za;(iterate 6 exact Z);exact Int.natCast_nonneg _;assumption)|(apply ZU Za;(iterate 3 exact Z);assumption;assumption;assumption;exact Z;exact Z)|(apply ZV Za;(iterate 3 exact Z);assumption;assumption;assumption;(iterate 3 exact Z))|refine Zj Za Z ?_|refine Zg Za Z ?_|refine Zv Za Z ?_|refine Zw Z Z Z Qt ?_|refine Zp Z Qt Z Z ?_|refine Zd Z Qt ?_|refine Ze Z Qt ?_|refine Zn Za Z Z Z Z ?_|(apply ZQ 17 ZG;decide +kernel;kernel_rfl;kernel_rfl;exact Z;exact Z)|(apply ZW;(iterate 3 exact Z))|refine AD.nil _|exact Yn rfl|(apply Zs Za;(iterate 6 exact Z);(first|exact Qt|rotate_left);(first|with_reducible assumption|decide +kernel|exact Z);(first|exact Zf rfl|with_reducible assumption|decide +kernel|rotate_left))|(apply Yg;exact Z;exact Z;(first|exact Qt|rotate_left);exact Z))
   all_goals exact Qe
  | cons c2 r=>
   have hl:decide ((((c::c1::c2::r).map E.byte).length:Int)<3)=false:=by simp;omega
   have xd:(c::c1::c2::r).drop (Int.toNat 3)=r:=rfl
   rw[v3 hp]at hv
   cases b1:decide ((c1.toNat:Int)<(YC c.toNat:Int)) with
   | true=>
    have hf:ZA b=false:=by
     rw[<- hv]
     have:=of_decide_eq_true b1
     have q:inB c1.toNat (YC c.toNat) (YD c.toNat)=false:=by simp[inB];omega
     rw[q];simp
    rw[hf]
    repeat'(first|rw[e7]|rw[e4]|(apply Z9 Za;(iterate 6 exact Z);exact Int.natCast_nonneg _;assumption)|(apply ZU Za;(iterate 3 exact Z);assumption;assumption;assumption;exact Z;exact Z)|(apply ZV Za;(iterate 3 exact Z);assumption;assumption;assumption;(iterate 3 exact Z))|refine Zj Za Z ?_|refine Zg Za Z ?_|refine Zv Za Z ?_|refine Zi Z Z Z Qt ?_|refine Zw Z Z Z Qt ?_|refine Zp Z Qt Z Z ?_|refine Zk Z Qt Z Z ?_|refine Zd Z Qt ?_|refine Ze Z Qt ?_|refine Zn Za Z Z Z Z ?_|(apply ZQ 17 ZG;decide +kernel;kernel_rfl;kernel_rfl;exact Z;exact Z)|(apply ZW;(iterate 3 exact Z))|refine AD.nil _|exact Yn rfl|(apply Zs Za;(iterate 6 exact Z);(first|exact Qt|rotate_left);(first|with_reducible assumption|decide +kernel|exact Z);(first|exact Zf rfl|with_reducible assumption|decide +kernel|rotate_left))|(apply Yg;exact Z;exact Z;(first|exact Qt|rotate_left);exact Z))
    all_goals exact Qe
   | false=>
    cases b2:decide ((YD c.toNat:Int)<(c1.toNat:Int)) with
    | true=>
     have hf:ZA b=false:=by
      rw[<- hv]
      have:=of_decide_eq_true b2
      have q:inB c1.toNat (YC c.toNat) (YD c.toNat)=false:=by simp[inB];omega
      rw[q];simp
     rw[hf]
     repeat'(first|rw[e7]|rw[e4]|(apply Z9 Za;(iterate 6 exact Z);exact Int.natCast_nonneg _;assumption)|(apply ZU Za;(iterate 3 exact Z);assumption;assumption;assumption;exact Z;exact Z)|(apply ZV Za;(iterate 3 exact Z);assumption;assumption;assumption;(iterate 3 exact Z))|refine Zj Za Z ?_|refine Zg Za Z ?_|refine Zv Za Z ?_|refine Zi Z Z Z Qt ?_|refine Zw Z Z Z Qt ?_|refine Zp Z Qt Z Z ?_|refine Zk Z Qt Z Z ?_|refine Zd Z Qt ?_|refine Ze Z Qt ?_|refine Zn Za Z Z Z Z ?_|(apply ZQ 17 ZG;decide +kernel;kernel_rfl;kernel_rfl;exact Z;exact Z)|(apply ZW;(iterate 3 exact Z))|refine AD.nil _|exact Yn rfl|(apply Zs Za;(iterate 6 exact Z);(first|exact Qt|rotate_left);(first|with_reducible assumption|decide +kernel|exact Z);(first|exact Zf rfl|with_reducible assumption|decide +kernel|rotate_left))|(apply Yg;exact Z;exact Z;(first|exact Qt|rotate_left);exact Z))
     all_goals exact Qe
    | false=>
     cases b3:decide ((c2.toNat:Int)<128) with
     | true=>
      have hf:ZA b=false:=by
       rw[<- hv]
       have:=of_decide_eq_true b3
       have q:inB c2.toNat 128 191=false:=by simp[inB];omega
       rw[q];simp
      rw[hf]
      repeat'(first|rw[e7]|rw[e4]|(apply Z9 Za;(iterate 6 exact Z);exact Int.natCast_nonneg _;assumption)|(apply ZU Za;(iterate 3 exact Z);assumption;assumption;assumption;exact Z;exact Z)|(apply ZV Za;(iterate 3 exact Z);assumption;assumption;assumption;(iterate 3 exact Z))|refine Zj Za Z ?_|refine Zg Za Z ?_|refine Zv Za Z ?_|refine Zi Z Z Z Qt ?_|refine Zw Z Z Z Qt ?_|refine Zp Z Qt Z Z ?_|refine Zk Z Qt Z Z ?_|refine Zd Z Qt ?_|refine Ze Z Qt ?_|refine Zn Za Z Z Z Z ?_|(apply ZQ 17 ZG;decide +kernel;kernel_rfl;kernel_rfl;exact Z;exact Z)|(apply ZW;(iterate 3 exact Z))|refine AD.nil _|exact Yn rfl|(apply Zs Za;(iterate 6 exact Z);(first|exact Qt|rotate_left);(first|with_reducible assumption|decide +kernel|exact Z);(first|exact Zf rfl|with_reducible assumption|decide +kernel|rotate_left))|(apply Yg;exact Z;exact Z;(first|exact Qt|rotate_left);exact Z))
      all_goals exact Qe
     | false=>
      cases b4:decide ((191:Int)<(c2.toNat:Int)) with
      | true=>
       have hf:ZA b=false:=by
        rw[<- hv]
        have:=of_decide_eq_true b4
        have q:inB c2.toNat 128 191=false:=by simp[inB];omega
        rw[q];simp
       rw[hf]
       repeat'(first|rw[e7]|rw[e4]|(apply Z9 Za;(iterate 6 exact Z);exact Int.natCast_nonneg _;assumption)|(apply ZU Za;(iterate 3 exact Z);assumption;assumption;assumption;exact Z;exact Z)|(apply ZV Za;(iterate 3 exact Z);assumption;assumption;assumption;(iterate 3 exact Z))|refine Zj Za Z ?_|refine Zg Za Z ?_|refine Zv Za Z ?_|refine Zi Z Z Z Qt ?_|refine Zk Z Qt Z Z ?_|refine Zd Z Qt ?_|refine Ze Z Qt ?_|refine Zn Za Z Z Z Z ?_|(apply ZQ 17 ZG;decide +kernel;kernel_rfl;kernel_rfl;exact Z;exact Z)|(apply ZW;(iterate 3 exact Z))|refine AD.nil _|exact Yn rfl|(apply Zs Za;(iterate 6 exact Z);(first|exact Qt|rotate_left);(first|with_reducible assumption|decide +kernel|exact Z);(first|exact Zf rfl|with_reducible assumption|decide +kernel|rotate_left))|(apply Yg;exact Z;exact Z;(first|exact Qt|rotate_left);exact Z))
       all_goals exact Qe
      | false=>
       have hv2:ZA r=ZA b:=by
        rw[<- hv]
        have:=of_decide_eq_false b1
        have:=of_decide_eq_false b2
        have:=of_decide_eq_false b3
        have:=of_decide_eq_false b4
        have q1:inB c1.toNat (YC c.toNat) (YD c.toNat)=true:=by simp[inB];omega
        have q2:inB c2.toNat 128 191=true:=by simp[inB];omega
        rw[q1,q2];rfl
       repeat'(first|rw[e7]|rw[e4]|(apply Z9 Za;(iterate 6 exact Z);exact Int.natCast_nonneg _;assumption)|(apply ZU Za;(iterate 3 exact Z);assumption;assumption;assumption;exact Z;exact Z)|(apply ZV Za;(iterate 3 exact Z);assumption;assumption;assumption;(iterate 3 exact Z))|(apply Wf Za;(iterate 8 exact Z);exact Qb;(first|with_reducible assumption|decide|(simp only[List.length_cons,List.length_drop,List.length_take,List.length_append,Int.toNat_natCast]at *;omega));(first|with_reducible assumption|exact Z))|refine Zj Za Z ?_|refine Zg Za Z ?_|refine Zv Za Z ?_|refine Zi Z Z Z Qt ?_|refine Zk Z Qt Z Z ?_|refine Zd Z Qt ?_|refine Ze Z Qt ?_|refine Zn Za Z Z Z Z ?_|(apply ZQ 17 ZG;decide +kernel;kernel_rfl;kernel_rfl;exact Z;exact Z)|(apply ZW;(iterate 3 exact Z))|refine AD.nil _|exact Yn rfl|(apply Zs Za;(iterate 6 exact Z);(first|exact Qt|rotate_left);(first|with_reducible assumption|decide +kernel|exact Z);(first|exact Zf rfl|with_reducible assumption|decide +kernel|rotate_left))|(apply Yg;exact Z;exact Z;(first|exact Qt|rotate_left);exact Z))
       refine Lands.mk' (m:=r.length) (by simp only[List.length_cons]at hk;omega) ⟨r,rfl,hv2,rfl,rfl,rfl⟩ ?_ rfl rfl rfl rfl rfl rfl
       exact .cons rfl (.cons rfl .nil)
end Go.Proofs.YtchlgagdbflkmaaDoor
end
