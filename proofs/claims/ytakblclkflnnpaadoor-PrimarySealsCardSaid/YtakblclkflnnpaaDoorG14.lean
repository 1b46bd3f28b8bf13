/- unicode/utf8.Valid: the rounds. -/
import Derived.Test.YtakblclkflnnpaaDoorG13
set_option linter.unusedVariables false
set_option linter.unusedSimpArgs false
section
open Go.RowKit Go.Pl Go.Av
namespace Go.Proofs.YtakblclkflnnpaaDoor
set_option maxHeartbeats 4000000
set_option maxRecDepth 10000 in
theorem Znk [Known][KnownU8](b:List UInt8)(hb:b.length<=140737488351232)(K:St->Prop)(k:Nat)(c:UInt8)(r:List UInt8)(hk:k=r.length+1)(hv:ZaD (c::r)=ZaD b)(hc:¬ c.toNat<128)(i lo hi:Nat)(e7:bits .and .u8 (fT c.toNat:Int) 7=((4:Nat):Int))(e4:((fT c.toNat:Nat):Int).fdiv (2 ^ min (Int.toNat 4) IntKind.u8.bits)=(i:Int))(hi16:i<16)
  (hvs:(((List.range 16).flatMap aT).drop (0+((i:Nat):Int).toNat*2)).take 2=[.int .u8 (lo:Int),.int .u8 (hi:Int)]) (hp:ptN c.toNat=4) (hlo:lo=Zb0 c.toNat) (hhi:hi=Zb1 c.toNat):AW Tryd.prog (ZbY (Tryd.f101.body.getD .skip)) (vS (c::r)) (vQ b (ZaD b) k K):=by
 conv=>enter [3];whnf
 subst hlo hhi
 have hU:=Zbg (c::r)
 have hlen:decide ((((c::r).map E.byte).length:Int)>0)=true:=by simp
 have dc:decide ((c.toNat:Int)<128)=false:=by simp;omega
 have hlt:((c.toNat:Nat):Int).toNat<256:=by rw[Int.toNat_natCast];exact c.toNat_lt
 have hlt2:((i:Nat):Int).toNat<16:=by rw[Int.toNat_natCast];exact hi16
 have hfa:=ZdU c
 have hks:=KnownU8.first
 have hka:=KnownU8.accept
 have htf:=Zds
 have hta:=Zc4
 cases r with
 | nil=>
  have hl:decide (((([c]:List UInt8).map E.byte).length:Int)<4)=true:=rfl
  rw[<- hv,v4s hp [] (by simp)]
  repeat'(first|rw[e7]|rw[e4]|(apply Zbb Zab;(iterate 6 exact Z);exact Int.natCast_nonneg _;assumption)|(apply ZaP Zab;(iterate 3 exact Z);assumption;assumption;assumption;exact Z;exact Z)|(apply ZaQ Zab;(iterate 3 exact Z);assumption;assumption;assumption;(iterate 3 exact Z))|(apply Zaj Zab;exact Z)|(apply Zah Zab;exact Z)|(apply Zay Zab;exact Z)|(apply Zaq;(iterate 3 exact Z);exact Qt)|(apply Zam;exact Z;exact Qt;exact Z;exact Z)|(apply Zac;exact Z;exact Qt)|(apply Zae;exact Z;exact Qt)|(apply Zak Zab;(iterate 4 exact Z))|(apply ZaL 17 ZaY;decide +kernel;kernel_rfl;kernel_rfl;exact Z;exact Z)|(apply ZaV;(iterate 3 exact Z))|refine AD.nil _|exact Zbv rfl|(apply Zat Zab;(iterate 6 exact Z);(first|exact Qt|rotate_left);(first|with_reducible assumption|decide +kernel|exact Z);(first|exact Zag rfl|with_reducible assumption|decide +kernel|rotate_left))|(apply Zbi;exact Z;exact Z;(first|exact Qt|rotate_left);exact Z))
  all_goals(apply Zaz [];(apply Zad Zab;exact Z);(iterate 4 exact Z))
  all_goals rfl
 | cons c1 r=>
  cases r with
  | nil=>
   have hl:decide (((([c,c1]:List UInt8).map E.byte).length:Int)<4)=true:=rfl
   rw[<- hv,v4s hp [c1] (by simp)]
   repeat'(first|rw[e7]|rw[e4]|(apply Zbb Zab;(iterate 6 exact Z);exact Int.natCast_nonneg _;assumption)|(apply ZaP Zab;(iterate 3 exact Z);assumption;assumption;assumption;exact Z;exact Z)|(apply ZaQ Zab;(iterate 3 exact Z);assumption;assumption;assumption;(iterate 3 exact Z))|(apply Zaj Zab;exact Z)|(apply Zah Zab;exact Z)|(apply Zay Zab;exact Z)|(apply Zaq;(iterate 3 exact Z);exact Qt)|(apply Zam;exact Z;exact Qt;exact Z;exact Z)|(apply Zac;exact Z;exact Qt)|(apply Zae;exact Z;exact Qt)|(apply Zak Zab;(iterate 4 exact Z))|(apply ZaL 17 ZaY;decide +kernel;kernel_rfl;kernel_rfl;exact Z;exact Z)|(apply ZaV;(iterate 3 exact Z))|refine AD.nil _|exact Zbv rfl|(apply Zat Zab;(iterate 6 exact Z);(first|exact Qt|rotate_left);(first|with_reducible assumption|decide +kernel|exact Z);(first|exact Zag rfl|with_reducible assumption|decide +kernel|rotate_left))|(apply Zbi;exact Z;exact Z;(first|exact Qt|rotate_left);exact Z))
   all_goals(apply Zaz [];(apply Zad Zab;exact Z);(iterate 4 exact Z))
   all_goals rfl
  | cons c2 r=>
   cases r with
   | nil=>
    have hl:decide (((([c,c1,c2]:List UInt8).map E.byte).length:Int)<4)=true:=rfl
    rw[<- hv,v4s hp [c1,c2] (by simp)]
    repeat'(first|rw[e7]|rw[e4]|(apply Zbb Zab;(iterate 6 exact Z);exact Int.natCast_nonneg _;assumption)|(apply ZaP Zab;(iterate 3 exact Z);assumption;assumption;assumption;exact Z;exact Z)|(apply ZaQ Zab;(iterate 3 exact Z);assumption;assumption;assumption;(iterate 3 exact Z))|(apply Zaj Zab;exact Z)|(apply Zah Zab;exact Z)|(apply Zay Zab;exact Z)|(apply Zaq;(iterate 3 exact Z);exact Qt)|(apply Zam;exact Z;exact Qt;exact Z;exact Z)|(apply Zac;exact Z;exact Qt)|(apply Zae;exact Z;exact Qt)|(apply Zak Zab;(iterate 4 exact Z))|(apply ZaL 17 ZaY;decide +kernel;kernel_rfl;kernel_rfl;exact Z;exact Z)|(apply ZaV;(iterate 3 exact Z))|refine AD.nil _|exact Zbv rfl|(apply Zat Zab;(iterate 6 exact Z);(first|exact Qt|rotate_left);(first|with_reducible assumption|decide +kernel|exact Z);(first|exact Zag rfl|with_reducible assumption|decide +kernel|rotate_left))|(apply Zbi;exact Z;exact Z;(first|exact Qt|rotate_left);exact Z))
    all_goals(apply Zaz [];(apply Zad Zab;exact Z);(iterate 4 exact Z))
    all_goals rfl
   | cons c3 r=>
    have hl:decide ((((c::c1::c2::c3::r).map E.byte).length:Int)<4)=false:=by simp;omega
    have xd:(c::c1::c2::c3::r).drop (Int.toNat 4)=r:=rfl
    rw[v4 hp]at hv
    cases b1:decide ((c1.toNat:Int)<(Zb0 c.toNat:Int)) with
    | true=>
     have hf:ZaD b=false:=by
      rw[<- hv]
      have:=of_decide_eq_true b1
      have q:inB c1.toNat (Zb0 c.toNat) (Zb1 c.toNat)=false:=by simp[inB];omega
      rw[q];simp
     rw[hf]
     repeat'(first|rw[e7]|rw[e4]|(apply Zbb Zab;(iterate 6 exact Z);exact Int.natCast_nonneg _;assumption)|(apply ZaP Zab;(iterate 3 exact Z);assumption;assumption;assumption;exact Z;exact Z)|(apply ZaQ Zab;(iterate 3 exact Z);assumption;assumption;assumption;(iterate 3 exact Z))|(apply Zaj Zab;exact Z)|(apply Zah Zab;exact Z)|(apply Zay Zab;exact Z)|(apply Zaf;(iterate 3 exact Z);exact Qt)|(apply Zaq;(iterate 3 exact Z);exact Qt)|(apply Zam;exact Z;exact Qt;exact Z;exact Z)|(apply Zai;exact Z;exact Qt;exact Z;exact Z)|(apply Zac;exact Z;exact Qt)|(apply Zae;exact Z;exact Qt)|(apply Zak Zab;(iterate 4 exact Z))|(apply ZaL 17 ZaY;decide +kernel;kernel_rfl;kernel_rfl;exact Z;exact Z)|(apply ZaV;(iterate 3 exact Z))|refine AD.nil _|exact Zbv rfl|(apply Zat Zab;(iterate 6 exact Z);(first|exact Qt|rotate_left);(first|with_reducible assumption|decide +kernel|exact Z);(first|exact Zag rfl|with_reducible assumption|decide +kernel|rotate_left))|(apply Zbi;exact Z;exact Z;(first|exact Qt|rotate_left);exact Z))
     all_goals(apply Zaz [];(apply Zad Zab;exact Z);(iterate 4 exact Z))
     all_goals rfl
    | false=>
     cases b2:decide ((Zb1 c.toNat:Int)<(c1.toNat:Int)) with
     | true=>
      have hf:ZaD b=false:=by
       rw[<- hv]
       have:=of_decide_eq_true b2
       have q:inB c1.toNat (Zb0 c.toNat) (Zb1 c.toNat)=false:=by simp[inB];omega
       rw[q];simp
      rw[hf]
      repeat'(first|rw[e7]|rw[e4]|(apply Zbb Zab;(iterate 6 exact Z);exact Int.natCast_nonneg _;assumption)|(apply ZaP Zab;(iterate 3 exact Z);assumption;assumption;assumption;exact Z;exact Z)|(apply ZaQ Zab;(iterate 3 exact Z);assumption;assumption;assumption;(iterate 3 exact Z))|(apply Zaj Zab;exact Z)|(apply Zah Zab;exact Z)|(apply Zay Zab;exact Z)|(apply Zaf;(iterate 3 exact Z);exact Qt)|(apply Zaq;(iterate 3 exact Z);exact Qt)|(apply Zam;exact Z;exact Qt;exact Z;exact Z)|(apply Zai;exact Z;exact Qt;exact Z;exact Z)|(apply Zac;exact Z;exact Qt)|(apply Zae;exact Z;exact Qt)|(apply Zak Zab;(iterate 4 exact Z))|(apply ZaL 17 ZaY;decide +kernel;kernel_rfl;kernel_rfl;exact Z;exact Z)|(apply ZaV;(iterate 3 exact Z))|refine AD.nil _|exact Zbv rfl|(apply Zat Zab;(iterate 6 exact Z);(first|exact Qt|rotate_left);(first|with_reducible assumption|decide +kernel|exact Z);(first|exact Zag rfl|with_reducible assumption|decide +kernel|rotate_left))|(apply Zbi;exact Z;exact Z;(first|exact Qt|rotate_left);exact Z))
      all_goals(apply Zaz [];(apply Zad Zab;exact Z);(iterate 4 exact Z))
      all_goals rfl
     | false=>
      cases b3:decide ((c2.toNat:Int)<128) with
      | true=>
       have hf:ZaD b=false:=by
        rw[<- hv]
        have:=of_decide_eq_true b3
        have q:inB c2.toNat 128 191=false:=by simp[inB];omega
        rw[q];simp
       rw[hf]
       repeat'(first|rw[e7]|rw[e4]|(apply Zbb Zab;(iterate 6 exact Z);exact Int.natCast_nonneg _;assumption)|(apply ZaP Zab;(iterate 3 exact Z);assumption;assumption;assumption;exact Z;exact Z)|(apply ZaQ Zab;(iterate 3 exact Z);assumption;assumption;assumption;(iterate 3 exact Z))|(apply Zaj Zab;exact Z)|(apply Zah Zab;exact Z)|(apply Zay Zab;exact Z)|(apply Zaf;(iterate 3 exact Z);exact Qt)|(apply Zaq;(iterate 3 exact Z);exact Qt)|(apply Zam;exact Z;exact Qt;exact Z;exact Z)|(apply Zai;exact Z;exact Qt;exact Z;exact Z)|(apply Zac;exact Z;exact Qt)|(apply Zae;exact Z;exact Qt)|(apply Zak Zab;(iterate 4 exact Z))|(apply ZaL 17 ZaY;decide +kernel;kernel_rfl;kernel_rfl;exact Z;exact Z)|(apply ZaV;(iterate 3 exact Z))|refine AD.nil _|exact Zbv rfl|(apply Zat Zab;(iterate 6 exact Z);(first|exact Qt|rotate_left);(first|with_reducible assumption|decide +kernel|exact Z);(first|exact Zag rfl|with_reducible assumption|decide +kernel|rotate_left))|(apply Zbi;exact Z;exact Z;(first|exact Qt|rotate_left);exact Z))
       all_goals(apply Zaz [];(apply Zad Zab;exact Z);(iterate 4 exact Z))
       all_goals rfl
      | false=>
       cases b4:decide ((191:Int)<(c2.toNat:Int)) with
       | true=>
        have hf:ZaD b=false:=by
         rw[<- hv]
         have:=of_decide_eq_true b4
         have q:inB c2.toNat 128 191=false:=by simp[inB];omega
         rw[q];simp
        rw[hf]
        repeat'(first|rw[e7]|rw[e4]|(apply Zbb Zab;(iterate 6 exact Z);exact Int.natCast_nonneg _;assumption)|(apply ZaP Zab;(iterate 3 exact Z);assumption;assumption;assumption;exact Z;exact Z)|(apply ZaQ Zab;(iterate 3 exact Z);assumption;assumption;assumption;(iterate 3 exact Z))|(apply Zaj Zab;exact Z)|(apply Zah Zab;exact Z)|(apply Zay Zab;exact Z)|(apply Zaf;(iterate 3 exact Z);exact Qt)|(apply Zaq;(iterate 3 exact Z);exact Qt)|(apply Zam;exact Z;exact Qt;exact Z;exact Z)|(apply Zai;exact Z;exact Qt;exact Z;exact Z)|(apply Zac;exact Z;exact Qt)|(apply Zae;exact Z;exact Qt)|(apply Zak Zab;(iterate 4 exact Z))|(apply ZaL 17 ZaY;decide +kernel;kernel_rfl;kernel_rfl;exact Z;exact Z)|(apply ZaV;(iterate 3 exact Z))|refine AD.nil _|exact Zbv rfl|(apply Zat Zab;(iterate 6 exact Z);(first|exact Qt|rotate_left);(first|with_reducible assumption|decide +kernel|exact Z);(first|exact Zag rfl|with_reducible assumption|decide +kernel|rotate_left))|(apply Zbi;exact Z;exact Z;(first|exact Qt|rotate_left);exact Z))
        all_goals(apply Zaz [];(apply Zad Zab;exact Z);(iterate 4 exact Z))
        all_goals rfl
       | false=>
        cases b5:decide ((c3.toNat:Int)<128) with
        | true=>
         have hf:ZaD b=false:=by
          rw[<- hv]
          have:=of_decide_eq_true b5
          have q:inB c3.toNat 128 191=false:=by simp[inB];omega
          rw[q];simp
         rw[hf]
         repeat'(first|rw[e7]|rw[e4]|(apply Zbb Zab;(iterate 6 exact Z);exact Int.natCast_nonneg _;assumption)|(apply ZaP Zab;(iterate 3 exact Z);assumption;assumption;assumption;exact Z;exact Z)|(apply ZaQ Zab;(iterate 3 exact Z);assumption;assumption;assumption;(iterate 3 exact Z))|(apply Zaj Zab;exact Z)|(apply Zah Zab;exact Z)|(apply Zay Zab;exact Z)|(apply Zaf;(iterate 3 exact Z);exact Qt)|(apply Zaq;(iterate 3 exact Z);exact Qt)|(apply Zam;exact Z;exact Qt;exact Z;exact Z)|(apply Zai;exact Z;exact Qt;exact Z;exact Z)|(apply Zac;exact Z;exact Qt)|(apply Zae;exact Z;exact Qt)|(apply Zak Zab;(iterate 4 exact Z))|(apply ZaL 17 ZaY;decide +kernel;kernel_rfl;kernel_rfl;exact Z;exact Z)|(apply ZaV;(iterate 3 exact Z))|refine AD.nil _|exact Zbv rfl|(apply Zat Zab;(iterate 6 exact Z);(first|exact Qt|rotate_left);(first|with_reducible assumption|decide +kernel|exact Z);(first|exact Zag rfl|with_reducible assumption|decide +kernel|rotate_left))|(apply Zbi;exact Z;exact Z;(first|exact Qt|rotate_left);exact Z))
         all_goals(apply Zaz [];(apply Zad Zab;exact Z);(iterate 4 exact Z))
         all_goals rfl
        | false=>
         cases b6:decide ((191:Int)<(c3.toNat:Int)) with
         | true=>
          have hf:ZaD b=false:=by
           rw[<- hv]
           have:=of_decide_eq_true b6
           have q:inB c3.toNat 128 191=false:=by simp[inB];omega
           rw[q];simp
          rw[hf]
          repeat'(first|rw[e7]|rw[e4]|(apply Zbb Zab;(iterate 6 exact Z);exact Int.natCast_nonneg _;assumption)|(apply ZaP Zab;(iterate 3 exact Z);assumption;assumption;assumption;exact Z;exact Z)|(apply ZaQ Zab;(iterate 3 exact Z);assumption;assumption;assumption;(iterate 3 exact Z))|(apply Zaj Zab;exact Z)|(apply Zah Zab;exact Z)|(apply Zay Zab;exact Z)|(apply Zaf;(iterate 3 exact Z);exact Qt)|(apply Zai;exact Z;exact Qt;exact Z;exact Z)|(apply Zac;exact Z;exact Qt)|(apply Zae;exact Z;exact Qt)|(apply Zak Zab;(iterate 4 exact Z))|(apply ZaL 17 ZaY;decide +kernel;kernel_rfl;kernel_rfl;exact Z;exact Z)|(apply ZaV;(iterate 3 exact Z))|refine AD.nil _|exact Zbv rfl|(apply Zat Zab;(iterate 6 exact Z);(first|exact Qt|rotate_left);(first|with_reducible assumption|decide +kernel|exact Z);(first|exact Zag rfl|with_reducible assumption|decide +kernel|rotate_left))|(apply Zbi;exact Z;exact Z;(first|exact Qt|rotate_left);exact Z))
          all_goals(apply Zaz [];(apply Zad Zab;exact Z);(iterate 4 exact Z))
          all_goals rfl
         | false=>
          have hv2:ZaD r=ZaD b:=by
           rw[<- hv]
           have:=of_decide_eq_false b1
           have:=of_decide_eq_false b2
           have:=of_decide_eq_false b3
           have:=of_decide_eq_false b4
           have:=of_decide_eq_false b5
           have:=of_decide_eq_false b6
           have q1:inB c1.toNat (Zb0 c.toNat) (Zb1 c.toNat)=true:=by simp[inB];omega
           have q2:inB c2.toNat 128 191=true:=by simp[inB];omega
           have q3:inB c3.toNat 128 191=true:=by simp[inB];omega
           rw[q1,q2,q3];rfl
          repeat'(first|rw[e7]|rw[e4]|(apply Zbb Zab;(iterate 6 exact Z);exact Int.natCast_nonneg _;assumption)|(apply ZaP Zab;(iterate 3 exact Z);assumption;assumption;assumption;exact Z;exact Z)|(apply ZaQ Zab;(iterate 3 exact Z);assumption;assumption;assumption;(iterate 3 exact Z))|(apply Zb7 Zab;(iterate 8 exact Z);exact Qb;(first|with_reducible assumption|decide|(simp only[List.length_cons,List.length_drop,List.length_take,List.length_append,Int.toNat_natCast]at *;omega));(first|with_reducible assumption|exact Z))|(apply Zaj Zab;exact Z)|(apply Zah Zab;exact Z)|(apply Zay Zab;exact Z)|(apply Zaf;(iterate 3 exact Z);exact Qt)|(apply Zai;exact Z;exact Qt;exact Z;exact Z)|(apply Zac;exact Z;exact Qt)|(apply Zae;exact Z;exact Qt)|(apply Zak Zab;(iterate 4 exact Z))|(apply ZaL 17 ZaY;decide +kernel;kernel_rfl;kernel_rfl;exact Z;exact Z)|(apply ZaV;(iterate 3 exact Z))|refine AD.nil _|exact Zbv rfl|(apply Zat Zab;(iterate 6 exact Z);(first|exact Qt|rotate_left);(first|with_reducible assumption|decide +kernel|exact Z);(first|exact Zag rfl|with_reducible assumption|decide +kernel|rotate_left))|(apply Zbi;exact Z;exact Z;(first|exact Qt|rotate_left);exact Z))
          refine Lands.mk' (m:=r.length) (by simp only[List.length_cons]at hk;omega) ⟨r,rfl,hv2,rfl,rfl,rfl⟩ ?_ rfl rfl rfl rfl rfl rfl
          exact .cons rfl (.cons rfl .nil)
theorem Zj2 [Known][KnownU8](b:List UInt8)(hb:b.length<=140737488351232):AP Tryd.prog 101 [byE b] (.bool (ZaD b)) []:=by
 refine AP.ofA ?_
 refine Zao Tryd.func101 rfl Tryd.ntmps101 rfl rfl ?_
 repeat'(first|(apply ZjU Zab;(iterate 9 exact Z);(simp);(simp))|(apply Zaj Zab;exact Z)|(apply Zah Zab;exact Z)|(apply Zak Zab;(iterate 4 exact Z)))
 refine ZaC (vJ b) (b.length+1) (Lands.mk' (m:=b.length) (Nat.lt_succ_self _) ⟨b,rfl,rfl,rfl,rfl,rfl⟩ ?_ rfl rfl rfl rfl rfl rfl) ?_
 ·exact .cons rfl (.cons rfl .nil)
 rintro k tm bx fr ⟨l,hk,hv,rfl,rfl,rfl⟩
 cases l with
 | nil=>
  rw[<- hv]
  repeat'(first|(apply Zaj Zab;exact Z)|(apply Zah Zab;exact Z)|(apply Zay Zab;exact Z)|(apply Zae;exact Z;exact Qt)|(apply Zak Zab;(iterate 4 exact Z)))
  all_goals(apply Zaz [];(apply Zad Zab;exact Z);(iterate 4 exact Z))
  all_goals rfl
 | cons c r=>
  have key:∀ K:St->Prop,AW Tryd.prog (ZbY (Tryd.f101.body.getD .skip)) (vS (c::r)) (vQ b (ZaD b) k K):=fun K=>by
   simp only[List.length_cons]at hk
   by_cases hc:c.toNat<128
   ·exact ZmP b hb K k c r hk hv hc
   ·obtain⟨sz,i,lo,hi,e7,e4,hi16,hvs,hcls⟩:=cls c (by omega)
    rcases hcls with⟨rfl,hp⟩ | ⟨rfl|rfl|rfl,hp,hlo,hhi⟩
    ·exact Znh b hb K k c r hk hv hc i lo hi e7 e4 hi16 hvs hp
    ·exact Zni b hb K k c r hk hv hc i lo hi e7 e4 hi16 hvs hp hlo hhi
    ·exact Znj b hb K k c r hk hv hc i lo hi e7 e4 hi16 hvs hp hlo hhi
    ·exact Znk b hb K k c r hk hv hc i lo hi e7 e4 hi16 hvs hp hlo hhi
  exact key _
theorem ZmQ {α:Type}{f:α->E}(b:List α):(((b.map f).length:Int)==0)=b.isEmpty:=by cases b<;>simp<;>omega
theorem Zmd (l:List It):(((Zan l).length:Int)==0)=l.isEmpty:=by rw[Zal];cases l<;>simp<;>omega
theorem n0 (n:Nat):((n:Int)==0)=decide (n=0):=by rw[Bool.eq_iff_iff];simp
theorem Zme [Known][KnownU8](k:Int)(n:Nat)(b:List UInt8)(l:List It)(hb:b.length<=140737488351232):AP Tryd.prog 85 [.agg (itC k n b l)] (.bool (Zeh k n b l)) []:=by
 have e1:=ZmQ (f:=E.byte) b
 have e2:=Zmd l
 have e3:=n0 n
 have hv:=Zj2 b hb
 by_cases k0:k=0
 ·subst k0
  cases hbe:b.isEmpty<;>cases hle:l.isEmpty
  all_goals
   rw[hbe]at e1
   rw[hle]at e2
   have e:Zeh 0 n b l=(b.isEmpty&&l.isEmpty):=rfl
   rw[e,hbe,hle]
   refine AP.ofA ?_
   refine Zao Tryd.func85 rfl Tryd.ntmps85 rfl rfl ?_
   repeat'(first|rw[e1]|rw[e2]|(apply Zaj Zab;exact Z)|(apply Zah Zab;exact Z)|(apply Zaf;(iterate 3 exact Z);exact Qt)|(apply Zav;(iterate 3 exact Z);exact Qt)|(apply Zam;exact Z;exact Qt;exact Z;exact Z)|(apply Zai;exact Z;exact Qt;exact Z;exact Z)|(apply Zac;exact Z;exact Qt)|(apply Zak Zab;(iterate 4 exact Z)))
   all_goals(apply Zaz [];(apply Zad Zab;exact Z);(iterate 4 exact Z))
   all_goals rfl
 by_cases k2:k=2
 ·subst k2
  cases hbe:decide (n=0)<;>cases hle:l.isEmpty
  all_goals
   rw[hbe]at e3
   rw[hle]at e2
   have e:Zeh 2 n b l=(decide (n=0)&&l.isEmpty):=rfl
   rw[e,hbe,hle]
   refine AP.ofA ?_
   refine Zao Tryd.func85 rfl Tryd.ntmps85 rfl rfl ?_
   repeat'(first|rw[e2]|rw[e3]|(apply Zaj Zab;exact Z)|(apply Zah Zab;exact Z)|(apply Zaf;(iterate 3 exact Z);exact Qt)|(apply Zav;(iterate 3 exact Z);exact Qt)|(apply Zam;exact Z;exact Qt;exact Z;exact Z)|(apply Zai;exact Z;exact Qt;exact Z;exact Z)|(apply Zac;exact Z;exact Qt)|(apply Zae;exact Z;exact Qt)|(apply Zak Zab;(iterate 4 exact Z)))
   all_goals(apply Zaz [];(apply Zad Zab;exact Z);(iterate 4 exact Z))
   all_goals rfl
 by_cases k3:k=3
 ·subst k3
  cases hbe:decide (n=0)<;>cases hle:l.isEmpty
  all_goals
   rw[hbe]at e3
   rw[hle]at e2
   have e:Zeh 3 n b l=(decide (n=0)&&(l.isEmpty&&ZaD b)):=rfl
   rw[e,hbe,hle]
   refine AP.ofA ?_
   refine Zao Tryd.func85 rfl Tryd.ntmps85 rfl rfl ?_
   repeat'(first|rw[e2]|rw[e3]|(apply Zaa (hv);kernel_rfl;(iterate 4 exact Z))|(apply Zaj Zab;exact Z)|(apply Zah Zab;exact Z)|(apply Zaf;(iterate 3 exact Z);exact Qt)|(apply Zav;(iterate 3 exact Z);exact Qt)|(apply Zam;exact Z;exact Qt;exact Z;exact Z)|(apply Zai;exact Z;exact Qt;exact Z;exact Z)|(apply Zac;exact Z;exact Qt)|(apply Zae;exact Z;exact Qt)|(apply Zak Zab;(iterate 4 exact Z)))
   all_goals(apply Zaz [];(apply Zad Zab;exact Z);(iterate 4 exact Z))
   all_goals rfl
 by_cases k4:k=4
 ·subst k4
  cases hbe:decide (n=0)<;>cases hle:b.isEmpty
  all_goals
   rw[hbe]at e3
   rw[hle]at e1
   have e:Zeh 4 n b l=(decide (n=0)&&b.isEmpty):=rfl
   rw[e,hbe,hle]
   refine AP.ofA ?_
   refine Zao Tryd.func85 rfl Tryd.ntmps85 rfl rfl ?_
   repeat'(first|rw[e1]|rw[e3]|(apply Zaj Zab;exact Z)|(apply Zah Zab;exact Z)|(apply Zaf;(iterate 3 exact Z);exact Qt)|(apply Zav;(iterate 3 exact Z);exact Qt)|(apply Zam;exact Z;exact Qt;exact Z;exact Z)|(apply Zai;exact Z;exact Qt;exact Z;exact Z)|(apply Zac;exact Z;exact Qt)|(apply Zae;exact Z;exact Qt)|(apply Zak Zab;(iterate 4 exact Z)))
   all_goals(apply Zaz [];(apply Zad Zab;exact Z);(iterate 4 exact Z))
   all_goals rfl
 ·have t0:(k==0)=false:=by simpa using k0
  have t2:(k==2)=false:=by simpa using k2
  have t3:(k==3)=false:=by simpa using k3
  have t4:(k==4)=false:=by simpa using k4
  have e:Zeh k n b l=false:=by simp[Zeh,k0,k2,k3,k4]
  rw[e]
  refine AP.ofA ?_
  refine Zao Tryd.func85 rfl Tryd.ntmps85 rfl rfl ?_
  repeat'(first|(apply Zah Zab;exact Z)|(apply Zae;exact Z;exact Qt))
  all_goals(apply Zaz [];(apply Zad Zab;exact Z);(iterate 4 exact Z))
  all_goals rfl
def wkN:Option Nat->Int
 | some m=>(m:Int)
 | none => -1
theorem Zlf [Known][KnownU8]:∀(x:It),wfI x->∀ d m:Nat,d<=7->m<=256->AP Tryd.prog 55 [itD x,.int .i64 (d:Int),.int .i64 (m:Int)] (.int .i64 (wkN (ZcR x d m))) []:=by
 refine It.ind fun k n b l ih hw d m hd hm=>?_
 obtain⟨hn,hb,hl,hws⟩:=hw
 have hown:=Zme k n b l hb
 have hlen:=Zal l
 show AP Tryd.prog _ [.agg (itC k n b l),_,_] _ _
 rw[ZcR]
 have em:1<=m->IntKind.i64.wrap ((m:Int)-1)=((m-1:Nat):Int):=fun h=>by rw[IntWalk.i64_in _ (by omega)];omega
 have ed:IntKind.i64.wrap ((d:Int)+1)=((d+1:Nat):Int):=by rw[IntWalk.i64_in _ (by omega)];omega
 by_cases hd6:6<d
 ·rw[if_pos hd6]
  have t1:decide ((d:Int)>6)=true:=by simp;omega
  refine AP.ofA ?_
  refine Zao Tryd.func55 rfl Tryd.ntmps55 rfl rfl ?_
  repeat'(first|(apply Zaj Zab;exact Z)|(apply Zah Zab;exact Z)|(apply Zay Zab;exact Z)|(apply Zaq;(iterate 3 exact Z);exact Qt)|(apply Zam;exact Z;exact Qt;exact Z;exact Z)|(apply Zac;exact Z;exact Qt))
  all_goals(apply Zaz [];(apply Zad Zab;exact Z);(iterate 4 exact Z))
  all_goals rfl
 have t1:decide ((d:Int)>6)=false:=by simp;omega
 rw[if_neg hd6]
 by_cases hm1:m<1
 ·rw[if_pos hm1]
  have t2:decide ((m:Int)<1)=true:=by simp;omega
  refine AP.ofA ?_
  refine Zao Tryd.func55 rfl Tryd.ntmps55 rfl rfl ?_
  repeat'(first|(apply Zaj Zab;exact Z)|(apply Zah Zab;exact Z)|(apply Zay Zab;exact Z)|(apply Zaf;(iterate 3 exact Z);exact Qt)|(apply Zaq;(iterate 3 exact Z);exact Qt)|(apply Zam;exact Z;exact Qt;exact Z;exact Z)|(apply Zai;exact Z;exact Qt;exact Z;exact Z)|(apply Zac;exact Z;exact Qt))
  all_goals(apply Zaz [];(apply Zad Zab;exact Z);(iterate 4 exact Z))
  all_goals rfl
 have t2:decide ((m:Int)<1)=false:=by simp;omega
 rw[if_neg hm1]
 have em:=em (by omega)
 cases ho:Zeh k n b l with
 | false=>
  rw[ho]at hown
  dsimp only
  refine AP.ofA ?_
  refine Zao Tryd.func55 rfl Tryd.ntmps55 rfl rfl ?_
  repeat'(first|(apply Zaa (hown);kernel_rfl;(iterate 4 exact Z))|(apply Zaj Zab;exact Z)|(apply Zah Zab;exact Z)|(apply Zay Zab;exact Z)|(apply Zaf;(iterate 3 exact Z);exact Qt)|(apply Zai;exact Z;exact Qt;exact Z;exact Z)|(apply Zac;exact Z;exact Qt))
  all_goals(apply Zaz [];(apply Zad Zab;exact Z);(iterate 4 exact Z))
  all_goals rfl
 | true=>
  rw[ho]at hown
  dsimp only
  generalize hfin:Zb8 l (d+1) (m-1)=fin
  refine AP.ofA ?_
  refine Zao Tryd.func55 rfl Tryd.ntmps55 rfl rfl ?_
  repeat'(first|rw[em]|(apply Zaa (hown);kernel_rfl;(iterate 4 exact Z))|(apply Zaj Zab;exact Z)|(apply Zah Zab;exact Z)|(apply Zay Zab;exact Z)|(apply Zaf;(iterate 3 exact Z);exact Qt)|(apply Zai;exact Z;exact Qt;exact Z;exact Z)|(apply Zae;exact Z;exact Qt)|(apply Zak Zab;(iterate 4 exact Z)))
  refine ZaC (fun f tm bx fr=>∃ i m':Nat,f+i=l.length/\m'<=256/\Zb8 (l.drop i) (d+1) m'=fin/\tm=[(1,.int .i64 (d:Int)),(2,.int .i64 (m':Int)),(23,.sl .ext (Zan l)),(24,.int .i64 ((Zan l).length:Int)),(25,.int .i64 (i:Int)),(6,.int .i64 0)]/\bx=[itC k n b l]/\fr=[]) (l.length+1) (Lands.mk' (m:=l.length) (Nat.lt_succ_self _) ⟨0,m-1,rfl,by omega,hfin,rfl,rfl,rfl⟩ ?_ rfl rfl rfl rfl rfl rfl) ?_
  ·exact .cons rfl (.cons rfl (.cons rfl (.cons rfl (.cons rfl (.cons rfl .nil)))))
  rintro f tm bx fr ⟨i,m',hf,hm',hfin,rfl,rfl,rfl⟩
  have hU:=Zbs l
  rcases Nat.lt_or_ge i l.length with hlt|hge
  ·have hdl:decide ((i:Int)<((Zan l).length:Int))=true:=decide_eq_true (by omega)
   obtain⟨⟨k1,n1,b1,l1⟩,hy⟩:∃ y,l[i]?=some y:=⟨_,List.getElem?_eq_getElem hlt⟩
   have hv:(Zan l)[((i:Nat):Int).toNat]?=some (.agg [.int .i64 k1,.int .u64 (n1:Int),.sl (b1.map E.byte),.sl (Zan l1)]):=by
    rw[Int.toNat_natCast,Zax,List.getElem?_map,hy];rfl
   have hmem:=List.mem_of_getElem? hy
   have hc:=ih _ hmem (ZaM hws _ hmem) (d+1) m' (by omega) hm'
   have hdr:l.drop i=It.mk k1 n1 b1 l1::l.drop (i+1):=by
    rw[List.drop_eq_getElem_cons hlt];congr 1
    have:=(List.getElem?_eq_some_iff.1 hy).2;exact this
   rw[hdr,Zb8]at hfin
   have ei:IntKind.i64.wrap ((i:Int)+1)=((i+1:Nat):Int):=by rw[IntWalk.i64_in _ (by omega)];omega
   cases hwk:ZcR (.mk k1 n1 b1 l1) (d+1) m' with
   | none=>
    rw[hwk]at hfin hc
    subst hfin
    repeat'(first|rw[ed]|(apply Zaa (hc);kernel_rfl;(iterate 4 exact Z))|(apply Zaj Zab;exact Z)|(apply Zah Zab;exact Z)|(apply Zac;exact Z;exact Qt)|(apply Zat Zab;(iterate 6 exact Z);(first|exact Qt|rotate_left);(first|with_reducible assumption|decide +kernel|exact Z);(first|exact Zag rfl|with_reducible assumption|decide +kernel|rotate_left)))
    all_goals(apply Zaz [];(apply Zad Zab;exact Z);(iterate 4 exact Z))
    all_goals rfl
   | some r=>
    rw[hwk]at hfin hc
    simp only[wkN]at hc
    have hlt2:=Zhc hwk
    have tr:decide ((r:Int)<0)=false:=by simp
    repeat'(first|rw[ed]|rw[ei]|(apply Zaa (hc);kernel_rfl;(iterate 4 exact Z))|(apply Zaj Zab;exact Z)|(apply Zah Zab;exact Z)|(apply Zac;exact Z;exact Qt)|(apply Zae;exact Z;exact Qt)|(apply Zat Zab;(iterate 6 exact Z);(first|exact Qt|rotate_left);(first|with_reducible assumption|decide +kernel|exact Z);(first|exact Zag rfl|with_reducible assumption|decide +kernel|rotate_left)))
    refine Lands.mk' (m:=f-1) (by omega) ⟨i+1,r,by omega,by omega,hfin,rfl,rfl,rfl⟩ ?_ rfl rfl rfl rfl rfl rfl
    exact .cons rfl (.cons rfl (.cons rfl (.cons rfl (.cons rfl (.cons rfl .nil)))))
  ·have hdl:decide ((i:Int)<((Zan l).length:Int))=false:=decide_eq_false (by omega)
   have hdr:l.drop i=[]:=List.drop_eq_nil_of_le hge
   rw[hdr,Zb8]at hfin
   subst hfin
   repeat'(first|(apply Zah Zab;exact Z)|(apply Zae;exact Z;exact Qt))
   all_goals(apply Zaz [];(apply Zad Zab;exact Z);(iterate 4 exact Z))
   all_goals rfl
theorem ZbJ [Known][KnownU8](x:It)(hw:wfI x):AP Tryd.prog 28 [itD x] (.bool (Zaw x)) []:=by
 have hk:=Zlf x hw 1 256 (by omega) (by omega)
 have e:decide (wkN (ZcR x 1 256) ≥ 0)=Zaw x:=by
  unfold Zaw
  cases ZcR x 1 256<;>simp[wkN]
 obtain⟨k,n,b,l⟩:=x
 refine AP.ofA ?_
 refine Zao Tryd.func28 rfl Tryd.ntmps28 rfl rfl ?_
 repeat'(first|rw[e]|(apply Zaa (hk);kernel_rfl;(iterate 4 exact Z))|(apply Zaj Zab;exact Z)|(apply Zah Zab;exact Z))
 all_goals(apply Zaz [];(apply Zad Zab;exact Z);(iterate 4 exact Z))
 all_goals rfl
end Go.Proofs.YtakblclkflnnpaaDoor
end
