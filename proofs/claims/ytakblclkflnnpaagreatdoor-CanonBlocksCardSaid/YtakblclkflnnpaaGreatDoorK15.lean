/- unicode/utf8.Valid: the rounds. -/
import Derived.Test.YtakblclkflnnpaaGreatDoorK14
import Derived.Test.YtakblclkflnnpaaGreatDoorK11
import Derived.Test.YtakblclkflnnpaaGreatDoorK10
set_option linter.unusedVariables false
set_option linter.unusedSimpArgs false
section
open Go.RowKit Go.Pl Go.Av
namespace Go.Proofs.YtakblclkflnnpaaGreatDoor
set_option maxHeartbeats 4000000
set_option maxRecDepth 10000 in
theorem Zq5 [Known][KnownU8](b:List UInt8)(hb:b.length<=140737488351232)(K:St->Prop)(k:Nat)(c:UInt8)(r:List UInt8)(hk:k=r.length+1)(hv:ZaF (c::r)=ZaF b)(hc:¬ c.toNat<128)(i lo hi:Nat)(e7:bits .and .u8 (fT c.toNat:Int) 7=((4:Nat):Int))(e4:((fT c.toNat:Nat):Int).fdiv (2 ^ min (Int.toNat 4) IntKind.u8.bits)=(i:Int))(hi16:i<16)
  (hvs:(((List.range 16).flatMap aT).drop (0+((i:Nat):Int).toNat*2)).take 2=[.int .u8 (lo:Int),.int .u8 (hi:Int)]) (hp:ptN c.toNat=4) (hlo:lo=Zcy c.toNat) (hhi:hi=Zcz c.toNat):AW Tryz.prog (Zcv (Tryz.f204.body.getD .skip)) (vS (c::r)) (vQ b (ZaF b) k K):=by
 conv=>enter [3];whnf
 subst hlo hhi
 have hU:=Zbm (c::r)
 have hlen:decide ((((c::r).map E.byte).length:Int)>0)=true:=by simp
 have dc:decide ((c.toNat:Int)<128)=false:=by simp;omega
 have hlt:((c.toNat:Nat):Int).toNat<256:=by rw[Int.toNat_natCast];exact c.toNat_lt
 have hlt2:((i:Nat):Int).toNat<16:=by rw[Int.toNat_natCast];exact hi16
 have hfa:=Zfb c
 have hks:=KnownU8.first
 have hka:=KnownU8.accept
 have htf:=Zej
 have hta:=ZdO
 cases r with
 | nil=>
  have hl:decide (((([c]:List UInt8).map E.byte).length:Int)<4)=true:=rfl
  rw[<- hv,v4s hp [] (by simp)]
  repeat'(first|rw[e7]|rw[e4]|(apply Zbt Zab;(iterate 6 exact Z);exact Int.natCast_nonneg _;assumption)|(apply Za1 Zab;(iterate 3 exact Z);assumption;assumption;assumption;exact Z;exact Z)|(apply Za2 Zab;(iterate 3 exact Z);assumption;assumption;assumption;(iterate 3 exact Z))|(apply Zaj Zab;exact Z)|(apply Zah Zab;exact Z)|(apply Zav Zab;exact Z)|(apply Zal;(iterate 3 exact Z);exact Go.ZrJ)|(apply Zak;exact Z;exact Go.ZrJ;exact Z;exact Z)|(apply Zac;exact Z;exact Go.ZrJ)|(apply Zaf;exact Z;exact Go.ZrJ)|(apply Zam Zab;(iterate 4 exact Z))|(apply ZaP 17 ZaL;decide +kernel;kernel_rfl;kernel_rfl;exact Z;exact Z)|(apply Za0;(iterate 3 exact Z))|refine AD.nil _|exact ZbC rfl|(apply Zau Zab;(iterate 6 exact Z);(first|exact Go.ZrJ|rotate_left);(first|with_reducible assumption|decide +kernel|exact Z);(first|exact Zai rfl|with_reducible assumption|decide +kernel|rotate_left))|(apply ZbD;exact Z;exact Z;(first|exact Go.ZrJ|rotate_left);exact Z))
  all_goals(apply Zaw [];(apply Zad Zab;exact Z);(iterate 4 exact Z))
  all_goals rfl
 | cons c1 r=>
  cases r with
  | nil=>
   have hl:decide (((([c,c1]:List UInt8).map E.byte).length:Int)<4)=true:=rfl
   rw[<- hv,v4s hp [c1] (by simp)]
   repeat'(first|rw[e7]|rw[e4]|(apply Zbt Zab;(iterate 6 exact Z);exact Int.natCast_nonneg _;assumption)|(apply Za1 Zab;(iterate 3 exact Z);assumption;assumption;assumption;exact Z;exact Z)|(apply Za2 Zab;(iterate 3 exact Z);assumption;assumption;assumption;(iterate 3 exact Z))|(apply Zaj Zab;exact Z)|(apply Zah Zab;exact Z)|(apply Zav Zab;exact Z)|(apply Zal;(iterate 3 exact Z);exact Go.ZrJ)|(apply Zak;exact Z;exact Go.ZrJ;exact Z;exact Z)|(apply Zac;exact Z;exact Go.ZrJ)|(apply Zaf;exact Z;exact Go.ZrJ)|(apply Zam Zab;(iterate 4 exact Z))|(apply ZaP 17 ZaL;decide +kernel;kernel_rfl;kernel_rfl;exact Z;exact Z)|(apply Za0;(iterate 3 exact Z))|refine AD.nil _|exact ZbC rfl|(apply Zau Zab;(iterate 6 exact Z);(first|exact Go.ZrJ|rotate_left);(first|with_reducible assumption|decide +kernel|exact Z);(first|exact Zai rfl|with_reducible assumption|decide +kernel|rotate_left))|(apply ZbD;exact Z;exact Z;(first|exact Go.ZrJ|rotate_left);exact Z))
   all_goals(apply Zaw [];(apply Zad Zab;exact Z);(iterate 4 exact Z))
   all_goals rfl
  | cons c2 r=>
   cases r with
   | nil=>
    have hl:decide (((([c,c1,c2]:List UInt8).map E.byte).length:Int)<4)=true:=rfl
    rw[<- hv,v4s hp [c1,c2] (by simp)]
    repeat'(first|rw[e7]|rw[e4]|(apply Zbt Zab;(iterate 6 exact Z);exact Int.natCast_nonneg _;assumption)|(apply Za1 Zab;(iterate 3 exact Z);assumption;assumption;assumption;exact Z;exact Z)|(apply Za2 Zab;(iterate 3 exact Z);assumption;assumption;assumption;(iterate 3 exact Z))|(apply Zaj Zab;exact Z)|(apply Zah Zab;exact Z)|(apply Zav Zab;exact Z)|(apply Zal;(iterate 3 exact Z);exact Go.ZrJ)|(apply Zak;exact Z;exact Go.ZrJ;exact Z;exact Z)|(apply Zac;exact Z;exact Go.ZrJ)|(apply Zaf;exact Z;exact Go.ZrJ)|(apply Zam Zab;(iterate 4 exact Z))|(apply ZaP 17 ZaL;decide +kernel;kernel_rfl;kernel_rfl;exact Z;exact Z)|(apply Za0;(iterate 3 exact Z))|refine AD.nil _|exact ZbC rfl|(apply Zau Zab;(iterate 6 exact Z);(first|exact Go.ZrJ|rotate_left);(first|with_reducible assumption|decide +kernel|exact Z);(first|exact Zai rfl|with_reducible assumption|decide +kernel|rotate_left))|(apply ZbD;exact Z;exact Z;(first|exact Go.ZrJ|rotate_left);exact Z))
    all_goals(apply Zaw [];(apply Zad Zab;exact Z);(iterate 4 exact Z))
    all_goals rfl
   | cons c3 r=>
    have hl:decide ((((c::c1::c2::c3::r).map E.byte).length:Int)<4)=false:=by simp;omega
    have xd:(c::c1::c2::c3::r).drop (Int.toNat 4)=r:=rfl
    rw[v4 hp]at hv
    cases b1:decide ((c1.toNat:Int)<(Zcy c.toNat:Int)) with
    | true=>
     have hf:ZaF b=false:=by
      rw[<- hv]
      have:=of_decide_eq_true b1
      have q:inB c1.toNat (Zcy c.toNat) (Zcz c.toNat)=false:=by simp[inB];omega
      rw[q];simp
     rw[hf]
     repeat'(first|rw[e7]|rw[e4]|(apply Zbt Zab;(iterate 6 exact Z);exact Int.natCast_nonneg _;assumption)|(apply Za1 Zab;(iterate 3 exact Z);assumption;assumption;assumption;exact Z;exact Z)|(apply Za2 Zab;(iterate 3 exact Z);assumption;assumption;assumption;(iterate 3 exact Z))|(apply Zaj Zab;exact Z)|(apply Zah Zab;exact Z)|(apply Zav Zab;exact Z)|(apply Zae;(iterate 3 exact Z);exact Go.ZrJ)|(apply Zal;(iterate 3 exact Z);exact Go.ZrJ)|(apply Zak;exact Z;exact Go.ZrJ;exact Z;exact Z)|(apply Zag;exact Z;exact Go.ZrJ;exact Z;exact Z)|(apply Zac;exact Z;exact Go.ZrJ)|(apply Zaf;exact Z;exact Go.ZrJ)|(apply Zam Zab;(iterate 4 exact Z))|(apply ZaP 17 ZaL;decide +kernel;kernel_rfl;kernel_rfl;exact Z;exact Z)|(apply Za0;(iterate 3 exact Z))|refine AD.nil _|exact ZbC rfl|(apply Zau Zab;(iterate 6 exact Z);(first|exact Go.ZrJ|rotate_left);(first|with_reducible assumption|decide +kernel|exact Z);(first|exact Zai rfl|with_reducible assumption|decide +kernel|rotate_left))|(apply ZbD;exact Z;exact Z;(first|exact Go.ZrJ|rotate_left);exact Z))
     all_goals(apply Zaw [];(apply Zad Zab;exact Z);(iterate 4 exact Z))
     all_goals rfl
    | false=>
     cases b2:decide ((Zcz c.toNat:Int)<(c1.toNat:Int)) with
     | true=>
      have hf:ZaF b=false:=by
       rw[<- hv]
       have:=of_decide_eq_true b2
       have q:inB c1.toNat (Zcy c.toNat) (Zcz c.toNat)=false:=by simp[inB];omega
       rw[q];simp
      rw[hf]
      repeat'(first|rw[e7]|rw[e4]|(apply Zbt Zab;(iterate 6 exact Z);exact Int.natCast_nonneg _;assumption)|(apply Za1 Zab;(iterate 3 exact Z);assumption;assumption;assumption;exact Z;exact Z)|(apply Za2 Zab;(iterate 3 exact Z);assumption;assumption;assumption;(iterate 3 exact Z))|(apply Zaj Zab;exact Z)|(apply Zah Zab;exact Z)|(apply Zav Zab;exact Z)|(apply Zae;(iterate 3 exact Z);exact Go.ZrJ)|(apply Zal;(iterate 3 exact Z);exact Go.ZrJ)|(apply Zak;exact Z;exact Go.ZrJ;exact Z;exact Z)|(apply Zag;exact Z;exact Go.ZrJ;exact Z;exact Z)|(apply Zac;exact Z;exact Go.ZrJ)|(apply Zaf;exact Z;exact Go.ZrJ)|(apply Zam Zab;(iterate 4 exact Z))|(apply ZaP 17 ZaL;decide +kernel;kernel_rfl;kernel_rfl;exact Z;exact Z)|(apply Za0;(iterate 3 exact Z))|refine AD.nil _|exact ZbC rfl|(apply Zau Zab;(iterate 6 exact Z);(first|exact Go.ZrJ|rotate_left);(first|with_reducible assumption|decide +kernel|exact Z);(first|exact Zai rfl|with_reducible assumption|decide +kernel|rotate_left))|(apply ZbD;exact Z;exact Z;(first|exact Go.ZrJ|rotate_left);exact Z))
      all_goals(apply Zaw [];(apply Zad Zab;exact Z);(iterate 4 exact Z))
      all_goals rfl
     | false=>
      cases b3:decide ((c2.toNat:Int)<128) with
      | true=>
       have hf:ZaF b=false:=by
        rw[<- hv]
        have:=of_decide_eq_true b3
        have q:inB c2.toNat 128 191=false:=by simp[inB];omega
        rw[q];simp
       rw[hf]
       repeat'(first|rw[e7]|rw[e4]|(apply Zbt Zab;(iterate 6 exact Z);exact Int.natCast_nonneg _;assumption)|(apply Za1 Zab;(iterate 3 exact Z);assumption;assumption;assumption;exact Z;exact Z)|(apply Za2 Zab;(iterate 3 exact Z);assumption;assumption;assumption;(iterate 3 exact Z))|(apply Zaj Zab;exact Z)|(apply Zah Zab;exact Z)|(apply Zav Zab;exact Z)|(apply Zae;(iterate 3 exact Z);exact Go.ZrJ)|(apply Zal;(iterate 3 exact Z);exact Go.ZrJ)|(apply Zak;exact Z;exact Go.ZrJ;exact Z;exact Z)|(apply Zag;exact Z;exact Go.ZrJ;exact Z;exact Z)|(apply Zac;exact Z;exact Go.ZrJ)|(apply Zaf;exact Z;exact Go.ZrJ)|(apply Zam Zab;(iterate 4 exact Z))|(apply ZaP 17 ZaL;decide +kernel;kernel_rfl;kernel_rfl;exact Z;exact Z)|(apply Za0;(iterate 3 exact Z))|refine AD.nil _|exact ZbC rfl|(apply Zau Zab;(iterate 6 exact Z);(first|exact Go.ZrJ|rotate_left);(first|with_reducible assumption|decide +kernel|exact Z);(first|exact Zai rfl|with_reducible assumption|decide +kernel|rotate_left))|(apply ZbD;exact Z;exact Z;(first|exact Go.ZrJ|rotate_left);exact Z))
       all_goals(apply Zaw [];(apply Zad Zab;exact Z);(iterate 4 exact Z))
       all_goals rfl
      | false=>
       cases b4:decide ((191:Int)<(c2.toNat:Int)) with
       | true=>
        have hf:ZaF b=false:=by
         rw[<- hv]
         have:=of_decide_eq_true b4
         have q:inB c2.toNat 128 191=false:=by simp[inB];omega
         rw[q];simp
        rw[hf]
        repeat'(first|rw[e7]|rw[e4]|(apply Zbt Zab;(iterate 6 exact Z);exact Int.natCast_nonneg _;assumption)|(apply Za1 Zab;(iterate 3 exact Z);assumption;assumption;assumption;exact Z;exact Z)|(apply Za2 Zab;(iterate 3 exact Z);assumption;assumption;assumption;(iterate 3 exact Z))|(apply Zaj Zab;exact Z)|(apply Zah Zab;exact Z)|(apply Zav Zab;exact Z)|(apply Zae;(iterate 3 exact Z);exact Go.ZrJ)|(apply Zal;(iterate 3 exact Z);exact Go.ZrJ)|(apply Zak;exact Z;exact Go.ZrJ;exact Z;exact Z)|(apply Zag;exact Z;exact Go.ZrJ;exact Z;exact Z)|(apply Zac;exact Z;exact Go.ZrJ)|(apply Zaf;exact Z;exact Go.ZrJ)|(apply Zam Zab;(iterate 4 exact Z))|(apply ZaP 17 ZaL;decide +kernel;kernel_rfl;kernel_rfl;exact Z;exact Z)|(apply Za0;(iterate 3 exact Z))|refine AD.nil _|exact ZbC rfl|(apply Zau Zab;(iterate 6 exact Z);(first|exact Go.ZrJ|rotate_left);(first|with_reducible assumption|decide +kernel|exact Z);(first|exact Zai rfl|with_reducible assumption|decide +kernel|rotate_left))|(apply ZbD;exact Z;exact Z;(first|exact Go.ZrJ|rotate_left);exact Z))
        all_goals(apply Zaw [];(apply Zad Zab;exact Z);(iterate 4 exact Z))
        all_goals rfl
       | false=>
        cases b5:decide ((c3.toNat:Int)<128) with
        | true=>
         have hf:ZaF b=false:=by
          rw[<- hv]
          have:=of_decide_eq_true b5
          have q:inB c3.toNat 128 191=false:=by simp[inB];omega
          rw[q];simp
         rw[hf]
         repeat'(first|rw[e7]|rw[e4]|(apply Zbt Zab;(iterate 6 exact Z);exact Int.natCast_nonneg _;assumption)|(apply Za1 Zab;(iterate 3 exact Z);assumption;assumption;assumption;exact Z;exact Z)|(apply Za2 Zab;(iterate 3 exact Z);assumption;assumption;assumption;(iterate 3 exact Z))|(apply Zaj Zab;exact Z)|(apply Zah Zab;exact Z)|(apply Zav Zab;exact Z)|(apply Zae;(iterate 3 exact Z);exact Go.ZrJ)|(apply Zal;(iterate 3 exact Z);exact Go.ZrJ)|(apply Zak;exact Z;exact Go.ZrJ;exact Z;exact Z)|(apply Zag;exact Z;exact Go.ZrJ;exact Z;exact Z)|(apply Zac;exact Z;exact Go.ZrJ)|(apply Zaf;exact Z;exact Go.ZrJ)|(apply Zam Zab;(iterate 4 exact Z))|(apply ZaP 17 ZaL;decide +kernel;kernel_rfl;kernel_rfl;exact Z;exact Z)|(apply Za0;(iterate 3 exact Z))|refine AD.nil _|exact ZbC rfl|(apply Zau Zab;(iterate 6 exact Z);(first|exact Go.ZrJ|rotate_left);(first|with_reducible assumption|decide +kernel|exact Z);(first|exact Zai rfl|with_reducible assumption|decide +kernel|rotate_left))|(apply ZbD;exact Z;exact Z;(first|exact Go.ZrJ|rotate_left);exact Z))
         all_goals(apply Zaw [];(apply Zad Zab;exact Z);(iterate 4 exact Z))
         all_goals rfl
        | false=>
         cases b6:decide ((191:Int)<(c3.toNat:Int)) with
         | true=>
          have hf:ZaF b=false:=by
           rw[<- hv]
           have:=of_decide_eq_true b6
           have q:inB c3.toNat 128 191=false:=by simp[inB];omega
           rw[q];simp
          rw[hf]
          repeat'(first|rw[e7]|rw[e4]|(apply Zbt Zab;(iterate 6 exact Z);exact Int.natCast_nonneg _;assumption)|(apply Za1 Zab;(iterate 3 exact Z);assumption;assumption;assumption;exact Z;exact Z)|(apply Za2 Zab;(iterate 3 exact Z);assumption;assumption;assumption;(iterate 3 exact Z))|(apply Zaj Zab;exact Z)|(apply Zah Zab;exact Z)|(apply Zav Zab;exact Z)|(apply Zae;(iterate 3 exact Z);exact Go.ZrJ)|(apply Zag;exact Z;exact Go.ZrJ;exact Z;exact Z)|(apply Zac;exact Z;exact Go.ZrJ)|(apply Zaf;exact Z;exact Go.ZrJ)|(apply Zam Zab;(iterate 4 exact Z))|(apply ZaP 17 ZaL;decide +kernel;kernel_rfl;kernel_rfl;exact Z;exact Z)|(apply Za0;(iterate 3 exact Z))|refine AD.nil _|exact ZbC rfl|(apply Zau Zab;(iterate 6 exact Z);(first|exact Go.ZrJ|rotate_left);(first|with_reducible assumption|decide +kernel|exact Z);(first|exact Zai rfl|with_reducible assumption|decide +kernel|rotate_left))|(apply ZbD;exact Z;exact Z;(first|exact Go.ZrJ|rotate_left);exact Z))
          all_goals(apply Zaw [];(apply Zad Zab;exact Z);(iterate 4 exact Z))
          all_goals rfl
         | false=>
          have hv2:ZaF r=ZaF b:=by
           rw[<- hv]
           have:=of_decide_eq_false b1
           have:=of_decide_eq_false b2
           have:=of_decide_eq_false b3
           have:=of_decide_eq_false b4
           have:=of_decide_eq_false b5
           have:=of_decide_eq_false b6
           have q1:inB c1.toNat (Zcy c.toNat) (Zcz c.toNat)=true:=by simp[inB];omega
           have q2:inB c2.toNat 128 191=true:=by simp[inB];omega
           have q3:inB c3.toNat 128 191=true:=by simp[inB];omega
           rw[q1,q2,q3];rfl
          repeat'(first|rw[e7]|rw[e4]|(apply Zbt Zab;(iterate 6 exact Z);exact Int.natCast_nonneg _;assumption)|(apply Za1 Zab;(iterate 3 exact Z);assumption;assumption;assumption;exact Z;exact Z)|(apply Za2 Zab;(iterate 3 exact Z);assumption;assumption;assumption;(iterate 3 exact Z))|(apply ZcF Zab;(iterate 8 exact Z);exact Go.ZrK;(first|with_reducible assumption|decide|(simp only[List.length_cons,List.length_drop,List.length_take,List.length_append,Int.toNat_natCast]at *;omega));(first|with_reducible assumption|exact Z))|(apply Zaj Zab;exact Z)|(apply Zah Zab;exact Z)|(apply Zav Zab;exact Z)|(apply Zae;(iterate 3 exact Z);exact Go.ZrJ)|(apply Zag;exact Z;exact Go.ZrJ;exact Z;exact Z)|(apply Zac;exact Z;exact Go.ZrJ)|(apply Zaf;exact Z;exact Go.ZrJ)|(apply Zam Zab;(iterate 4 exact Z))|(apply ZaP 17 ZaL;decide +kernel;kernel_rfl;kernel_rfl;exact Z;exact Z)|(apply Za0;(iterate 3 exact Z))|refine AD.nil _|exact ZbC rfl|(apply Zau Zab;(iterate 6 exact Z);(first|exact Go.ZrJ|rotate_left);(first|with_reducible assumption|decide +kernel|exact Z);(first|exact Zai rfl|with_reducible assumption|decide +kernel|rotate_left))|(apply ZbD;exact Z;exact Z;(first|exact Go.ZrJ|rotate_left);exact Z))
          refine Lands.mk' (m:=r.length) (by simp only[List.length_cons]at hk;omega) ⟨r,rfl,hv2,rfl,rfl,rfl⟩ ?_ rfl rfl rfl rfl rfl rfl
          exact .cons rfl (.cons rfl .nil)
theorem Zjp [Known][KnownU8](b:List UInt8)(hb:b.length<=140737488351232):AP Tryz.prog 204 [byE b] (.bool (ZaF b)) []:=by
 refine AP.ofA ?_
 refine Zan Tryz.func204 rfl Tryz.ntmps204 rfl rfl ?_
 repeat'(first|(apply ZmI Zab;(iterate 9 exact Z);(simp);(simp))|(apply Zaj Zab;exact Z)|(apply Zah Zab;exact Z)|(apply Zam Zab;(iterate 4 exact Z)))
 refine ZaE (vJ b) (b.length+1) (Lands.mk' (m:=b.length) (Nat.lt_succ_self _) ⟨b,rfl,rfl,rfl,rfl,rfl⟩ ?_ rfl rfl rfl rfl rfl rfl) ?_
 ·exact .cons rfl (.cons rfl .nil)
 rintro k tm bx fr ⟨l,hk,hv,rfl,rfl,rfl⟩
 cases l with
 | nil=>
  rw[<- hv]
  repeat'(first|(apply Zaj Zab;exact Z)|(apply Zah Zab;exact Z)|(apply Zav Zab;exact Z)|(apply Zaf;exact Z;exact Go.ZrJ)|(apply Zam Zab;(iterate 4 exact Z)))
  all_goals(apply Zaw [];(apply Zad Zab;exact Z);(iterate 4 exact Z))
  all_goals rfl
 | cons c r=>
  have key:∀ K:St->Prop,AW Tryz.prog (Zcv (Tryz.f204.body.getD .skip)) (vS (c::r)) (vQ b (ZaF b) k K):=fun K=>by
   simp only[List.length_cons]at hk
   by_cases hc:c.toNat<128
   ·exact Zqh b hb K k c r hk hv hc
   ·obtain⟨sz,i,lo,hi,e7,e4,hi16,hvs,hcls⟩:=cls c (by omega)
    rcases hcls with⟨rfl,hp⟩ | ⟨rfl|rfl|rfl,hp,hlo,hhi⟩
    ·exact Zq2 b hb K k c r hk hv hc i lo hi e7 e4 hi16 hvs hp
    ·exact Zq3 b hb K k c r hk hv hc i lo hi e7 e4 hi16 hvs hp hlo hhi
    ·exact Zq4 b hb K k c r hk hv hc i lo hi e7 e4 hi16 hvs hp hlo hhi
    ·exact Zq5 b hb K k c r hk hv hc i lo hi e7 e4 hi16 hvs hp hlo hhi
  exact key _
theorem Zhu [Known](n:Nat):AP Tryz.prog 200 [.int .u64 (n:Int)] (.int .i64 (ZaD n)) []:=by
 refine Zan Tryz.func200 rfl Tryz.ntmps200 rfl rfl ?_
 repeat'(first|(apply Zah Zab;exact Z)|(apply Zav Zab;exact Z)|(apply Zbw;exact Z;all_goals intro hb))
 all_goals refine Zfk (.cons _ _ _ _ (.tmp _ _ rfl) .nil) (ZaA _) rfl ?_ rfl
 all_goals simp only[decide_eq_true_eq,decide_eq_false_iff_not]at *
 all_goals(congr 1;unfold ZaD;(repeat' split)<;>omega)
theorem ZnG [Known](m:Int):AP Tryz.prog 211 [.int .i64 m] (.bool (Zid m)) []:=by
 refine Zan Tryz.func211 rfl Tryz.ntmps211 rfl rfl ?_
 repeat'(first|(apply Zaj Zab;exact Z)|(apply Zah Zab;exact Z)|(apply Zae;(iterate 3 exact Z);(first|with_reducible assumption|(solve|simp only[bn])))|(apply Zas;(iterate 3 exact Z);(first|with_reducible assumption|(solve|simp only[bn])))|(apply Zal;(iterate 3 exact Z);(first|with_reducible assumption|(solve|simp only[bn])))|(apply Zbo;exact Z;exact Z;all_goals intro hb)|(apply Zak;exact Z;(first|with_reducible assumption|(solve|simp only[bn]));exact Z;exact Z)|(apply Zag;exact Z;(first|with_reducible assumption|(solve|simp only[bn]));exact Z;exact Z))
 all_goals refine Zfk (.cons _ _ _ _ (.tmp _ _ rfl) .nil) (ZaA _) rfl ?_ rfl
 all_goals(congr 1;rw[Bool.eq_iff_iff];simp[Zid]at *;omega)
def hd (h:Hd):D:=.agg [.int .i64 h.1,.int .u64 (h.2.1:Int),.bool h.2.2]
theorem ZmQ [Known](h:Hd):AP Tryz.prog 198 [hd h] (.bool (ZaZ h)) []:=by
 refine Zan Tryz.func198 rfl Tryz.ntmps198 rfl rfl ?_
 repeat'(first|(apply ZcM (ZnG _);kernel_rfl;(iterate 4 exact Z))|(apply Zaj Zab;exact Z)|(apply Zah Zab;exact Z)|(apply Zae;(iterate 3 exact Z);(first|with_reducible assumption|(solve|simp only[bn])))|(apply Zas;(iterate 3 exact Z);(first|with_reducible assumption|(solve|simp only[bn])))|(apply Zbo;exact Z;exact Z;all_goals intro hb)|(apply Zak;exact Z;(first|with_reducible assumption|(solve|simp only[bn]));exact Z;exact Z)|(apply Zag;exact Z;(first|with_reducible assumption|(solve|simp only[bn]));exact Z;exact Z)|(apply Zbw;exact Z;all_goals intro hb)|(apply Zi4 Zab;(iterate 4 exact Z);kernel_rfl;kernel_rfl;(iterate 3 exact Z)))
 all_goals refine Zfk (.cons _ _ _ _ (.tmp _ _ rfl) .nil) (ZaA _) rfl ?_ rfl
 all_goals(obtain⟨m,n,o⟩:=h;congr 1;rw[Bool.eq_iff_iff];simp_all [ZaZ,Zid];try omega)
theorem Zor (n:Nat):(ZaD n=0/\ZbA n=n/\n<24)\/(ZaD n=1/\ZbA n=24)\/(ZaD n=2/\ZbA n=25)\/(ZaD n=4/\ZbA n=26)\/(ZaD n=8/\ZbA n=27):=by
 unfold ZaD ZbA
 by_cases h1:n<24
 ·simp[h1]
 by_cases h2:n<256
 ·simp[h1,h2]
 by_cases h3:n<65536
 ·simp[h1,h2,h3]
 by_cases h4:n<4294967296
 ·simp[h1,h2,h3,h4]
 ·simp[h1,h2,h3,h4]
theorem Zos [Known](n:Nat):AP Tryz.prog 199 [.int .u64 (n:Int)] (.int .u8 (ZbA n)) []:=by
 refine Zan Tryz.func199 rfl Tryz.ntmps199 rfl rfl ?_
 repeat'(first|(apply ZcM (Zhu _);kernel_rfl;(iterate 4 exact Z))|(apply Zaj Zab;exact Z)|(apply Zah Zab;exact Z)|(apply Zav Zab;exact Z)|(apply Zbw;exact Z;all_goals intro hb))
 all_goals refine Zfk (.cons _ _ _ _ (.tmp _ _ rfl) .nil) (ZaA _) rfl ?_ rfl
 all_goals(rcases Zor n with⟨h1,h2,h3⟩ | ⟨h1,h2⟩ | ⟨h1,h2⟩ | ⟨h1,h2⟩ | ⟨h1,h2⟩<;>simp_all)
 all_goals(rw[IntKind.wrap_u8'];omega)
theorem Zjq (m:Int)(i:Nat)(hm:0<=m/\m<=7)(hi:i<32):bits .or .u8 (IntKind.u8.wrap (IntKind.u8.wrap m*2 ^ min (Int.toNat 5) IntKind.u8.bits)) (i:Int)=((Zb7 m.toNat i).toNat:Int):=by
 have e2:IntKind.u8.wrap (IntKind.u8.wrap m*2 ^ min (Int.toNat 5) IntKind.u8.bits)=(m.toNat:Int)*32:=by
  rw[show min (Int.toNat 5) IntKind.u8.bits=5 from rfl,IntKind.wrap_u8',IntKind.wrap_u8'];omega
 rw[e2,Zq1 m.toNat i (by omega) hi]
 unfold Zb7
 rw[UInt8.toNat_ofNat']
 omega
theorem Zlm {h:Hd}(hr:ZaZ h=true):0<=h.1/\h.1<=7:=by
 obtain⟨m,n,o⟩:=h
 cases o<;>simp[ZaZ,Zid]at hr<;>omega
theorem Zot (n q:Nat)(hq:q<8):E.int .u8 (IntKind.u8.wrap ((n:Int).fdiv (2 ^ min (IntKind.i64.wrap (8*(q:Int))).toNat IntKind.u64.bits)))=E.byte (UInt8.ofNat (n/256 ^ q)):=by
 have e:IntKind.i64.wrap (8*(q:Int))=((8*q:Nat):Int):=by rw[IntWalk.i64_in _ (by omega)];omega
 rw[e,Int.toNat_natCast,show min (8*q) IntKind.u64.bits=8*q from Nat.min_eq_left (by show 8*q<=64;omega)]
 rw[show((n:Int).fdiv (2 ^ (8*q)))=((n/256 ^ q:Nat):Int) from by
  have e:(2:Int) ^ (8*q)=((256 ^ q:Nat):Int):=by
   rw[show(256:Nat)=2 ^ 8 from rfl,<- Nat.pow_mul]
   simp
  rw[e,Int.fdiv_eq_ediv_of_nonneg _ (Int.natCast_nonneg _),<- Int.natCast_ediv]]
 rw[IntKind.wrap_u8']
 unfold E.byte
 rw[UInt8.toNat_ofNat']
 congr 1
theorem Zjr [Known](h:Hd)(hn:h.2.1<18446744073709551616):AP Tryz.prog 184 [hd h] (.tup [byE (if ZaZ h then ZaN h else []),.int .i64 (if ZaZ h then 0 else 3)]) []:=by
 refine AP.weak ?_
 have HR:=@Zlm h
 have HN:=hid hn
 clear hn
 refine Zan Tryz.func184 rfl Tryz.ntmps184 rfl rfl ?_
 repeat'(first|(apply ZcM (ZmQ h);kernel_rfl;(iterate 4 exact Z))|(apply ZcM (Zos _);kernel_rfl;(iterate 4 exact Z))|(apply ZcM (Zhu _);kernel_rfl;(iterate 4 exact Z))|(apply ZiV;exact Z;exact Z;(exact(by decide));exact Z)|(apply Zaj Zab;exact Z)|(apply Zah Zab;exact Z)|(apply Zav Zab;exact Z)|(apply Zbw;exact Z;all_goals intro hb)|(apply Zfw Zab;(iterate 12 exact Z))|(apply ZaP 7 ZaL;decide +kernel;kernel_rfl;kernel_rfl;exact Z;exact Z)|(apply Za0;(iterate 3 exact Z))|refine AD.nil _|exact ZbC rfl)
 ·refine ZpY (.cons _ _ _ _ (.tmp _ _ rfl) (.cons _ _ _ _ (.tmp _ _ rfl) .nil)) rfl ?_
  simp_all [byE]
 ·refine ZpY (.cons _ _ _ _ (.tmp _ _ rfl) (.cons _ _ _ _ (.tmp _ _ rfl) .nil)) rfl ?_
  have hr:ZaZ h=true:=by simpa using(‹(!ZaZ h)=false›)
  rw[if_pos hr,if_pos hr,show ZaN h=[Zb7 h.1.toNat 31] by simp[ZaN,hb],show E.int IntKind.u8 (bits .or .u8 (IntKind.u8.wrap (IntKind.u8.wrap h.1*2 ^ min (Int.toNat 5) IntKind.u8.bits)) 31)=E.byte (Zb7 h.1.toNat 31) from congrArg _ (Zjq h.1 31 (HR hr) (by omega))]
  rfl
 rename_i hb1
 have hr:ZaZ h=true:=by simpa using hb1
 have hw:ZaN h=Zb7 h.1.toNat (ZbA h.2.1)::beN h.2.1 (ZaD h.2.1):=by simp[ZaN,hb]
 have hlen:(beN h.2.1 (ZaD h.2.1)).length=ZaD h.2.1:=Za4 _ _
 have hf8:=Zgi h.2.1
 refine ZaE (fun k tm bx fr=>∃(i c:Nat) (L:List E),k+i=ZaD h.2.1/\c=L.length/\c=i+1/\L=((ZaN h).take (i+1)).map E.byte/\tm=[(33,.int .i64 (i:Int)),(32,.int .i64 (ZaD h.2.1:Int)),(5,.int .i64 (ZaD h.2.1:Int)),(4,.sl (.own 0) L),(3,.int .i64 0),(1,.ptr 0 0)]/\bx=[[.int .i64 h.1,.int .u64 (h.2.1:Int),.bool h.2.2]]/\fr=[⟨c,1,5⟩]) (ZaD h.2.1+1) (Lands.mk' (m:=ZaD h.2.1) (Nat.lt_succ_self _) ⟨0,1,[E.byte (Zb7 h.1.toNat (ZbA h.2.1))],rfl,rfl,rfl,by rw[hw];rfl,rfl,rfl,rfl⟩ ?_ rfl rfl rfl rfl rfl rfl) ?_
 ·repeat'(first|exact Av.Sub.nil|refine Av.Sub.cons rfl ?_|refine Av.Sub.cons ?_ ?_)
  have e:=congrArg (fun x:Int=>D.sl (.own 0) [E.int .u8 x]) (Zjq h.1 (ZbA h.2.1) (HR hr) (by have:=Zje h.2.1;omega))
  exact e
 rintro k tm bx fr ⟨i,c,L,hk,hc,hi,hL,rfl,rfl,rfl⟩
 have hU:Uni 1 L:=hL ▸ Zbm _
 repeat'(first|(apply ZbD;exact Z;exact Z;rotate_left;exact Z)|(apply Zaj Zab;exact Z)|(apply Zah Zab;exact Z)|(apply Zbw;exact Z;all_goals intro hb)|(apply Zfw Zab;(iterate 12 exact Z))|(apply ZaJ Zab;(iterate 6 exact Z);(first|with_reducible assumption|exact Z|rotate_left);exact Z;exact Z;(first|exact Zai rfl|with_reducible assumption|rotate_left);(first|exact Zai rfl|with_reducible assumption|rotate_left);(first|exact Go.ZrK|rotate_left);(first|exact Go.ZrK|rotate_left);(first|exact Go.ZrK|rotate_left);exact Z;exact Z))
 ·have hlt:i<ZaD h.2.1:=by have:=of_decide_eq_true hb;omega
  have hx:IntKind.i64.wrap (IntKind.i64.wrap (↑(ZaD h.2.1)-1) - ↑i)=((ZaD h.2.1-1-i:Nat):Int):=by
   rw[IntWalk.i64_in ((ZaD h.2.1:Int)-1) (by omega),IntWalk.i64_in _ (by omega)];omega
  refine Lands.mk' (m:=k-1) (by omega) ⟨i+1,L.length+1,L++[E.byte (UInt8.ofNat (h.2.1/256 ^ (ZaD h.2.1-1-i)))],by omega,by simp,by omega,?_,rfl,rfl,rfl⟩ ?_ rfl rfl rfl rfl rfl rfl
  ·rw[hL,hw,List.take_succ_cons,List.take_succ_cons,Zec _ _ _ hlt]
   simp
  ·refine .cons ?_ (.cons rfl (.cons rfl (.cons ?_ (.cons rfl (.cons rfl .nil)))))
   ·exact congrArg (D.int .i64) (IntWalk.i64_in _ (by omega))
   ·have e:=congrArg (fun x=>D.sl (.own 0) (L++[x])) (Zot h.2.1 (ZaD h.2.1-1-i) (by omega))
    rw[<- hx]at e
    exact e
 ·have:=of_decide_eq_true hb;show L.length+1<=maxLen;unfold maxLen;omega
 ·have:=of_decide_eq_true hb;show(L.length+1)*1<=140737488355328;omega
 ·have:=of_decide_eq_true hb
  have hx:IntKind.i64.wrap (IntKind.i64.wrap (↑(ZaD h.2.1)-1) - ↑i)=((ZaD h.2.1-1-i:Nat):Int):=by
   rw[IntWalk.i64_in ((ZaD h.2.1:Int)-1) (by omega),IntWalk.i64_in _ (by omega)];omega
  rw[hx,IntWalk.i64_in _ (by omega)];omega
 ·refine ZpY (.cons _ _ _ _ (.tmp _ _ rfl) (.cons _ _ _ _ (.tmp _ _ rfl) .nil)) rfl ?_
  rw[if_pos hr,if_pos hr,hL]
  have:=of_decide_eq_false hb
  rw[List.take_of_length_le (by rw[hw,List.length_cons,hlen];omega)]
def rdD (r:Hd × Nat × Nat):D:=.tup [hd r.1,.int .i64 (r.2.1:Int),.int .i64 (r.2.2:Int)]
theorem Zjs (b:List UInt8)(p:Int)(h0:0<=p)(h1:p<(b.length:Int)):∃ c r,b.drop p.toNat=c::r/\r.length+p.toNat+1=b.length/\(b.map E.byte)[p.toNat]?=some (E.byte c)/\∀ j:Nat,j<r.length->(b.map E.byte)[p.toNat+1+j]?=(r.map E.byte)[j]? := by
 have h:p.toNat<b.length:=by omega
 refine⟨b[p.toNat],b.drop (p.toNat+1),List.drop_eq_getElem_cons h,by rw[List.length_drop];omega,by simp[h],fun j hj=>by simp[List.getElem?_drop]⟩
theorem Zq6 (c:UInt8):((c.toNat:Int)).fdiv (2 ^ min (Int.toNat 5) IntKind.u8.bits)=((c.toNat/32:Nat):Int):=by
 rw[show min (Int.toNat 5) IntKind.u8.bits=5 from rfl,Int.fdiv_eq_ediv_of_nonneg _ (by decide)]
 omega
theorem ZeV {b:List UInt8}{p:Nat}{c:UInt8}{r:List UInt8}(h:b.drop p=c::r)(h1:c.toNat % 32<24):ZbO b p=((((c.toNat/32:Nat):Int),c.toNat % 32,false),p+1,0):=by
 unfold ZbO;rw[h];simp only;rw[if_pos h1]
theorem Zgo {b:List UInt8}{p:Nat}{c:UInt8}{r:List UInt8}(h:b.drop p=c::r)(h1:c.toNat % 32=31)(h2:Zid (c.toNat/32:Nat)=true):ZbO b p=((((c.toNat/32:Nat):Int),0,true),p+1,0):=by
 unfold ZbO;rw[h];simp only;rw[if_neg (by omega),if_pos ⟨h1,h2⟩]
theorem ZfE {b:List UInt8}{p:Nat}{c:UInt8}{r:List UInt8}(h:b.drop p=c::r)(h1:27<c.toNat % 32)(h2:c.toNat % 32=31->Zid (c.toNat/32:Nat)=false):ZbO b p=((0,0,false),0,3):=by
 unfold ZbO;rw[h];simp only;rw[if_neg (by omega),if_neg (fun hh=>by have:=h2 hh.1;rw[hh.2]at this;cases this),if_pos h1]
theorem ZfF {b:List UInt8}{p:Nat}{c:UInt8}{r:List UInt8}(h:b.drop p=c::r)(h1:¬ c.toNat % 32<24)(h2:¬ 27<c.toNat % 32)(h3:r.length<2 ^ (c.toNat % 32-24)):ZbO b p=((0,0,false),0,8):=by
 unfold ZbO;rw[h];simp only;rw[if_neg h1,if_neg (by omega),if_neg h2,if_pos h3]
theorem Zgp {b:List UInt8}{p:Nat}{c:UInt8}{r:List UInt8}(h:b.drop p=c::r)(h1:¬ c.toNat % 32<24)(h2:¬ 27<c.toNat % 32)(h3:¬ r.length<2 ^ (c.toNat % 32-24)):ZbO b p=((((c.toNat/32:Nat):Int),Zcu (r.take (2 ^ (c.toNat % 32-24))),false),p+1+2 ^ (c.toNat % 32-24),0):=by
 unfold ZbO;rw[h];simp only;rw[if_neg h1,if_neg (by omega),if_neg h2,if_neg h3]
theorem Zln (v:Nat)(h:¬ v<24)(h':¬ 27<v):IntKind.i64.wrap (1*2 ^ min (IntKind.u8.wrap ((v:Int)-24)).toNat IntKind.i64.bits)=((2 ^ (v-24):Nat):Int)/\2 ^ (v-24)<=8:=by
 obtain rfl|rfl|rfl|rfl:v=24\/v=25\/v=26\/v=27:=by omega
 all_goals decide
theorem Zou [Known](b:List UInt8)(p:Int)(hb:b.length<=4611686018427387904):AP Tryz.prog 201 [byE b,.int .i64 p] (rdD (Ze2 b p)) []:=by
 have HB:=hid hb
 clear hb
 have HU:=Zbm b
 refine Zan Tryz.func201 rfl Tryz.ntmps201 rfl rfl ?_
 repeat'(first|(apply Zaj Zab;exact Z)|(apply Zah Zab;exact Z)|(apply Zav Zab;exact Z)|(apply Zae;(iterate 3 exact Z);(first|with_reducible assumption|(solve|simp only[bn])))|(apply Zal;(iterate 3 exact Z);(first|with_reducible assumption|(solve|simp only[bn])))|(apply Zbo;exact Z;exact Z;all_goals intro hb)|(apply Zak;exact Z;(first|with_reducible assumption|(solve|simp only[bn]));exact Z;exact Z)|(apply Zag;exact Z;(first|with_reducible assumption|(solve|simp only[bn]));exact Z;exact Z)|(apply Zac;exact Z;(first|with_reducible assumption|(solve|simp only[bn])))|(apply Zbw;exact Z;all_goals intro hb)|(apply Zam Zab;(iterate 4 exact Z)))
 ·(apply Zfk (ts:=[]);(apply Zad Zab;exact Z);exact ZaA _;exact Z;rotate_left;exact Z)
  have:p<0:=of_decide_eq_true hb
  rw[show Ze2 b p=_ from if_pos (.inl this)];rfl
 ·(apply Zfk (ts:=[]);(apply Zad Zab;exact Z);exact ZaA _;exact Z;rotate_left;exact Z)
  have:p>((b.map E.byte).length:Int):=of_decide_eq_true hb
  rw[List.length_map]at this
  rw[show Ze2 b p=_ from if_pos (.inr this)];rfl
 ·(apply Zfk (ts:=[]);(apply Zad Zab;exact Z);exact ZaA _;exact Z;rotate_left;exact Z)
  have:p=((b.map E.byte).length:Int):=by simpa using hb
  rw[List.length_map]at this
  have hd:b.drop p.toNat=[]:=by rw[List.drop_eq_nil_iff];omega
  rw[show Ze2 b p=ZbO b p.toNat from if_neg (by omega)]
  unfold ZbO
  rw[hd];rfl
 rename_i g1 g2
 have h0:0<=p:=by have:=of_decide_eq_false g1;omega
 have h1:p<(b.length:Int):=by
  have a1:=of_decide_eq_false g2
  rw[List.length_map]at a1 hb
  have a2:p ≠ (b.length:Int):=by simpa using hb
  omega
 obtain⟨c,r,hd,hl,hv,hr⟩:=Zjs b p h0 h1
 have HH:=hid (show Ze2 b p=ZbO b p.toNat from if_neg (by omega))
 have HD:=hid hd
 have HL:=hid hl
 have HR:=hid hr
 have e1:IntKind.i64.wrap ((c.toNat/32:Nat):Int)=((c.toNat/32:Nat):Int):=IntWalk.i64_in _ (by have:=c.toNat_lt;omega)
 have e2:IntKind.u64.wrap ((c.toNat % 32:Nat):Int)=((c.toNat % 32:Nat):Int):=by rw[IntKind.wrap_u64];omega
 have e3:IntKind.i64.wrap (p+1)=((p.toNat+1:Nat):Int):=by have:=HB.out;rw[IntWalk.i64_in _ (by omega)];omega
 clear hb g1 g2 hd hl hr
 repeat'(first|rw[Zqe c]|rw[Zq6 c]|rw[e1]|rw[e2]|rw[e3]|(apply ZcM (ZnG _);kernel_rfl;(iterate 4 exact Z))|(apply Zaj Zab;exact Z)|(apply Zah Zab;exact Z)|(apply Zav Zab;exact Z)|(apply Zae;(iterate 3 exact Z);(first|with_reducible assumption|(solve|simp only[bn])))|(apply Zas;(iterate 3 exact Z);(first|with_reducible assumption|(solve|simp only[bn])))|(apply Zbo;exact Z;exact Z;all_goals intro hb)|(apply Zak;exact Z;(first|with_reducible assumption|(solve|simp only[bn]));exact Z;exact Z)|(apply Zag;exact Z;(first|with_reducible assumption|(solve|simp only[bn]));exact Z;exact Z)|(apply Zaf;exact Z;(first|with_reducible assumption|(solve|simp only[bn])))|(apply Zbw;exact Z;all_goals intro hb)|(apply Zam Zab;(iterate 4 exact Z))|(apply Zau Zab;(iterate 6 exact Z);(first|exact Go.ZrK|rotate_left);(first|with_reducible assumption|exact Z);(first|exact Zai rfl|with_reducible assumption|rotate_left))|(apply ZbD;exact Z;exact Z;(first|exact Go.ZrK|rotate_left);exact Z)|(apply ZiV;exact Z;exact Z;(first|exact Go.ZrK|rotate_left);exact Z))
 ·(apply Zfk (ts:=[]);(apply Zad Zab;exact Z);exact ZaA _;exact Z;rotate_left;exact Z)
  rw[HH.out,ZeV HD.out (by have:=of_decide_eq_true hb;omega)];rfl
 ·(apply Zfk (ts:=[]);(apply Zad Zab;exact Z);exact ZaA _;exact Z;rotate_left;exact Z)
  rw[HH.out,Zgo HD.out (by have:=of_decide_eq_false (‹decide _=false›);simp at *;omega) hb];rfl
 iterate 2
  ·(apply Zfk (ts:=[]);(apply Zad Zab;exact Z);exact ZaA _;exact Z;rotate_left;exact Z)
   rw[HH.out,ZfE HD.out (by have:=of_decide_eq_true hb;omega) (by intro hh;first|assumption|simp_all)];rfl
  ·(apply Zfk (ts:=[]);(apply Zad Zab;exact Z);exact ZaA _;exact Z;rotate_left;exact Z)
   have g1:=of_decide_eq_true hb
   have g2:=of_decide_eq_false (‹decide (((c.toNat % 32:Nat):Int)>27)=false›)
   have g3:=of_decide_eq_false (‹decide (((c.toNat % 32:Nat):Int)<24)=false›)
   have g4:=Zln (c.toNat % 32) (by omega) (by omega)
   have g5:=HL.out
   have g6:=HB.out
   rw[g4.1,List.length_map,IntWalk.i64_in _ (by omega)]at g1
   rw[HH.out,ZfF HD.out (by omega) (by omega) (by omega)];rfl
  ·have g1:=of_decide_eq_false hb
   have g2:=of_decide_eq_false (‹decide (((c.toNat % 32:Nat):Int)>27)=false›)
   have g3:=of_decide_eq_false (‹decide (((c.toNat % 32:Nat):Int)<24)=false›)
   have g4:=Zln (c.toNat % 32) (by omega) (by omega)
   have g5:=HL.out
   have g6:=HB.out
   rw[g4.1,List.length_map,IntWalk.i64_in _ (by omega)]at g1
   rw[g4.1]
   have g7:=HH.out.trans (Zgp HD.out (by omega) (by omega) (by omega))
   generalize 2 ^ (c.toNat % 32-24)=m at g1 g4 g7 ⊢
   have g8:=g4.2
   have G7:=hid g7
   clear hb g2 g3 g4 g7
   refine ZaE (fun k tm bx fr=>∃ i,k+i=m/\tm=[(75,.int .i64 (i:Int)),(74,.int .i64 (m:Int)),(9,.int .i64 (m:Int)),(7,.ptr 1 0),(1,.int .i64 ((p.toNat+1:Nat):Int)),(0,byE b),(4,.ptr 0 0)]/\bx=[[.int .i64 0,.int .u64 0,.bool false],[.int .i64 ((c.toNat/32:Nat):Int),.int .u64 (Zcu (r.take i):Nat),.bool false]]/\fr=[]) (m+1) (Lands.mk' (m:=m) (Nat.lt_succ_self _) ⟨0,rfl,rfl,rfl,rfl⟩ ?_ rfl rfl rfl rfl rfl rfl) ?_
   ·repeat'(first|exact Av.Sub.nil|refine Av.Sub.cons rfl ?_)
   rintro k tm bx fr ⟨i,hk,rfl,rfl,rfl⟩
   rcases Nat.lt_or_ge i m with hlt|hge
   ·have hd:decide ((i:Int)<(m:Int))=true:=by simp;omega
    have hir:i<r.length:=by omega
    have hv':(b.map E.byte)[((p.toNat+1+i:Nat):Int).toNat]?=some (E.byte r[i]):=by
     rw[Int.toNat_natCast,HR.out i hir];simp[hir]
    have e4:IntKind.i64.wrap (((p.toNat+1:Nat):Int)+(i:Int))=((p.toNat+1+i:Nat):Int):=by rw[IntWalk.i64_in _ (by omega)];omega
    have e7:IntKind.i64.wrap ((i:Int)+1)=((i+1:Nat):Int):=by rw[IntWalk.i64_in _ (by omega)];omega
    have e6:IntKind.u64.wrap ((r[i].toNat:Nat):Int)=((r[i].toNat:Nat):Int):=by have:=r[i].toNat_lt;rw[IntKind.wrap_u64];omega
    have e5:bits .or .u64 (IntKind.u64.wrap (((Zcu (r.take i):Nat):Int)*2 ^ min (Int.toNat 8) IntKind.u64.bits)) ((r[i].toNat:Nat):Int)=((Zcu (r.take (i+1)):Nat):Int):=by
     have h9:=Zkh (Zcu (r.take i)) r[i] (Zed r i (by omega))
     rw[show((2:Int) ^ min (Int.toNat 8) IntKind.u64.bits)=256 from rfl,h9.1,h9.2,Zhr r i hir]
    repeat'(first|rw[e4]|rw[e5]|rw[e6]|rw[e7]|(apply Zaj Zab;exact Z)|(apply Zah Zab;exact Z)|(apply Zac;exact Z;(first|with_reducible assumption|(solve|simp only[bn])))|(apply ZaP 10 ZaL;decide +kernel;kernel_rfl;kernel_rfl;exact Z;exact Z)|(apply Za0;(iterate 3 exact Z))|refine AD.nil _|exact ZbC rfl|(apply Zau Zab;(iterate 6 exact Z);(first|exact Go.ZrK|rotate_left);(first|with_reducible assumption|exact Z);(first|exact Zai rfl|with_reducible assumption|rotate_left))|(apply ZiV;exact Z;exact Z;(first|exact Go.ZrK|rotate_left);exact Z))
    refine Lands.mk' (m:=k-1) (by omega) ⟨i+1,by omega,rfl,rfl,rfl⟩ ?_ rfl rfl rfl rfl rfl rfl
    repeat'(first|exact Av.Sub.nil|refine Av.Sub.cons rfl ?_)
   ·have hd:decide ((i:Int)<(m:Int))=false:=by simp;omega
    repeat'(first|(apply Zah Zab;exact Z)|(apply Zaf;exact Z;(first|with_reducible assumption|(solve|simp only[bn]))))
    (apply Zfk (ts:=[]);(apply Zad Zab;exact Z);exact ZaA _;exact Z;rotate_left;exact Z)
    have h9:i=m:=by omega
    subst h9
    rw[G7.out,IntWalk.i64_in _ (by omega)]
    rfl
  ·have g2:=of_decide_eq_false hb
   have g3:=of_decide_eq_false (‹decide (((c.toNat % 32:Nat):Int)<24)=false›)
   rw[IntKind.wrap_u8'];omega
end Go.Proofs.YtakblclkflnnpaaGreatDoor
end
