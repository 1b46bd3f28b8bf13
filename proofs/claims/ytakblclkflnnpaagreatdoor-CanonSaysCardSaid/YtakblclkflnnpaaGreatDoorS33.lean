/- The document's blocks: the item that data are; an age, hops, a name. -/
import Derived.Test.YtakblclkflnnpaaGreatDoorS23
import Derived.Test.YtakblclkflnnpaaGreatDoorS24
import Derived.Test.YtakblclkflnnpaaGreatDoorS30
import Derived.Test.YtakblclkflnnpaaGreatDoorS32
set_option linter.unusedVariables false
set_option linter.unusedSimpArgs false
section
open Go.RowKit Go.Pl Go.Av
namespace Go.Proofs.YtakblclkflnnpaaGreatDoor
set_option maxHeartbeats 4000000
theorem Zmi (d:List UInt8)(hd:d.length<=100000){y:It}{n:Nat}(h:Zbm d 0=(y,n,0)):Zb0 d=(((n:Int)==(d.length:Int))&&(Zbg y==d)):=by
 have e:Zbm d 0=match ZaR 6 256 d with
   | .error e=>(.mk 0 0 [] [],0,e)
   | .ok (x,r,_)=>(x,d.length-r.length,0):=by rw[Zbm,if_neg (by omega)];rfl
 unfold Zb0
 rw[e]at h
 cases hx:ZaR 6 256 d with
 | error c=>
  rw[hx]at h
  injection h with _ h
  injection h with _ h
  exact absurd h (ZcT _ _ _ _ hx)
 | ok z=>
  obtain⟨z,r,m1⟩:=z
  obtain⟨_,_,pre,hpre,hpos,_⟩:=Zef 6 (Nat.le_refl _) _ _ _ _ _ hx (by omega)
  rw[hx]at h
  injection h with h1 h2
  injection h2 with h2 _
  subst h1 h2
  have hpl:=congrArg List.length hpre
  rw[List.length_append]at hpl
  have e1:r.isEmpty=(((d.length-r.length:Nat):Int)==(d.length:Int)):=by
   cases r with
   | nil=>simp
   | cons c r=>
    have:¬ ((d.length-(c::r).length:Nat):Int)=(d.length:Int):=by simp only[List.length_cons]at hpl ⊢;omega
    simpa using this
  dsimp only
  rw[e1]
def Zhp (d:List UInt8):It:=match Zb0 d with
 | true=>(Zbm d 0).1
 | false=>.mk 0 0 [] []
theorem Zgs [Known][KnownU8](d:List UInt8)(hd:d.length<=100000):AP Tryz.prog 106 [byE d] (.tup [itD (Zhp d),.bool (Zb0 d)]) []:=by
 have hR:=ZlS d 0 (by omega)
 unfold Zhp
 rcases Zdh d (by omega) with⟨e,he,h,hs⟩ | ⟨y,m,h,hw,hr,hl,hm⟩
 ·rw[h]at hR
  rw[hs]
  replace hR:AP Tryz.prog _ _ (.tup [.agg [.int .i64 0,.int .u64 0,.sl .ext [],.sl .ext []],.int .i64 0,.int .i64 (e:Int)]) []:=hR
  have t1:((e:Int) != 0)=true:=by simpa using he
  refine AP.ofA ?_
  refine Zao Tryz.func106 rfl Tryz.ntmps106 rfl rfl ?_
  repeat'(first|(apply Zaa (hR);kernel_rfl;(iterate 4 exact Z))|(apply Zaj Zab;exact Z)|(apply Zah Zab;exact Z)|(apply Zav Zab;exact Z)|(apply Zal;(iterate 3 exact Z);exact Go.Zqm)|(apply Zak;exact Z;exact Go.Zqm;exact Z;exact Z)|(apply Zac;exact Z;exact Go.Zqm)|(apply Zam 14 ZaJ;decide +kernel;kernel_rfl;kernel_rfl;kernel_rfl;exact Z;exact Z)|(apply Zaq;(iterate 4 exact Z))|exact AE.nil _ _ _ _|(apply Zas;exact Z)|(apply Zaw;exact Z;exact Z;decide +kernel;exact Z)|(apply Zax;exact Z)|exact AO.nil _ _ _|(apply Zap;(decide +kernel))|exact AOs.nil|exact ZaE rfl rfl)
  all_goals(apply Zay [];(apply Zad Zab;exact Z);(iterate 4 exact Z))
  all_goals rfl
 ·have hf:Zfk y=true:=by
   have:=hr
   rw[ZkM]at this
   simp only[Bool.and_eq_true]at this
   exact this.2.2
  have hW:=ZkO y hw hf (by omega)
  have hsh:=Zmi d hd h
  have hdl:(d.map E.byte).length=d.length:=List.length_map ..
  rw[h]at hR
  rw[hsh,h]
  dsimp only
  generalize Zbg y=P at *
  obtain⟨k,n,b,l⟩:=y
  replace hR:AP Tryz.prog _ _ (.tup [.agg (itC k n b l),.int .i64 (m:Int),.int .i64 0]) []:=hR
  cases t1:((m:Int)==(d.length:Int)) with
  | false=>
   have t1':((m:Int) != ((d.map E.byte).length:Int))=true:=by rw[hdl,bne,t1];rfl
   refine AP.ofA ?_
   refine Zao Tryz.func106 rfl Tryz.ntmps106 rfl rfl ?_
   repeat'(first|(apply Zaa (hR);kernel_rfl;(iterate 4 exact Z))|(apply Zaj Zab;exact Z)|(apply Zah Zab;exact Z)|(apply Zav Zab;exact Z)|(apply Zae;(iterate 3 exact Z);exact Go.Zqm)|(apply Zal;(iterate 3 exact Z);exact Go.Zqm)|(apply Zak;exact Z;exact Go.Zqm;exact Z;exact Z)|(apply Zag;exact Z;exact Go.Zqm;exact Z;exact Z)|(apply Zac;exact Z;exact Go.Zqm)|(apply Zan Zab;(iterate 4 exact Z))|(apply Zam 14 ZaJ;decide +kernel;kernel_rfl;kernel_rfl;kernel_rfl;exact Z;exact Z)|(apply Zaq;(iterate 4 exact Z))|exact AE.nil _ _ _ _|(apply Zas;exact Z)|(apply Zaw;exact Z;exact Z;decide +kernel;exact Z)|(apply Zax;exact Z)|exact AO.nil _ _ _|(apply Zap;(decide +kernel))|exact AOs.nil|exact ZaE rfl rfl)
   all_goals(apply Zay [];(apply Zad Zab;exact Z);(iterate 4 exact Z))
   all_goals rfl
  | true=>
   have t1':((m:Int) != ((d.map E.byte).length:Int))=false:=by rw[hdl,bne,t1];rfl
   cases t2:(P==d) with
   | false=>
    have t2':(P != d)=true:=by rw[bne,t2];rfl
    refine AP.ofA ?_
    refine Zao Tryz.func106 rfl Tryz.ntmps106 rfl rfl ?_
    repeat'(first|(apply Zaa (hR);kernel_rfl;(iterate 4 exact Z))|(apply Zaa (hW);kernel_rfl;(iterate 4 exact Z))|(apply Zaj Zab;exact Z)|(apply Zah Zab;exact Z)|(apply Zav Zab;exact Z)|(apply Zae;(iterate 3 exact Z);exact Go.Zqm)|(apply Zag;exact Z;exact Go.Zqm;exact Z;exact Z)|(apply Zac;exact Z;exact Go.Zqm)|(apply Zan Zab;(iterate 4 exact Z))|(apply Zam 14 ZaJ;decide +kernel;kernel_rfl;kernel_rfl;kernel_rfl;exact Z;exact Z)|(apply Zaq;(iterate 4 exact Z))|exact AE.nil _ _ _ _|(apply Zas;exact Z)|(apply Zaw;exact Z;exact Z;decide +kernel;exact Z)|(apply Zax;exact Z)|exact AO.nil _ _ _|(apply Zap;(decide +kernel))|exact AOs.nil|exact ZaE rfl rfl|(apply Zco Zab;(iterate 9 exact Z)))
    all_goals(apply Zay [];(apply Zad Zab;exact Z);(iterate 4 exact Z))
    all_goals rfl
   | true=>
    have t2':(P != d)=false:=by rw[bne,t2];rfl
    refine AP.ofA ?_
    refine Zao Tryz.func106 rfl Tryz.ntmps106 rfl rfl ?_
    repeat'(first|(apply Zaa (hR);kernel_rfl;(iterate 4 exact Z))|(apply Zaa (hW);kernel_rfl;(iterate 4 exact Z))|(apply Zaj Zab;exact Z)|(apply Zah Zab;exact Z)|(apply Zav Zab;exact Z)|(apply Zae;(iterate 3 exact Z);exact Go.Zqm)|(apply Zag;exact Z;exact Go.Zqm;exact Z;exact Z)|(apply Zaf;exact Z;exact Go.Zqm)|(apply Zan Zab;(iterate 4 exact Z))|(apply Zam 14 ZaJ;decide +kernel;kernel_rfl;kernel_rfl;kernel_rfl;exact Z;exact Z)|(apply Zaq;(iterate 4 exact Z))|exact AE.nil _ _ _ _|(apply Zas;exact Z)|(apply Zaw;exact Z;exact Z;decide +kernel;exact Z)|(apply Zax;exact Z)|exact AO.nil _ _ _|(apply Zap;(decide +kernel))|exact AOs.nil|exact ZaE rfl rfl|(apply Zco Zab;(iterate 9 exact Z)))
    all_goals(apply Zay [];(apply Zad Zab;exact Z);(iterate 4 exact Z))
    all_goals rfl
theorem Zp2 [Known](ty num fl:Nat)(sum:Int)(d:List UInt8)(hA:AP Tryz.prog 24 [] (.bool true) [])(t0:decide (((d.map E.byte).length:Int)>400)=true) :
  AP Tryz.prog 5 [.agg [.int .u64 (ty:Int),.int .u64 (num:Int),.int .u64 (fl:Int),.int .i64 sum,byE d]] (.bool true) []:=by
 refine AP.ofA ?_
 refine Zao Tryz.func5 rfl Tryz.ntmps5 rfl rfl ?_
 repeat'(first|(apply Zaa (hA);kernel_rfl;(iterate 4 exact Z))|(apply Zaj Zab;exact Z)|(apply Zah Zab;exact Z)|(apply Zav Zab;exact Z)|(apply Zac;exact Z;exact Go.Zqm)|(apply Zan Zab;(iterate 4 exact Z)))
 all_goals(apply Zay [];(apply Zad Zab;exact Z);(iterate 4 exact Z))
 all_goals first|rfl|exact congrArg D.bool y4
theorem Zor [Known](ty num fl:Nat)(sum:Int)(d:List UInt8)(e f g:Int)(pi qi:Bool)(pn ps qn qs n k l m i j:Nat)(ph pd qh qd:List UInt8)(o1 o2 o3:Bool)
  (hA:AP Tryz.prog 24 [] (.bool true) [])
  (t0:decide (((d.map E.byte).length:Int)>400)=false)
  (hS:AP Tryz.prog 25 [.agg [.int .u64 (ty:Int),.int .u64 (num:Int),.int .u64 (fl:Int),.int .i64 sum,byE d]] (.agg [.int .u64 (ty:Int),.int .u64 (num:Int),.int .u64 (fl:Int),.int .i64 sum,byE d]) [])
  (h6:AP Tryz.prog 37 [.agg [.int .u64 (ty:Int),.int .u64 (num:Int),.int .u64 (fl:Int),.int .i64 sum,byE d],.int .u64 6] (.int .i64 e) [])
  (h7:AP Tryz.prog 37 [.agg [.int .u64 (ty:Int),.int .u64 (num:Int),.int .u64 (fl:Int),.int .i64 sum,byE d],.int .u64 7] (.int .i64 f) [])
  (h10:AP Tryz.prog 37 [.agg [.int .u64 (ty:Int),.int .u64 (num:Int),.int .u64 (fl:Int),.int .i64 sum,byE d],.int .u64 10] (.int .i64 g) [])
  (x1:(e != e)=false) (x2:(f != f)=false) (x3:(g != g)=false)
  (hP:AP Tryz.prog 34 [.agg [.int .u64 (ty:Int),.int .u64 (num:Int),.int .u64 (fl:Int),.int .i64 sum,byE d]] (.tup [.agg [.bool false,.int .u64 0,.int .u64 0,.str [],.str []],.int .i64 e]) [])
  (hN:AP Tryz.prog 35 [.agg [.int .u64 (ty:Int),.int .u64 (num:Int),.int .u64 (fl:Int),.int .i64 sum,byE d]] (.tup [.int .u64 0,.int .i64 f]) [])
  (hL:AP Tryz.prog 36 [.agg [.int .u64 (ty:Int),.int .u64 (num:Int),.int .u64 (fl:Int),.int .i64 sum,byE d]] (.tup [.int .u64 0,.int .u64 0,.int .i64 g]) [])
  (hQ:AP Tryz.prog 38 [byE d] (.tup [.agg [.bool qi,.int .u64 (qn:Int),.int .u64 (qs:Int),.str qh,.str qd],.bool o1]) [])
  (hK:AP Tryz.prog 39 [byE d] (.tup [.int .u64 (k:Int),.bool o2]) [])
  (hJ:AP Tryz.prog 40 [byE d] (.tup [.int .u64 (i:Int),.int .u64 (j:Int),.bool o3]) [])
  (hE:AP Tryz.prog 41 [.agg [.bool false,.int .u64 0,.int .u64 0,.str [],.str []]] (.agg [.bool false,.int .u64 0,.int .u64 0,.str [],.str []]) [])
  (te:(e != 0)=true)
  (tf:(f != 0)=true)
  (tg:(g != 0)=true) :
  AP Tryz.prog 5 [.agg [.int .u64 (ty:Int),.int .u64 (num:Int),.int .u64 (fl:Int),.int .i64 sum,byE d]] (.bool true) []:=by
 refine AP.ofA ?_
 refine Zao Tryz.func5 rfl Tryz.ntmps5 rfl rfl ?_
 repeat'(first|(apply Zaa (hA);kernel_rfl;(iterate 4 exact Z))|(apply Zaa (hS);kernel_rfl;(iterate 4 exact Z))|(apply Zaa (h6);kernel_rfl;(iterate 4 exact Z))|(apply Zaa (h7);kernel_rfl;(iterate 4 exact Z))|(apply Zaa (h10);kernel_rfl;(iterate 4 exact Z))|(apply Zaa (hP);kernel_rfl;(iterate 4 exact Z))|(apply Zaa (hN);kernel_rfl;(iterate 4 exact Z))|(apply Zaa (hL);kernel_rfl;(iterate 4 exact Z))|(apply Zaa (hQ);kernel_rfl;(iterate 4 exact Z))|(apply Zaa (hK);kernel_rfl;(iterate 4 exact Z))|(apply Zaa (hJ);kernel_rfl;(iterate 4 exact Z))|(apply Zaa (hE);kernel_rfl;(iterate 4 exact Z))|(apply Zaj Zab;exact Z)|(apply Zah Zab;exact Z)|(apply Zav Zab;exact Z)|(apply Zae;(iterate 3 exact Z);exact Go.Zqm)|(apply Zak;exact Z;exact Go.Zqm;exact Z;exact Z)|(apply Zag;exact Z;exact Go.Zqm;exact Z;exact Z)|(apply Zac;exact Z;exact Go.Zqm)|(apply Zaf;exact Z;exact Go.Zqm)|(apply Zan Zab;(iterate 4 exact Z))|(apply Zc0 Zab;(iterate 4 exact Z);kernel_rfl;kernel_rfl;(iterate 3 exact Z))|(apply Zam 20 ZaJ;decide +kernel;kernel_rfl;kernel_rfl;kernel_rfl;exact Z;exact Z)|(apply Zaq;(iterate 4 exact Z))|exact AE.nil _ _ _ _|(apply Zas;exact Z)|(apply Zaw;exact Z;exact Z;decide +kernel;exact Z)|(apply Zax;exact Z)|exact AO.nil _ _ _|(apply Zap;(decide +kernel))|exact AOs.nil|exact ZaE rfl rfl)
 all_goals(apply Zay [];(apply Zad Zab;exact Z);(iterate 4 exact Z))
 all_goals first|rfl|exact congrArg D.bool y4
theorem Zos [Known](ty num fl:Nat)(sum:Int)(d:List UInt8)(e f g:Int)(pi qi:Bool)(pn ps qn qs n k l m i j:Nat)(ph pd qh qd:List UInt8)(o1 o2 o3:Bool)
  (hA:AP Tryz.prog 24 [] (.bool true) [])
  (t0:decide (((d.map E.byte).length:Int)>400)=false)
  (hS:AP Tryz.prog 25 [.agg [.int .u64 (ty:Int),.int .u64 (num:Int),.int .u64 (fl:Int),.int .i64 sum,byE d]] (.agg [.int .u64 (ty:Int),.int .u64 (num:Int),.int .u64 (fl:Int),.int .i64 sum,byE d]) [])
  (h6:AP Tryz.prog 37 [.agg [.int .u64 (ty:Int),.int .u64 (num:Int),.int .u64 (fl:Int),.int .i64 sum,byE d],.int .u64 6] (.int .i64 e) [])
  (h7:AP Tryz.prog 37 [.agg [.int .u64 (ty:Int),.int .u64 (num:Int),.int .u64 (fl:Int),.int .i64 sum,byE d],.int .u64 7] (.int .i64 f) [])
  (h10:AP Tryz.prog 37 [.agg [.int .u64 (ty:Int),.int .u64 (num:Int),.int .u64 (fl:Int),.int .i64 sum,byE d],.int .u64 10] (.int .i64 g) [])
  (x1:(e != e)=false) (x2:(f != f)=false) (x3:(g != g)=false)
  (hP:AP Tryz.prog 34 [.agg [.int .u64 (ty:Int),.int .u64 (num:Int),.int .u64 (fl:Int),.int .i64 sum,byE d]] (.tup [.agg [.bool false,.int .u64 0,.int .u64 0,.str [],.str []],.int .i64 e]) [])
  (hN:AP Tryz.prog 35 [.agg [.int .u64 (ty:Int),.int .u64 (num:Int),.int .u64 (fl:Int),.int .i64 sum,byE d]] (.tup [.int .u64 0,.int .i64 f]) [])
  (hL:AP Tryz.prog 36 [.agg [.int .u64 (ty:Int),.int .u64 (num:Int),.int .u64 (fl:Int),.int .i64 sum,byE d]] (.tup [.int .u64 (l:Int),.int .u64 (m:Int),.int .i64 g]) [])
  (hQ:AP Tryz.prog 38 [byE d] (.tup [.agg [.bool qi,.int .u64 (qn:Int),.int .u64 (qs:Int),.str qh,.str qd],.bool o1]) [])
  (hK:AP Tryz.prog 39 [byE d] (.tup [.int .u64 (k:Int),.bool o2]) [])
  (hJ:AP Tryz.prog 40 [byE d] (.tup [.int .u64 (l:Int),.int .u64 (m:Int),.bool o3]) [])
  (hE:AP Tryz.prog 41 [.agg [.bool false,.int .u64 0,.int .u64 0,.str [],.str []]] (.agg [.bool false,.int .u64 0,.int .u64 0,.str [],.str []]) [])
  (te:(e != 0)=true)
  (tf:(f != 0)=true)
  (tg:(g != 0)=false)
  (y3:((l:Int)==(l:Int))=true) (y4:((m:Int)==(m:Int))=true) :
  AP Tryz.prog 5 [.agg [.int .u64 (ty:Int),.int .u64 (num:Int),.int .u64 (fl:Int),.int .i64 sum,byE d]] (.bool true) []:=by
 refine AP.ofA ?_
 refine Zao Tryz.func5 rfl Tryz.ntmps5 rfl rfl ?_
 repeat'(first|(apply Zaa (hA);kernel_rfl;(iterate 4 exact Z))|(apply Zaa (hS);kernel_rfl;(iterate 4 exact Z))|(apply Zaa (h6);kernel_rfl;(iterate 4 exact Z))|(apply Zaa (h7);kernel_rfl;(iterate 4 exact Z))|(apply Zaa (h10);kernel_rfl;(iterate 4 exact Z))|(apply Zaa (hP);kernel_rfl;(iterate 4 exact Z))|(apply Zaa (hN);kernel_rfl;(iterate 4 exact Z))|(apply Zaa (hL);kernel_rfl;(iterate 4 exact Z))|(apply Zaa (hQ);kernel_rfl;(iterate 4 exact Z))|(apply Zaa (hK);kernel_rfl;(iterate 4 exact Z))|(apply Zaa (hJ);kernel_rfl;(iterate 4 exact Z))|(apply Zaa (hE);kernel_rfl;(iterate 4 exact Z))|(apply Zaj Zab;exact Z)|(apply Zah Zab;exact Z)|(apply Zav Zab;exact Z)|(apply Zae;(iterate 3 exact Z);exact Go.Zqm)|(apply Zak;exact Z;exact Go.Zqm;exact Z;exact Z)|(apply Zag;exact Z;exact Go.Zqm;exact Z;exact Z)|(apply Zac;exact Z;exact Go.Zqm)|(apply Zaf;exact Z;exact Go.Zqm)|(apply Zan Zab;(iterate 4 exact Z))|(apply Zc0 Zab;(iterate 4 exact Z);kernel_rfl;kernel_rfl;(iterate 3 exact Z))|(apply Zam 20 ZaJ;decide +kernel;kernel_rfl;kernel_rfl;kernel_rfl;exact Z;exact Z)|(apply Zaq;(iterate 4 exact Z))|exact AE.nil _ _ _ _|(apply Zas;exact Z)|(apply Zaw;exact Z;exact Z;decide +kernel;exact Z)|(apply Zax;exact Z)|exact AO.nil _ _ _|(apply Zap;(decide +kernel))|exact AOs.nil|exact ZaE rfl rfl)
 all_goals(apply Zay [];(apply Zad Zab;exact Z);(iterate 4 exact Z))
 all_goals first|rfl|exact congrArg D.bool y4
theorem Zot [Known](ty num fl:Nat)(sum:Int)(d:List UInt8)(e f g:Int)(pi qi:Bool)(pn ps qn qs n k l m i j:Nat)(ph pd qh qd:List UInt8)(o1 o2 o3:Bool)
  (hA:AP Tryz.prog 24 [] (.bool true) [])
  (t0:decide (((d.map E.byte).length:Int)>400)=false)
  (hS:AP Tryz.prog 25 [.agg [.int .u64 (ty:Int),.int .u64 (num:Int),.int .u64 (fl:Int),.int .i64 sum,byE d]] (.agg [.int .u64 (ty:Int),.int .u64 (num:Int),.int .u64 (fl:Int),.int .i64 sum,byE d]) [])
  (h6:AP Tryz.prog 37 [.agg [.int .u64 (ty:Int),.int .u64 (num:Int),.int .u64 (fl:Int),.int .i64 sum,byE d],.int .u64 6] (.int .i64 e) [])
  (h7:AP Tryz.prog 37 [.agg [.int .u64 (ty:Int),.int .u64 (num:Int),.int .u64 (fl:Int),.int .i64 sum,byE d],.int .u64 7] (.int .i64 f) [])
  (h10:AP Tryz.prog 37 [.agg [.int .u64 (ty:Int),.int .u64 (num:Int),.int .u64 (fl:Int),.int .i64 sum,byE d],.int .u64 10] (.int .i64 g) [])
  (x1:(e != e)=false) (x2:(f != f)=false) (x3:(g != g)=false)
  (hP:AP Tryz.prog 34 [.agg [.int .u64 (ty:Int),.int .u64 (num:Int),.int .u64 (fl:Int),.int .i64 sum,byE d]] (.tup [.agg [.bool false,.int .u64 0,.int .u64 0,.str [],.str []],.int .i64 e]) [])
  (hN:AP Tryz.prog 35 [.agg [.int .u64 (ty:Int),.int .u64 (num:Int),.int .u64 (fl:Int),.int .i64 sum,byE d]] (.tup [.int .u64 (n:Int),.int .i64 f]) [])
  (hL:AP Tryz.prog 36 [.agg [.int .u64 (ty:Int),.int .u64 (num:Int),.int .u64 (fl:Int),.int .i64 sum,byE d]] (.tup [.int .u64 0,.int .u64 0,.int .i64 g]) [])
  (hQ:AP Tryz.prog 38 [byE d] (.tup [.agg [.bool qi,.int .u64 (qn:Int),.int .u64 (qs:Int),.str qh,.str qd],.bool o1]) [])
  (hK:AP Tryz.prog 39 [byE d] (.tup [.int .u64 (n:Int),.bool o2]) [])
  (hJ:AP Tryz.prog 40 [byE d] (.tup [.int .u64 (i:Int),.int .u64 (j:Int),.bool o3]) [])
  (hE:AP Tryz.prog 41 [.agg [.bool false,.int .u64 0,.int .u64 0,.str [],.str []]] (.agg [.bool false,.int .u64 0,.int .u64 0,.str [],.str []]) [])
  (te:(e != 0)=true)
  (tf:(f != 0)=false)
  (tg:(g != 0)=true)
  (y2:((n:Int)==(n:Int))=true) :
  AP Tryz.prog 5 [.agg [.int .u64 (ty:Int),.int .u64 (num:Int),.int .u64 (fl:Int),.int .i64 sum,byE d]] (.bool true) []:=by
 refine AP.ofA ?_
 refine Zao Tryz.func5 rfl Tryz.ntmps5 rfl rfl ?_
 repeat'(first|(apply Zaa (hA);kernel_rfl;(iterate 4 exact Z))|(apply Zaa (hS);kernel_rfl;(iterate 4 exact Z))|(apply Zaa (h6);kernel_rfl;(iterate 4 exact Z))|(apply Zaa (h7);kernel_rfl;(iterate 4 exact Z))|(apply Zaa (h10);kernel_rfl;(iterate 4 exact Z))|(apply Zaa (hP);kernel_rfl;(iterate 4 exact Z))|(apply Zaa (hN);kernel_rfl;(iterate 4 exact Z))|(apply Zaa (hL);kernel_rfl;(iterate 4 exact Z))|(apply Zaa (hQ);kernel_rfl;(iterate 4 exact Z))|(apply Zaa (hK);kernel_rfl;(iterate 4 exact Z))|(apply Zaa (hJ);kernel_rfl;(iterate 4 exact Z))|(apply Zaa (hE);kernel_rfl;(iterate 4 exact Z))|(apply Zaj Zab;exact Z)|(apply Zah Zab;exact Z)|(apply Zav Zab;exact Z)|(apply Zae;(iterate 3 exact Z);exact Go.Zqm)|(apply Zak;exact Z;exact Go.Zqm;exact Z;exact Z)|(apply Zag;exact Z;exact Go.Zqm;exact Z;exact Z)|(apply Zac;exact Z;exact Go.Zqm)|(apply Zaf;exact Z;exact Go.Zqm)|(apply Zan Zab;(iterate 4 exact Z))|(apply Zc0 Zab;(iterate 4 exact Z);kernel_rfl;kernel_rfl;(iterate 3 exact Z))|(apply Zam 20 ZaJ;decide +kernel;kernel_rfl;kernel_rfl;kernel_rfl;exact Z;exact Z)|(apply Zaq;(iterate 4 exact Z))|exact AE.nil _ _ _ _|(apply Zas;exact Z)|(apply Zaw;exact Z;exact Z;decide +kernel;exact Z)|(apply Zax;exact Z)|exact AO.nil _ _ _|(apply Zap;(decide +kernel))|exact AOs.nil|exact ZaE rfl rfl)
 all_goals(apply Zay [];(apply Zad Zab;exact Z);(iterate 4 exact Z))
 all_goals first|rfl|exact congrArg D.bool y4
theorem Zou [Known](ty num fl:Nat)(sum:Int)(d:List UInt8)(e f g:Int)(pi qi:Bool)(pn ps qn qs n k l m i j:Nat)(ph pd qh qd:List UInt8)(o1 o2 o3:Bool)
  (hA:AP Tryz.prog 24 [] (.bool true) [])
  (t0:decide (((d.map E.byte).length:Int)>400)=false)
  (hS:AP Tryz.prog 25 [.agg [.int .u64 (ty:Int),.int .u64 (num:Int),.int .u64 (fl:Int),.int .i64 sum,byE d]] (.agg [.int .u64 (ty:Int),.int .u64 (num:Int),.int .u64 (fl:Int),.int .i64 sum,byE d]) [])
  (h6:AP Tryz.prog 37 [.agg [.int .u64 (ty:Int),.int .u64 (num:Int),.int .u64 (fl:Int),.int .i64 sum,byE d],.int .u64 6] (.int .i64 e) [])
  (h7:AP Tryz.prog 37 [.agg [.int .u64 (ty:Int),.int .u64 (num:Int),.int .u64 (fl:Int),.int .i64 sum,byE d],.int .u64 7] (.int .i64 f) [])
  (h10:AP Tryz.prog 37 [.agg [.int .u64 (ty:Int),.int .u64 (num:Int),.int .u64 (fl:Int),.int .i64 sum,byE d],.int .u64 10] (.int .i64 g) [])
  (x1:(e != e)=false) (x2:(f != f)=false) (x3:(g != g)=false)
  (hP:AP Tryz.prog 34 [.agg [.int .u64 (ty:Int),.int .u64 (num:Int),.int .u64 (fl:Int),.int .i64 sum,byE d]] (.tup [.agg [.bool false,.int .u64 0,.int .u64 0,.str [],.str []],.int .i64 e]) [])
  (hN:AP Tryz.prog 35 [.agg [.int .u64 (ty:Int),.int .u64 (num:Int),.int .u64 (fl:Int),.int .i64 sum,byE d]] (.tup [.int .u64 (n:Int),.int .i64 f]) [])
  (hL:AP Tryz.prog 36 [.agg [.int .u64 (ty:Int),.int .u64 (num:Int),.int .u64 (fl:Int),.int .i64 sum,byE d]] (.tup [.int .u64 (l:Int),.int .u64 (m:Int),.int .i64 g]) [])
  (hQ:AP Tryz.prog 38 [byE d] (.tup [.agg [.bool qi,.int .u64 (qn:Int),.int .u64 (qs:Int),.str qh,.str qd],.bool o1]) [])
  (hK:AP Tryz.prog 39 [byE d] (.tup [.int .u64 (n:Int),.bool o2]) [])
  (hJ:AP Tryz.prog 40 [byE d] (.tup [.int .u64 (l:Int),.int .u64 (m:Int),.bool o3]) [])
  (hE:AP Tryz.prog 41 [.agg [.bool false,.int .u64 0,.int .u64 0,.str [],.str []]] (.agg [.bool false,.int .u64 0,.int .u64 0,.str [],.str []]) [])
  (te:(e != 0)=true)
  (tf:(f != 0)=false)
  (tg:(g != 0)=false)
  (y2:((n:Int)==(n:Int))=true)
  (y3:((l:Int)==(l:Int))=true) (y4:((m:Int)==(m:Int))=true) :
  AP Tryz.prog 5 [.agg [.int .u64 (ty:Int),.int .u64 (num:Int),.int .u64 (fl:Int),.int .i64 sum,byE d]] (.bool true) []:=by
 refine AP.ofA ?_
 refine Zao Tryz.func5 rfl Tryz.ntmps5 rfl rfl ?_
 repeat'(first|(apply Zaa (hA);kernel_rfl;(iterate 4 exact Z))|(apply Zaa (hS);kernel_rfl;(iterate 4 exact Z))|(apply Zaa (h6);kernel_rfl;(iterate 4 exact Z))|(apply Zaa (h7);kernel_rfl;(iterate 4 exact Z))|(apply Zaa (h10);kernel_rfl;(iterate 4 exact Z))|(apply Zaa (hP);kernel_rfl;(iterate 4 exact Z))|(apply Zaa (hN);kernel_rfl;(iterate 4 exact Z))|(apply Zaa (hL);kernel_rfl;(iterate 4 exact Z))|(apply Zaa (hQ);kernel_rfl;(iterate 4 exact Z))|(apply Zaa (hK);kernel_rfl;(iterate 4 exact Z))|(apply Zaa (hJ);kernel_rfl;(iterate 4 exact Z))|(apply Zaa (hE);kernel_rfl;(iterate 4 exact Z))|(apply Zaj Zab;exact Z)|(apply Zah Zab;exact Z)|(apply Zav Zab;exact Z)|(apply Zae;(iterate 3 exact Z);exact Go.Zqm)|(apply Zak;exact Z;exact Go.Zqm;exact Z;exact Z)|(apply Zag;exact Z;exact Go.Zqm;exact Z;exact Z)|(apply Zac;exact Z;exact Go.Zqm)|(apply Zaf;exact Z;exact Go.Zqm)|(apply Zan Zab;(iterate 4 exact Z))|(apply Zc0 Zab;(iterate 4 exact Z);kernel_rfl;kernel_rfl;(iterate 3 exact Z))|(apply Zam 20 ZaJ;decide +kernel;kernel_rfl;kernel_rfl;kernel_rfl;exact Z;exact Z)|(apply Zaq;(iterate 4 exact Z))|exact AE.nil _ _ _ _|(apply Zas;exact Z)|(apply Zaw;exact Z;exact Z;decide +kernel;exact Z)|(apply Zax;exact Z)|exact AO.nil _ _ _|(apply Zap;(decide +kernel))|exact AOs.nil|exact ZaE rfl rfl)
 all_goals(apply Zay [];(apply Zad Zab;exact Z);(iterate 4 exact Z))
 all_goals first|rfl|exact congrArg D.bool y4
theorem Zov [Known](ty num fl:Nat)(sum:Int)(d:List UInt8)(e f g:Int)(pi qi:Bool)(pn ps qn qs n k l m i j:Nat)(ph pd qh qd:List UInt8)(o1 o2 o3:Bool)
  (hA:AP Tryz.prog 24 [] (.bool true) [])
  (t0:decide (((d.map E.byte).length:Int)>400)=false)
  (hS:AP Tryz.prog 25 [.agg [.int .u64 (ty:Int),.int .u64 (num:Int),.int .u64 (fl:Int),.int .i64 sum,byE d]] (.agg [.int .u64 (ty:Int),.int .u64 (num:Int),.int .u64 (fl:Int),.int .i64 sum,byE d]) [])
  (h6:AP Tryz.prog 37 [.agg [.int .u64 (ty:Int),.int .u64 (num:Int),.int .u64 (fl:Int),.int .i64 sum,byE d],.int .u64 6] (.int .i64 e) [])
  (h7:AP Tryz.prog 37 [.agg [.int .u64 (ty:Int),.int .u64 (num:Int),.int .u64 (fl:Int),.int .i64 sum,byE d],.int .u64 7] (.int .i64 f) [])
  (h10:AP Tryz.prog 37 [.agg [.int .u64 (ty:Int),.int .u64 (num:Int),.int .u64 (fl:Int),.int .i64 sum,byE d],.int .u64 10] (.int .i64 g) [])
  (x1:(e != e)=false) (x2:(f != f)=false) (x3:(g != g)=false)
  (hP:AP Tryz.prog 34 [.agg [.int .u64 (ty:Int),.int .u64 (num:Int),.int .u64 (fl:Int),.int .i64 sum,byE d]] (.tup [.agg [.bool pi,.int .u64 (pn:Int),.int .u64 (ps:Int),.str ph,.str pd],.int .i64 e]) [])
  (hN:AP Tryz.prog 35 [.agg [.int .u64 (ty:Int),.int .u64 (num:Int),.int .u64 (fl:Int),.int .i64 sum,byE d]] (.tup [.int .u64 0,.int .i64 f]) [])
  (hL:AP Tryz.prog 36 [.agg [.int .u64 (ty:Int),.int .u64 (num:Int),.int .u64 (fl:Int),.int .i64 sum,byE d]] (.tup [.int .u64 0,.int .u64 0,.int .i64 g]) [])
  (hQ:AP Tryz.prog 38 [byE d] (.tup [.agg [.bool pi,.int .u64 (pn:Int),.int .u64 (ps:Int),.str ph,.str pd],.bool o1]) [])
  (hK:AP Tryz.prog 39 [byE d] (.tup [.int .u64 (k:Int),.bool o2]) [])
  (hJ:AP Tryz.prog 40 [byE d] (.tup [.int .u64 (i:Int),.int .u64 (j:Int),.bool o3]) [])
  (hE:AP Tryz.prog 41 [.agg [.bool pi,.int .u64 (pn:Int),.int .u64 (ps:Int),.str ph,.str pd]] (.agg [.bool pi,.int .u64 (pn:Int),.int .u64 (ps:Int),.str ph,.str pd]) [])
  (te:(e != 0)=false)
  (tf:(f != 0)=true)
  (tg:(g != 0)=true)
  (y1:(pi==pi&&((pn:Int)==(pn:Int)&&((ps:Int)==(ps:Int)&&(ph==ph&&(pd==pd&&true)))))=true) :
  AP Tryz.prog 5 [.agg [.int .u64 (ty:Int),.int .u64 (num:Int),.int .u64 (fl:Int),.int .i64 sum,byE d]] (.bool true) []:=by
 refine AP.ofA ?_
 refine Zao Tryz.func5 rfl Tryz.ntmps5 rfl rfl ?_
 repeat'(first|(apply Zaa (hA);kernel_rfl;(iterate 4 exact Z))|(apply Zaa (hS);kernel_rfl;(iterate 4 exact Z))|(apply Zaa (h6);kernel_rfl;(iterate 4 exact Z))|(apply Zaa (h7);kernel_rfl;(iterate 4 exact Z))|(apply Zaa (h10);kernel_rfl;(iterate 4 exact Z))|(apply Zaa (hP);kernel_rfl;(iterate 4 exact Z))|(apply Zaa (hN);kernel_rfl;(iterate 4 exact Z))|(apply Zaa (hL);kernel_rfl;(iterate 4 exact Z))|(apply Zaa (hQ);kernel_rfl;(iterate 4 exact Z))|(apply Zaa (hK);kernel_rfl;(iterate 4 exact Z))|(apply Zaa (hJ);kernel_rfl;(iterate 4 exact Z))|(apply Zaa (hE);kernel_rfl;(iterate 4 exact Z))|(apply Zaj Zab;exact Z)|(apply Zah Zab;exact Z)|(apply Zav Zab;exact Z)|(apply Zae;(iterate 3 exact Z);exact Go.Zqm)|(apply Zak;exact Z;exact Go.Zqm;exact Z;exact Z)|(apply Zag;exact Z;exact Go.Zqm;exact Z;exact Z)|(apply Zac;exact Z;exact Go.Zqm)|(apply Zaf;exact Z;exact Go.Zqm)|(apply Zan Zab;(iterate 4 exact Z))|(apply Zc0 Zab;(iterate 4 exact Z);kernel_rfl;kernel_rfl;(iterate 3 exact Z))|(apply Zam 20 ZaJ;decide +kernel;kernel_rfl;kernel_rfl;kernel_rfl;exact Z;exact Z)|(apply Zaq;(iterate 4 exact Z))|exact AE.nil _ _ _ _|(apply Zas;exact Z)|(apply Zaw;exact Z;exact Z;decide +kernel;exact Z)|(apply Zax;exact Z)|exact AO.nil _ _ _|(apply Zap;(decide +kernel))|exact AOs.nil|exact ZaE rfl rfl)
 all_goals(apply Zay [];(apply Zad Zab;exact Z);(iterate 4 exact Z))
 all_goals first|rfl|exact congrArg D.bool y4
theorem Zow [Known](ty num fl:Nat)(sum:Int)(d:List UInt8)(e f g:Int)(pi qi:Bool)(pn ps qn qs n k l m i j:Nat)(ph pd qh qd:List UInt8)(o1 o2 o3:Bool)
  (hA:AP Tryz.prog 24 [] (.bool true) [])
  (t0:decide (((d.map E.byte).length:Int)>400)=false)
  (hS:AP Tryz.prog 25 [.agg [.int .u64 (ty:Int),.int .u64 (num:Int),.int .u64 (fl:Int),.int .i64 sum,byE d]] (.agg [.int .u64 (ty:Int),.int .u64 (num:Int),.int .u64 (fl:Int),.int .i64 sum,byE d]) [])
  (h6:AP Tryz.prog 37 [.agg [.int .u64 (ty:Int),.int .u64 (num:Int),.int .u64 (fl:Int),.int .i64 sum,byE d],.int .u64 6] (.int .i64 e) [])
  (h7:AP Tryz.prog 37 [.agg [.int .u64 (ty:Int),.int .u64 (num:Int),.int .u64 (fl:Int),.int .i64 sum,byE d],.int .u64 7] (.int .i64 f) [])
  (h10:AP Tryz.prog 37 [.agg [.int .u64 (ty:Int),.int .u64 (num:Int),.int .u64 (fl:Int),.int .i64 sum,byE d],.int .u64 10] (.int .i64 g) [])
  (x1:(e != e)=false) (x2:(f != f)=false) (x3:(g != g)=false)
  (hP:AP Tryz.prog 34 [.agg [.int .u64 (ty:Int),.int .u64 (num:Int),.int .u64 (fl:Int),.int .i64 sum,byE d]] (.tup [.agg [.bool pi,.int .u64 (pn:Int),.int .u64 (ps:Int),.str ph,.str pd],.int .i64 e]) [])
  (hN:AP Tryz.prog 35 [.agg [.int .u64 (ty:Int),.int .u64 (num:Int),.int .u64 (fl:Int),.int .i64 sum,byE d]] (.tup [.int .u64 0,.int .i64 f]) [])
  (hL:AP Tryz.prog 36 [.agg [.int .u64 (ty:Int),.int .u64 (num:Int),.int .u64 (fl:Int),.int .i64 sum,byE d]] (.tup [.int .u64 (l:Int),.int .u64 (m:Int),.int .i64 g]) [])
  (hQ:AP Tryz.prog 38 [byE d] (.tup [.agg [.bool pi,.int .u64 (pn:Int),.int .u64 (ps:Int),.str ph,.str pd],.bool o1]) [])
  (hK:AP Tryz.prog 39 [byE d] (.tup [.int .u64 (k:Int),.bool o2]) [])
  (hJ:AP Tryz.prog 40 [byE d] (.tup [.int .u64 (l:Int),.int .u64 (m:Int),.bool o3]) [])
  (hE:AP Tryz.prog 41 [.agg [.bool pi,.int .u64 (pn:Int),.int .u64 (ps:Int),.str ph,.str pd]] (.agg [.bool pi,.int .u64 (pn:Int),.int .u64 (ps:Int),.str ph,.str pd]) [])
  (te:(e != 0)=false)
  (tf:(f != 0)=true)
  (tg:(g != 0)=false)
  (y1:(pi==pi&&((pn:Int)==(pn:Int)&&((ps:Int)==(ps:Int)&&(ph==ph&&(pd==pd&&true)))))=true)
  (y3:((l:Int)==(l:Int))=true) (y4:((m:Int)==(m:Int))=true) :
  AP Tryz.prog 5 [.agg [.int .u64 (ty:Int),.int .u64 (num:Int),.int .u64 (fl:Int),.int .i64 sum,byE d]] (.bool true) []:=by
 refine AP.ofA ?_
 refine Zao Tryz.func5 rfl Tryz.ntmps5 rfl rfl ?_
 repeat'(first|(apply Zaa (hA);kernel_rfl;(iterate 4 exact Z))|(apply Zaa (hS);kernel_rfl;(iterate 4 exact Z))|(apply Zaa (h6);kernel_rfl;(iterate 4 exact Z))|(apply Zaa (h7);kernel_rfl;(iterate 4 exact Z))|(apply Zaa (h10);kernel_rfl;(iterate 4 exact Z))|(apply Zaa (hP);kernel_rfl;(iterate 4 exact Z))|(apply Zaa (hN);kernel_rfl;(iterate 4 exact Z))|(apply Zaa (hL);kernel_rfl;(iterate 4 exact Z))|(apply Zaa (hQ);kernel_rfl;(iterate 4 exact Z))|(apply Zaa (hK);kernel_rfl;(iterate 4 exact Z))|(apply Zaa (hJ);kernel_rfl;(iterate 4 exact Z))|(apply Zaa (hE);kernel_rfl;(iterate 4 exact Z))|(apply Zaj Zab;exact Z)|(apply Zah Zab;exact Z)|(apply Zav Zab;exact Z)|(apply Zae;(iterate 3 exact Z);exact Go.Zqm)|(apply Zak;exact Z;exact Go.Zqm;exact Z;exact Z)|(apply Zag;exact Z;exact Go.Zqm;exact Z;exact Z)|(apply Zac;exact Z;exact Go.Zqm)|(apply Zaf;exact Z;exact Go.Zqm)|(apply Zan Zab;(iterate 4 exact Z))|(apply Zc0 Zab;(iterate 4 exact Z);kernel_rfl;kernel_rfl;(iterate 3 exact Z))|(apply Zam 20 ZaJ;decide +kernel;kernel_rfl;kernel_rfl;kernel_rfl;exact Z;exact Z)|(apply Zaq;(iterate 4 exact Z))|exact AE.nil _ _ _ _|(apply Zas;exact Z)|(apply Zaw;exact Z;exact Z;decide +kernel;exact Z)|(apply Zax;exact Z)|exact AO.nil _ _ _|(apply Zap;(decide +kernel))|exact AOs.nil|exact ZaE rfl rfl)
 all_goals(apply Zay [];(apply Zad Zab;exact Z);(iterate 4 exact Z))
 all_goals first|rfl|exact congrArg D.bool y4
theorem Zox [Known](ty num fl:Nat)(sum:Int)(d:List UInt8)(e f g:Int)(pi qi:Bool)(pn ps qn qs n k l m i j:Nat)(ph pd qh qd:List UInt8)(o1 o2 o3:Bool)
  (hA:AP Tryz.prog 24 [] (.bool true) [])
  (t0:decide (((d.map E.byte).length:Int)>400)=false)
  (hS:AP Tryz.prog 25 [.agg [.int .u64 (ty:Int),.int .u64 (num:Int),.int .u64 (fl:Int),.int .i64 sum,byE d]] (.agg [.int .u64 (ty:Int),.int .u64 (num:Int),.int .u64 (fl:Int),.int .i64 sum,byE d]) [])
  (h6:AP Tryz.prog 37 [.agg [.int .u64 (ty:Int),.int .u64 (num:Int),.int .u64 (fl:Int),.int .i64 sum,byE d],.int .u64 6] (.int .i64 e) [])
  (h7:AP Tryz.prog 37 [.agg [.int .u64 (ty:Int),.int .u64 (num:Int),.int .u64 (fl:Int),.int .i64 sum,byE d],.int .u64 7] (.int .i64 f) [])
  (h10:AP Tryz.prog 37 [.agg [.int .u64 (ty:Int),.int .u64 (num:Int),.int .u64 (fl:Int),.int .i64 sum,byE d],.int .u64 10] (.int .i64 g) [])
  (x1:(e != e)=false) (x2:(f != f)=false) (x3:(g != g)=false)
  (hP:AP Tryz.prog 34 [.agg [.int .u64 (ty:Int),.int .u64 (num:Int),.int .u64 (fl:Int),.int .i64 sum,byE d]] (.tup [.agg [.bool pi,.int .u64 (pn:Int),.int .u64 (ps:Int),.str ph,.str pd],.int .i64 e]) [])
  (hN:AP Tryz.prog 35 [.agg [.int .u64 (ty:Int),.int .u64 (num:Int),.int .u64 (fl:Int),.int .i64 sum,byE d]] (.tup [.int .u64 (n:Int),.int .i64 f]) [])
  (hL:AP Tryz.prog 36 [.agg [.int .u64 (ty:Int),.int .u64 (num:Int),.int .u64 (fl:Int),.int .i64 sum,byE d]] (.tup [.int .u64 0,.int .u64 0,.int .i64 g]) [])
  (hQ:AP Tryz.prog 38 [byE d] (.tup [.agg [.bool pi,.int .u64 (pn:Int),.int .u64 (ps:Int),.str ph,.str pd],.bool o1]) [])
  (hK:AP Tryz.prog 39 [byE d] (.tup [.int .u64 (n:Int),.bool o2]) [])
  (hJ:AP Tryz.prog 40 [byE d] (.tup [.int .u64 (i:Int),.int .u64 (j:Int),.bool o3]) [])
  (hE:AP Tryz.prog 41 [.agg [.bool pi,.int .u64 (pn:Int),.int .u64 (ps:Int),.str ph,.str pd]] (.agg [.bool pi,.int .u64 (pn:Int),.int .u64 (ps:Int),.str ph,.str pd]) [])
  (te:(e != 0)=false)
  (tf:(f != 0)=false)
  (tg:(g != 0)=true)
  (y1:(pi==pi&&((pn:Int)==(pn:Int)&&((ps:Int)==(ps:Int)&&(ph==ph&&(pd==pd&&true)))))=true)
  (y2:((n:Int)==(n:Int))=true) :
  AP Tryz.prog 5 [.agg [.int .u64 (ty:Int),.int .u64 (num:Int),.int .u64 (fl:Int),.int .i64 sum,byE d]] (.bool true) []:=by
 refine AP.ofA ?_
 refine Zao Tryz.func5 rfl Tryz.ntmps5 rfl rfl ?_
 repeat'(first|(apply Zaa (hA);kernel_rfl;(iterate 4 exact Z))|(apply Zaa (hS);kernel_rfl;(iterate 4 exact Z))|(apply Zaa (h6);kernel_rfl;(iterate 4 exact Z))|(apply Zaa (h7);kernel_rfl;(iterate 4 exact Z))|(apply Zaa (h10);kernel_rfl;(iterate 4 exact Z))|(apply Zaa (hP);kernel_rfl;(iterate 4 exact Z))|(apply Zaa (hN);kernel_rfl;(iterate 4 exact Z))|(apply Zaa (hL);kernel_rfl;(iterate 4 exact Z))|(apply Zaa (hQ);kernel_rfl;(iterate 4 exact Z))|(apply Zaa (hK);kernel_rfl;(iterate 4 exact Z))|(apply Zaa (hJ);kernel_rfl;(iterate 4 exact Z))|(apply Zaa (hE);kernel_rfl;(iterate 4 exact Z))|(apply Zaj Zab;exact Z)|(apply Zah Zab;exact Z)|(apply Zav Zab;exact Z)|(apply Zae;(iterate 3 exact Z);exact Go.Zqm)|(apply Zak;exact Z;exact Go.Zqm;exact Z;exact Z)|(apply Zag;exact Z;exact Go.Zqm;exact Z;exact Z)|(apply Zac;exact Z;exact Go.Zqm)|(apply Zaf;exact Z;exact Go.Zqm)|(apply Zan Zab;(iterate 4 exact Z))|(apply Zc0 Zab;(iterate 4 exact Z);kernel_rfl;kernel_rfl;(iterate 3 exact Z))|(apply Zam 20 ZaJ;decide +kernel;kernel_rfl;kernel_rfl;kernel_rfl;exact Z;exact Z)|(apply Zaq;(iterate 4 exact Z))|exact AE.nil _ _ _ _|(apply Zas;exact Z)|(apply Zaw;exact Z;exact Z;decide +kernel;exact Z)|(apply Zax;exact Z)|exact AO.nil _ _ _|(apply Zap;(decide +kernel))|exact AOs.nil|exact ZaE rfl rfl)
 all_goals(apply Zay [];(apply Zad Zab;exact Z);(iterate 4 exact Z))
 all_goals first|rfl|exact congrArg D.bool y4
theorem Zoy [Known](ty num fl:Nat)(sum:Int)(d:List UInt8)(e f g:Int)(pi qi:Bool)(pn ps qn qs n k l m i j:Nat)(ph pd qh qd:List UInt8)(o1 o2 o3:Bool)
  (hA:AP Tryz.prog 24 [] (.bool true) [])
  (t0:decide (((d.map E.byte).length:Int)>400)=false)
  (hS:AP Tryz.prog 25 [.agg [.int .u64 (ty:Int),.int .u64 (num:Int),.int .u64 (fl:Int),.int .i64 sum,byE d]] (.agg [.int .u64 (ty:Int),.int .u64 (num:Int),.int .u64 (fl:Int),.int .i64 sum,byE d]) [])
  (h6:AP Tryz.prog 37 [.agg [.int .u64 (ty:Int),.int .u64 (num:Int),.int .u64 (fl:Int),.int .i64 sum,byE d],.int .u64 6] (.int .i64 e) [])
  (h7:AP Tryz.prog 37 [.agg [.int .u64 (ty:Int),.int .u64 (num:Int),.int .u64 (fl:Int),.int .i64 sum,byE d],.int .u64 7] (.int .i64 f) [])
  (h10:AP Tryz.prog 37 [.agg [.int .u64 (ty:Int),.int .u64 (num:Int),.int .u64 (fl:Int),.int .i64 sum,byE d],.int .u64 10] (.int .i64 g) [])
  (x1:(e != e)=false) (x2:(f != f)=false) (x3:(g != g)=false)
  (hP:AP Tryz.prog 34 [.agg [.int .u64 (ty:Int),.int .u64 (num:Int),.int .u64 (fl:Int),.int .i64 sum,byE d]] (.tup [.agg [.bool pi,.int .u64 (pn:Int),.int .u64 (ps:Int),.str ph,.str pd],.int .i64 e]) [])
  (hN:AP Tryz.prog 35 [.agg [.int .u64 (ty:Int),.int .u64 (num:Int),.int .u64 (fl:Int),.int .i64 sum,byE d]] (.tup [.int .u64 (n:Int),.int .i64 f]) [])
  (hL:AP Tryz.prog 36 [.agg [.int .u64 (ty:Int),.int .u64 (num:Int),.int .u64 (fl:Int),.int .i64 sum,byE d]] (.tup [.int .u64 (l:Int),.int .u64 (m:Int),.int .i64 g]) [])
  (hQ:AP Tryz.prog 38 [byE d] (.tup [.agg [.bool pi,.int .u64 (pn:Int),.int .u64 (ps:Int),.str ph,.str pd],.bool o1]) [])
  (hK:AP Tryz.prog 39 [byE d] (.tup [.int .u64 (n:Int),.bool o2]) [])
  (hJ:AP Tryz.prog 40 [byE d] (.tup [.int .u64 (l:Int),.int .u64 (m:Int),.bool o3]) [])
  (hE:AP Tryz.prog 41 [.agg [.bool pi,.int .u64 (pn:Int),.int .u64 (ps:Int),.str ph,.str pd]] (.agg [.bool pi,.int .u64 (pn:Int),.int .u64 (ps:Int),.str ph,.str pd]) [])
  (te:(e != 0)=false)
  (tf:(f != 0)=false)
  (tg:(g != 0)=false)
  (y1:(pi==pi&&((pn:Int)==(pn:Int)&&((ps:Int)==(ps:Int)&&(ph==ph&&(pd==pd&&true)))))=true)
  (y2:((n:Int)==(n:Int))=true)
  (y3:((l:Int)==(l:Int))=true) (y4:((m:Int)==(m:Int))=true) :
  AP Tryz.prog 5 [.agg [.int .u64 (ty:Int),.int .u64 (num:Int),.int .u64 (fl:Int),.int .i64 sum,byE d]] (.bool true) []:=by
 refine AP.ofA ?_
 refine Zao Tryz.func5 rfl Tryz.ntmps5 rfl rfl ?_
 repeat'(first|(apply Zaa (hA);kernel_rfl;(iterate 4 exact Z))|(apply Zaa (hS);kernel_rfl;(iterate 4 exact Z))|(apply Zaa (h6);kernel_rfl;(iterate 4 exact Z))|(apply Zaa (h7);kernel_rfl;(iterate 4 exact Z))|(apply Zaa (h10);kernel_rfl;(iterate 4 exact Z))|(apply Zaa (hP);kernel_rfl;(iterate 4 exact Z))|(apply Zaa (hN);kernel_rfl;(iterate 4 exact Z))|(apply Zaa (hL);kernel_rfl;(iterate 4 exact Z))|(apply Zaa (hQ);kernel_rfl;(iterate 4 exact Z))|(apply Zaa (hK);kernel_rfl;(iterate 4 exact Z))|(apply Zaa (hJ);kernel_rfl;(iterate 4 exact Z))|(apply Zaa (hE);kernel_rfl;(iterate 4 exact Z))|(apply Zaj Zab;exact Z)|(apply Zah Zab;exact Z)|(apply Zav Zab;exact Z)|(apply Zae;(iterate 3 exact Z);exact Go.Zqm)|(apply Zak;exact Z;exact Go.Zqm;exact Z;exact Z)|(apply Zag;exact Z;exact Go.Zqm;exact Z;exact Z)|(apply Zaf;exact Z;exact Go.Zqm)|(apply Zan Zab;(iterate 4 exact Z))|(apply Zc0 Zab;(iterate 4 exact Z);kernel_rfl;kernel_rfl;(iterate 3 exact Z))|(apply Zam 20 ZaJ;decide +kernel;kernel_rfl;kernel_rfl;kernel_rfl;exact Z;exact Z)|(apply Zaq;(iterate 4 exact Z))|exact AE.nil _ _ _ _|(apply Zas;exact Z)|(apply Zaw;exact Z;exact Z;decide +kernel;exact Z)|(apply Zax;exact Z)|exact AO.nil _ _ _|(apply Zap;(decide +kernel))|exact AOs.nil|exact ZaE rfl rfl)
 all_goals(apply Zay [];(apply Zad Zab;exact Z);(iterate 4 exact Z))
 all_goals first|rfl|exact congrArg D.bool y4
end Go.Proofs.YtakblclkflnnpaaGreatDoor
end
