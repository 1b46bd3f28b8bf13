/- The document's blocks: the item that data are; an age, hops, a name. -/
import Derived.Test.YtakblclkflnnpaaGreatDoorK23
import Derived.Test.YtakblclkflnnpaaGreatDoorK25
import Derived.Test.YtakblclkflnnpaaGreatDoorK31
import Derived.Test.YtakblclkflnnpaaGreatDoorK33
import Derived.Test.YtakblclkflnnpaaGreatDoorK26
import Derived.Laws.BitsAllLaws
import Derived.Test.YtakblclkflnnpaaGreatDoorK16
import Derived.Test.YtakblclkflnnpaaGreatDoorK28
set_option linter.unusedVariables false
set_option linter.unusedSimpArgs false
section
open Go.RowKit Go.Pl Go.Av
namespace Go.Proofs.YtakblclkflnnpaaGreatDoor
set_option maxHeartbeats 4000000
theorem Znk (d:List UInt8)(hd:d.length<=100000){y:It}{n:Nat}(h:Zbu d 0=(y,n,0)):Zcf d=(((n:Int)==(d.length:Int))&&(Za9 y==d)):=by
 have e:Zbu d 0=match ZaT 6 256 d with
   | .error e=>(.mk 0 0 [] [],0,e)
   | .ok (x,r,_)=>(x,d.length-r.length,0):=by rw[Zbu,if_neg (by omega)];rfl
 unfold Zcf
 rw[e]at h
 cases hx:ZaT 6 256 d with
 | error c=>
  rw[hx]at h
  injection h with _ h
  injection h with _ h
  exact absurd h (Zdg _ _ _ _ hx)
 | ok z=>
  obtain⟨z,r,m1⟩:=z
  obtain⟨_,_,pre,hpre,hpos,_⟩:=ZeD 6 (Nat.le_refl _) _ _ _ _ _ hx (by omega)
  rw[hx]at h
  injection h with h1 h2
  injection h2 with h2 _
  subst h1 h2
  have hpl:=congrArg List.length hpre
  rw[List.length_append]at hpl
  have e1:r.isEmpty=(((d.length-r.length:Nat):Int)==(d.length:Int)):=by
   cases r with
   | nil=>simp
   | cons c r=>
    have:¬ ((d.length-(c::r).length:Nat):Int)=(d.length:Int):=by simp only[List.length_cons]at hpl ⊢;omega
    simpa using this
  dsimp only
  rw[e1]
def ZhX (d:List UInt8):It:=match Zcf d with
 | true=>(Zbu d 0).1
 | false=>.mk 0 0 [] []
theorem Zg2 [Known][KnownU8](d:List UInt8)(hd:d.length<=100000):AP Tryz.prog 106 [byE d] (.tup [itD (ZhX d),.bool (Zcf d)]) []:=by
 have hR:=ZmW d 0 (by omega)
 unfold ZhX
 rcases ZdD d (by omega) with⟨e,he,h,hs⟩ | ⟨y,m,h,hw,hr,hl,hm⟩
 ·rw[h]at hR
  rw[hs]
  replace hR:AP Tryz.prog _ _ (.tup [.agg [.int .i64 0,.int .u64 0,.sl .ext [],.sl .ext []],.int .i64 0,.int .i64 (e:Int)]) []:=hR
  have t1:((e:Int) != 0)=true:=by simpa using he
  refine AP.ofA ?_
  refine Zan Tryz.func106 rfl Tryz.ntmps106 rfl rfl ?_
  repeat'(first|(apply Zaa (hR);kernel_rfl;(iterate 4 exact Z))|(apply Zaj Zab;exact Z)|(apply Zah Zab;exact Z)|(apply Zav Zab;exact Z)|(apply Zal;(iterate 3 exact Z);exact Go.ZrJ)|(apply Zak;exact Z;exact Go.ZrJ;exact Z;exact Z)|(apply Zac;exact Z;exact Go.ZrJ)|(apply Zao 14 ZaL;decide +kernel;kernel_rfl;kernel_rfl;kernel_rfl;exact Z;exact Z)|(apply Zaq;(iterate 4 exact Z))|exact AE.nil _ _ _ _|(apply Zat;exact Z)|(apply Zay;exact Z;exact Z;decide +kernel;exact Z)|(apply Zaz;exact Z)|exact AO.nil _ _ _|(apply Zap;(decide +kernel))|exact AOs.nil|exact ZaH rfl rfl)
  all_goals(apply Zaw [];(apply Zad Zab;exact Z);(iterate 4 exact Z))
  all_goals rfl
 ·have hf:ZbQ y=true:=by
   have:=hr
   rw[Zb2]at this
   simp only[Bool.and_eq_true]at this
   exact this.2.2
  have hW:=ZhN y hw hf (by omega)
  have hsh:=Znk d hd h
  have hdl:(d.map E.byte).length=d.length:=List.length_map ..
  rw[h]at hR
  rw[hsh,h]
  dsimp only
  generalize Za9 y=P at *
  obtain⟨k,n,b,l⟩:=y
  replace hR:AP Tryz.prog _ _ (.tup [.agg (itC k n b l),.int .i64 (m:Int),.int .i64 0]) []:=hR
  cases t1:((m:Int)==(d.length:Int)) with
  | false=>
   have t1':((m:Int) != ((d.map E.byte).length:Int))=true:=by rw[hdl,bne,t1];rfl
   refine AP.ofA ?_
   refine Zan Tryz.func106 rfl Tryz.ntmps106 rfl rfl ?_
   repeat'(first|(apply Zaa (hR);kernel_rfl;(iterate 4 exact Z))|(apply Zaj Zab;exact Z)|(apply Zah Zab;exact Z)|(apply Zav Zab;exact Z)|(apply Zae;(iterate 3 exact Z);exact Go.ZrJ)|(apply Zal;(iterate 3 exact Z);exact Go.ZrJ)|(apply Zak;exact Z;exact Go.ZrJ;exact Z;exact Z)|(apply Zag;exact Z;exact Go.ZrJ;exact Z;exact Z)|(apply Zac;exact Z;exact Go.ZrJ)|(apply Zam Zab;(iterate 4 exact Z))|(apply Zao 14 ZaL;decide +kernel;kernel_rfl;kernel_rfl;kernel_rfl;exact Z;exact Z)|(apply Zaq;(iterate 4 exact Z))|exact AE.nil _ _ _ _|(apply Zat;exact Z)|(apply Zay;exact Z;exact Z;decide +kernel;exact Z)|(apply Zaz;exact Z)|exact AO.nil _ _ _|(apply Zap;(decide +kernel))|exact AOs.nil|exact ZaH rfl rfl)
   all_goals(apply Zaw [];(apply Zad Zab;exact Z);(iterate 4 exact Z))
   all_goals rfl
  | true=>
   have t1':((m:Int) != ((d.map E.byte).length:Int))=false:=by rw[hdl,bne,t1];rfl
   cases t2:(P==d) with
   | false=>
    have t2':(P != d)=true:=by rw[bne,t2];rfl
    refine AP.ofA ?_
    refine Zan Tryz.func106 rfl Tryz.ntmps106 rfl rfl ?_
    repeat'(first|(apply Zaa (hR);kernel_rfl;(iterate 4 exact Z))|(apply Zaa (hW);kernel_rfl;(iterate 4 exact Z))|(apply Zaj Zab;exact Z)|(apply Zah Zab;exact Z)|(apply Zav Zab;exact Z)|(apply Zae;(iterate 3 exact Z);exact Go.ZrJ)|(apply Zag;exact Z;exact Go.ZrJ;exact Z;exact Z)|(apply Zac;exact Z;exact Go.ZrJ)|(apply Zam Zab;(iterate 4 exact Z))|(apply Zao 14 ZaL;decide +kernel;kernel_rfl;kernel_rfl;kernel_rfl;exact Z;exact Z)|(apply Zaq;(iterate 4 exact Z))|exact AE.nil _ _ _ _|(apply Zat;exact Z)|(apply Zay;exact Z;exact Z;decide +kernel;exact Z)|(apply Zaz;exact Z)|exact AO.nil _ _ _|(apply Zap;(decide +kernel))|exact AOs.nil|exact ZaH rfl rfl|(apply Zcs Zab;(iterate 9 exact Z)))
    all_goals(apply Zaw [];(apply Zad Zab;exact Z);(iterate 4 exact Z))
    all_goals rfl
   | true=>
    have t2':(P != d)=false:=by rw[bne,t2];rfl
    refine AP.ofA ?_
    refine Zan Tryz.func106 rfl Tryz.ntmps106 rfl rfl ?_
    repeat'(first|(apply Zaa (hR);kernel_rfl;(iterate 4 exact Z))|(apply Zaa (hW);kernel_rfl;(iterate 4 exact Z))|(apply Zaj Zab;exact Z)|(apply Zah Zab;exact Z)|(apply Zav Zab;exact Z)|(apply Zae;(iterate 3 exact Z);exact Go.ZrJ)|(apply Zag;exact Z;exact Go.ZrJ;exact Z;exact Z)|(apply Zaf;exact Z;exact Go.ZrJ)|(apply Zam Zab;(iterate 4 exact Z))|(apply Zao 14 ZaL;decide +kernel;kernel_rfl;kernel_rfl;kernel_rfl;exact Z;exact Z)|(apply Zaq;(iterate 4 exact Z))|exact AE.nil _ _ _ _|(apply Zat;exact Z)|(apply Zay;exact Z;exact Z;decide +kernel;exact Z)|(apply Zaz;exact Z)|exact AO.nil _ _ _|(apply Zap;(decide +kernel))|exact AOs.nil|exact ZaH rfl rfl|(apply Zcs Zab;(iterate 9 exact Z)))
    all_goals(apply Zaw [];(apply Zad Zab;exact Z);(iterate 4 exact Z))
    all_goals rfl
theorem Zrl [Known](bty bnum bfl cty cnum cfl:Nat)(bsum csum:Int)(bd cd:List UInt8)(k:Int)(n:Nat)(bb:List UInt8)(l:List It) 
  (hA:AP Tryz.prog 24 [] (.bool true) [])
  (t1:decide (((bd.map E.byte).length:Int)>400)=true) :
  AP Tryz.prog 4 [.agg [.int .u64 (bty:Int),.int .u64 (bnum:Int),.int .u64 (bfl:Int),.int .i64 bsum,byE bd],.agg [.int .u64 (cty:Int),.int .u64 (cnum:Int),.int .u64 (cfl:Int),.int .i64 csum,byE cd],.agg (itC k n bb l)] (.bool true) []:=by
 refine AP.ofA ?_
 refine Zan Tryz.func4 rfl Tryz.ntmps4 rfl rfl ?_
 repeat'(first|(apply Zaa (hA);kernel_rfl;(iterate 4 exact Z))|(apply Zaj Zab;exact Z)|(apply Zah Zab;exact Z)|(apply Zav Zab;exact Z)|(apply Zal;(iterate 3 exact Z);exact Go.ZrJ)|(apply Zak;exact Z;exact Go.ZrJ;exact Z;exact Z)|(apply Zac;exact Z;exact Go.ZrJ)|(apply Zam Zab;(iterate 4 exact Z)))
 all_goals(apply Zaw [];(apply Zad Zab;exact Z);(iterate 4 exact Z))
 all_goals rfl
theorem Zrm [Known](bty bnum bfl cty cnum cfl:Nat)(bsum csum:Int)(bd cd:List UInt8)(k:Int)(n:Nat)(bb:List UInt8)(l:List It) 
  (hA:AP Tryz.prog 24 [] (.bool true) [])
  (t1:decide (((bd.map E.byte).length:Int)>400)=false)
  (t2:decide (((cd.map E.byte).length:Int)>400)=true) :
  AP Tryz.prog 4 [.agg [.int .u64 (bty:Int),.int .u64 (bnum:Int),.int .u64 (bfl:Int),.int .i64 bsum,byE bd],.agg [.int .u64 (cty:Int),.int .u64 (cnum:Int),.int .u64 (cfl:Int),.int .i64 csum,byE cd],.agg (itC k n bb l)] (.bool true) []:=by
 refine AP.ofA ?_
 refine Zan Tryz.func4 rfl Tryz.ntmps4 rfl rfl ?_
 repeat'(first|(apply Zaa (hA);kernel_rfl;(iterate 4 exact Z))|(apply Zaj Zab;exact Z)|(apply Zah Zab;exact Z)|(apply Zav Zab;exact Z)|(apply Zae;(iterate 3 exact Z);exact Go.ZrJ)|(apply Zal;(iterate 3 exact Z);exact Go.ZrJ)|(apply Zak;exact Z;exact Go.ZrJ;exact Z;exact Z)|(apply Zag;exact Z;exact Go.ZrJ;exact Z;exact Z)|(apply Zac;exact Z;exact Go.ZrJ)|(apply Zam Zab;(iterate 4 exact Z)))
 all_goals(apply Zaw [];(apply Zad Zab;exact Z);(iterate 4 exact Z))
 all_goals rfl
theorem Zrn [Known](bty bnum bfl cty cnum cfl:Nat)(bsum csum:Int)(bd cd:List UInt8)(k:Int)(n:Nat)(bb:List UInt8)(l:List It)(g:Int)
  (hA:AP Tryz.prog 24 [] (.bool true) [])
  (t1:decide (((bd.map E.byte).length:Int)>400)=false)
  (t2:decide (((cd.map E.byte).length:Int)>400)=false)
  (hG:AP Tryz.prog 13 [.agg (itC k n bb l),.int .i64 1,.int .i64 300] (.int .i64 g) [])
  (t3:decide (g<0)=true) :
  AP Tryz.prog 4 [.agg [.int .u64 (bty:Int),.int .u64 (bnum:Int),.int .u64 (bfl:Int),.int .i64 bsum,byE bd],.agg [.int .u64 (cty:Int),.int .u64 (cnum:Int),.int .u64 (cfl:Int),.int .i64 csum,byE cd],.agg (itC k n bb l)] (.bool true) []:=by
 refine AP.ofA ?_
 refine Zan Tryz.func4 rfl Tryz.ntmps4 rfl rfl ?_
 repeat'(first|(apply Zaa (hA);kernel_rfl;(iterate 4 exact Z))|(apply Zaa (hG);kernel_rfl;(iterate 4 exact Z))|(apply Zaj Zab;exact Z)|(apply Zah Zab;exact Z)|(apply Zav Zab;exact Z)|(apply Zae;(iterate 3 exact Z);exact Go.ZrJ)|(apply Zag;exact Z;exact Go.ZrJ;exact Z;exact Z)|(apply Zac;exact Z;exact Go.ZrJ)|(apply Zam Zab;(iterate 4 exact Z)))
 all_goals(apply Zaw [];(apply Zad Zab;exact Z);(iterate 4 exact Z))
 all_goals rfl
theorem Zro [Known](bty bnum bfl cty cnum cfl:Nat)(bsum csum:Int)(bd cd:List UInt8)(k:Int)(n:Nat)(bb:List UInt8)(l:List It)(g f:Int)(q:Bool)(pty pnum pfl:Nat)(psum:Int)(pd:List UInt8)
  (hA:AP Tryz.prog 24 [] (.bool true) [])
  (t1:decide (((bd.map E.byte).length:Int)>400)=false)
  (t2:decide (((cd.map E.byte).length:Int)>400)=false)
  (hG:AP Tryz.prog 13 [.agg (itC k n bb l),.int .i64 1,.int .i64 300] (.int .i64 g) [])
  (t3:decide (g<0)=false)
  (hSb:AP Tryz.prog 25 [.agg [.int .u64 (bty:Int),.int .u64 (bnum:Int),.int .u64 (bfl:Int),.int .i64 bsum,byE bd]] (.agg [.int .u64 (bty:Int),.int .u64 (bnum:Int),.int .u64 (bfl:Int),.int .i64 bsum,byE bd]) [])
  (hSc:AP Tryz.prog 25 [.agg [.int .u64 (cty:Int),.int .u64 (cnum:Int),.int .u64 (cfl:Int),.int .i64 csum,byE cd]] (.agg [.int .u64 (cty:Int),.int .u64 (cnum:Int),.int .u64 (cfl:Int),.int .i64 csum,byE cd]) [])
  (hSp:AP Tryz.prog 25 [.agg [.int .u64 (pty:Int),.int .u64 (pnum:Int),.int .u64 (pfl:Int),.int .i64 psum,byE pd]] (.agg [.int .u64 (pty:Int),.int .u64 (pnum:Int),.int .u64 (pfl:Int),.int .i64 psum,byE pd]) [])
  (hRd:AP Tryz.prog 27 [.agg (itC k n bb l)] (.tup [.agg [.int .u64 (pty:Int),.int .u64 (pnum:Int),.int .u64 (pfl:Int),.int .i64 psum,byE pd],.int .i64 f]) [])
  (hAx:AP Tryz.prog 19 [.agg (itC k n bb l),.int .i64 10] (.agg (itC k n bb l)) [])
  (hDd:AP Tryz.prog 28 [.agg (itC k n bb l)] (.tup [.agg [.int .u64 (pty:Int),.int .u64 (pnum:Int),.int .u64 (pfl:Int),.int .i64 psum,byE pd],.int .i64 f]) [])
  (hSame:AP Tryz.prog 31 [.agg [.int .u64 (pty:Int),.int .u64 (pnum:Int),.int .u64 (pfl:Int),.int .i64 psum,byE pd],.agg [.int .u64 (pty:Int),.int .u64 (pnum:Int),.int .u64 (pfl:Int),.int .i64 psum,byE pd]] (.bool true) [])
  (hC1:AP Tryz.prog 32 [.agg [.int .u64 (bty:Int),.int .u64 (bnum:Int),.int .u64 (bfl:Int),.int .i64 bsum,byE bd],.agg [.int .u64 (cty:Int),.int .u64 (cnum:Int),.int .u64 (cfl:Int),.int .i64 csum,byE cd]] (.bool q) [])
  (hC2:AP Tryz.prog 31 [.agg [.int .u64 (bty:Int),.int .u64 (bnum:Int),.int .u64 (bfl:Int),.int .i64 bsum,byE bd],.agg [.int .u64 (cty:Int),.int .u64 (cnum:Int),.int .u64 (cfl:Int),.int .i64 csum,byE cd]] (.bool q) [])
  (y1:(f != f)=false)
  (hW:AP Tryz.prog 26 [.agg [.int .u64 (bty:Int),.int .u64 (bnum:Int),.int .u64 (bfl:Int),.int .i64 bsum,byE bd]] (.tup [.agg [.int .i64 0,.int .u64 0,.sl .ext [],.sl .ext []],.int .i64 3]) [])
  (hR1:AP Tryz.prog 29 [.agg [.int .u64 (bty:Int),.int .u64 (bnum:Int),.int .u64 (bfl:Int),.int .i64 bsum,byE bd]] (.bool false) [])
  (hR2:AP Tryz.prog 30 [.agg [.int .u64 (bty:Int),.int .u64 (bnum:Int),.int .u64 (bfl:Int),.int .i64 bsum,byE bd]] (.bool false) []) :
  AP Tryz.prog 4 [.agg [.int .u64 (bty:Int),.int .u64 (bnum:Int),.int .u64 (bfl:Int),.int .i64 bsum,byE bd],.agg [.int .u64 (cty:Int),.int .u64 (cnum:Int),.int .u64 (cfl:Int),.int .i64 csum,byE cd],.agg (itC k n bb l)] (.bool true) []:=by
 cases q
 all_goals
  refine AP.ofA ?_
  refine Zan Tryz.func4 rfl Tryz.ntmps4 rfl rfl ?_
  repeat'(first|(apply Zaa (hA);kernel_rfl;(iterate 4 exact Z))|(apply Zaa (hG);kernel_rfl;(iterate 4 exact Z))|(apply Zaa (hSb);kernel_rfl;(iterate 4 exact Z))|(apply Zaa (hSc);kernel_rfl;(iterate 4 exact Z))|(apply Zaa (hSp);kernel_rfl;(iterate 4 exact Z))|(apply Zaa (hRd);kernel_rfl;(iterate 4 exact Z))|(apply Zaa (hAx);kernel_rfl;(iterate 4 exact Z))|(apply Zaa (hDd);kernel_rfl;(iterate 4 exact Z))|(apply Zaa (hSame);kernel_rfl;(iterate 4 exact Z))|(apply Zaa (hC1);kernel_rfl;(iterate 4 exact Z))|(apply Zaa (hC2);kernel_rfl;(iterate 4 exact Z))|(apply Zaa (hW);kernel_rfl;(iterate 4 exact Z))|(apply Zaa (hR1);kernel_rfl;(iterate 4 exact Z))|(apply Zaa (hR2);kernel_rfl;(iterate 4 exact Z))|(apply Zaj Zab;exact Z)|(apply Zah Zab;exact Z)|(apply Zav Zab;exact Z)|(apply Zae;(iterate 3 exact Z);exact Go.ZrJ)|(apply Zak;exact Z;exact Go.ZrJ;exact Z;exact Z)|(apply Zag;exact Z;exact Go.ZrJ;exact Z;exact Z)|(apply Zac;exact Z;exact Go.ZrJ)|(apply Zaf;exact Z;exact Go.ZrJ)|(apply Zam Zab;(iterate 4 exact Z))|(apply Zao 24 ZaL;decide +kernel;kernel_rfl;kernel_rfl;kernel_rfl;exact Z;exact Z)|(apply Zaq;(iterate 4 exact Z))|exact AE.nil _ _ _ _|(apply Zat;exact Z)|(apply Zay;exact Z;exact Z;decide +kernel;exact Z)|(apply Zaz;exact Z)|exact AO.nil _ _ _|(apply Zap;(decide +kernel))|exact AOs.nil|exact ZaH rfl rfl)
  all_goals(apply Zaw [];(apply Zad Zab;exact Z);(iterate 4 exact Z))
  all_goals rfl
theorem Zrp [Known](bty bnum bfl cty cnum cfl:Nat)(bsum csum:Int)(bd cd:List UInt8)(k:Int)(n:Nat)(bb:List UInt8)(l:List It)(g f:Int)(q:Bool)(pty pnum pfl:Nat)(psum:Int)(pd:List UInt8)(yk:Int)(yn:Nat)(yb:List UInt8)(yl:List It)
  (hA:AP Tryz.prog 24 [] (.bool true) [])
  (t1:decide (((bd.map E.byte).length:Int)>400)=false)
  (t2:decide (((cd.map E.byte).length:Int)>400)=false)
  (hG:AP Tryz.prog 13 [.agg (itC k n bb l),.int .i64 1,.int .i64 300] (.int .i64 g) [])
  (t3:decide (g<0)=false)
  (hSb:AP Tryz.prog 25 [.agg [.int .u64 (bty:Int),.int .u64 (bnum:Int),.int .u64 (bfl:Int),.int .i64 bsum,byE bd]] (.agg [.int .u64 (bty:Int),.int .u64 (bnum:Int),.int .u64 (bfl:Int),.int .i64 bsum,byE bd]) [])
  (hSc:AP Tryz.prog 25 [.agg [.int .u64 (cty:Int),.int .u64 (cnum:Int),.int .u64 (cfl:Int),.int .i64 csum,byE cd]] (.agg [.int .u64 (cty:Int),.int .u64 (cnum:Int),.int .u64 (cfl:Int),.int .i64 csum,byE cd]) [])
  (hSp:AP Tryz.prog 25 [.agg [.int .u64 (pty:Int),.int .u64 (pnum:Int),.int .u64 (pfl:Int),.int .i64 psum,byE pd]] (.agg [.int .u64 (pty:Int),.int .u64 (pnum:Int),.int .u64 (pfl:Int),.int .i64 psum,byE pd]) [])
  (hRd:AP Tryz.prog 27 [.agg (itC k n bb l)] (.tup [.agg [.int .u64 (pty:Int),.int .u64 (pnum:Int),.int .u64 (pfl:Int),.int .i64 psum,byE pd],.int .i64 f]) [])
  (hAx:AP Tryz.prog 19 [.agg (itC k n bb l),.int .i64 10] (.agg (itC k n bb l)) [])
  (hDd:AP Tryz.prog 28 [.agg (itC k n bb l)] (.tup [.agg [.int .u64 (pty:Int),.int .u64 (pnum:Int),.int .u64 (pfl:Int),.int .i64 psum,byE pd],.int .i64 f]) [])
  (hSame:AP Tryz.prog 31 [.agg [.int .u64 (pty:Int),.int .u64 (pnum:Int),.int .u64 (pfl:Int),.int .i64 psum,byE pd],.agg [.int .u64 (pty:Int),.int .u64 (pnum:Int),.int .u64 (pfl:Int),.int .i64 psum,byE pd]] (.bool true) [])
  (hC1:AP Tryz.prog 32 [.agg [.int .u64 (bty:Int),.int .u64 (bnum:Int),.int .u64 (bfl:Int),.int .i64 bsum,byE bd],.agg [.int .u64 (cty:Int),.int .u64 (cnum:Int),.int .u64 (cfl:Int),.int .i64 csum,byE cd]] (.bool q) [])
  (hC2:AP Tryz.prog 31 [.agg [.int .u64 (bty:Int),.int .u64 (bnum:Int),.int .u64 (bfl:Int),.int .i64 bsum,byE bd],.agg [.int .u64 (cty:Int),.int .u64 (cnum:Int),.int .u64 (cfl:Int),.int .i64 csum,byE cd]] (.bool q) [])
  (y1:(f != f)=false)
  (hW:AP Tryz.prog 26 [.agg [.int .u64 (bty:Int),.int .u64 (bnum:Int),.int .u64 (bfl:Int),.int .i64 bsum,byE bd]] (.tup [.agg (itC yk yn yb yl),.int .i64 0]) [])
  (hR1:AP Tryz.prog 29 [.agg [.int .u64 (bty:Int),.int .u64 (bnum:Int),.int .u64 (bfl:Int),.int .i64 bsum,byE bd]] (.bool true) [])
  (hR2:AP Tryz.prog 30 [.agg [.int .u64 (bty:Int),.int .u64 (bnum:Int),.int .u64 (bfl:Int),.int .i64 bsum,byE bd]] (.bool true) [])
  (hAy:AP Tryz.prog 19 [.agg (itC yk yn yb yl),.int .i64 9] (.agg (itC yk yn yb yl)) [])
  (hWr:AP Tryz.prog 33 [.agg [.int .u64 (bty:Int),.int .u64 (bnum:Int),.int .u64 (bfl:Int),.int .i64 bsum,byE bd]] (.agg (itC yk yn yb yl)) [])
  (hFin:AP Tryz.prog 22 [.agg (itC yk yn yb yl),.agg (itC yk yn yb yl)] (.bool true) []) :
  AP Tryz.prog 4 [.agg [.int .u64 (bty:Int),.int .u64 (bnum:Int),.int .u64 (bfl:Int),.int .i64 bsum,byE bd],.agg [.int .u64 (cty:Int),.int .u64 (cnum:Int),.int .u64 (cfl:Int),.int .i64 csum,byE cd],.agg (itC k n bb l)] (.bool true) []:=by
 cases q
 all_goals
  refine AP.ofA ?_
  refine Zan Tryz.func4 rfl Tryz.ntmps4 rfl rfl ?_
  repeat'(first|(apply Zaa (hA);kernel_rfl;(iterate 4 exact Z))|(apply Zaa (hG);kernel_rfl;(iterate 4 exact Z))|(apply Zaa (hSb);kernel_rfl;(iterate 4 exact Z))|(apply Zaa (hSc);kernel_rfl;(iterate 4 exact Z))|(apply Zaa (hSp);kernel_rfl;(iterate 4 exact Z))|(apply Zaa (hRd);kernel_rfl;(iterate 4 exact Z))|(apply Zaa (hAx);kernel_rfl;(iterate 4 exact Z))|(apply Zaa (hDd);kernel_rfl;(iterate 4 exact Z))|(apply Zaa (hSame);kernel_rfl;(iterate 4 exact Z))|(apply Zaa (hC1);kernel_rfl;(iterate 4 exact Z))|(apply Zaa (hC2);kernel_rfl;(iterate 4 exact Z))|(apply Zaa (hW);kernel_rfl;(iterate 4 exact Z))|(apply Zaa (hR1);kernel_rfl;(iterate 4 exact Z))|(apply Zaa (hR2);kernel_rfl;(iterate 4 exact Z))|(apply Zaa (hAy);kernel_rfl;(iterate 4 exact Z))|(apply Zaa (hWr);kernel_rfl;(iterate 4 exact Z))|(apply Zaa (hFin);kernel_rfl;(iterate 4 exact Z))|(apply Zaj Zab;exact Z)|(apply Zah Zab;exact Z)|(apply Zav Zab;exact Z)|(apply Zae;(iterate 3 exact Z);exact Go.ZrJ)|(apply Zak;exact Z;exact Go.ZrJ;exact Z;exact Z)|(apply Zag;exact Z;exact Go.ZrJ;exact Z;exact Z)|(apply Zaf;exact Z;exact Go.ZrJ)|(apply Zam Zab;(iterate 4 exact Z))|(apply Zao 9 ZaL;decide +kernel;kernel_rfl;kernel_rfl;kernel_rfl;exact Z;exact Z)|(apply Zao 24 ZaL;decide +kernel;kernel_rfl;kernel_rfl;kernel_rfl;exact Z;exact Z)|(apply Zaq;(iterate 4 exact Z))|exact AE.nil _ _ _ _|(apply Zat;exact Z)|(apply Zay;exact Z;exact Z;decide +kernel;exact Z)|(apply Zaz;exact Z)|exact AO.nil _ _ _|(apply Zap;(decide +kernel))|exact AOs.nil|exact ZaH rfl rfl)
  all_goals(apply Zaw [];(apply Zad Zab;exact Z);(iterate 4 exact Z))
  all_goals rfl
def hN (p s:Nat):Nat:=(s >>> 1) ^^^ (if s.testBit 0 then p else 0)
def itN (p:Nat):Nat->Nat->Nat
 | 0,s=>s
 | k+1,s=>itN p k (hN p s)
def byN (p s c:Nat):Nat:=itN p 8 (s ^^^ c)
def ruN (p s:Nat)(b:List Nat):Nat:=b.foldl (byN p) s
theorem Zqz {p s:Nat}(hp:p<4294967296)(hs:s<4294967296):hN p s<4294967296:=by
 unfold hN
 refine Nat.xor_lt_two_pow (n:=32) ?_ ?_
 ·rw[Nat.shiftRight_eq_div_pow];omega
 ·split<;>omega
theorem Zl2 {p s:Nat}(hp:p<4294967296)(hs:s<4294967296):Zc7 (s:Int) (p:Int)=(hN p s:Int):=by
 have h1:bits .and .u32 (s:Int) 1=((s &&& 1:Nat):Int):=u32_and_nat s 1 hs (by decide)
 have h2:Zp4 (s:Int)=((s >>> 1:Nat):Int):=by
  unfold Zp4
  rw[Nat.shiftRight_eq_div_pow,show min (Int.toNat 1) IntKind.u32.bits=1 from rfl,Int.fdiv_eq_ediv_of_nonneg _ (by decide)]
  rfl
 unfold Zc7 hN
 rw[h1,h2,Nat.testBit_zero,Nat.and_one_is_mod]
 by_cases e:s % 2=1
 ·rw[e]
  show bits .xor .u32 _ _=_
  rw[u32_xor_nat _ _ (by rw[Nat.shiftRight_eq_div_pow];omega) hp]
  simp
 ·have e0:s % 2=0:=by omega
  rw[e0]
  show((s >>> 1:Nat):Int)=_
  simp
theorem Znl {p s:Nat}(c:UInt8)(hp:p<4294967296)(hs:s<4294967296):ZlI (s:Int) c (p:Int)=(byN p s c.toNat:Int)/\byN p s c.toNat<4294967296:=by
 have hc:=c.toNat_lt
 have h1:bits .xor .u32 (s:Int) (IntKind.u32.wrap (c.toNat:Int))=((s ^^^ c.toNat:Nat):Int):=by
  rw[IntWalk.u32_in _ (by omega)]
  exact u32_xor_nat s c.toNat hs (by omega)
 have h2:s ^^^ c.toNat<4294967296:=Nat.xor_lt_two_pow (n:=32) hs (by omega)
 unfold ZlI byN
 rw[h1]
 generalize s ^^^ c.toNat=x at *
 have key:∀ y:Nat,y<4294967296->Zc7 (y:Int) (p:Int)=(hN p y:Int)/\hN p y<4294967296:=fun y hy=>⟨Zl2 hp hy,Zqz hp hy⟩
 obtain⟨k1,l1⟩:=key x h2
 obtain⟨k2,l2⟩:=key _ l1
 obtain⟨k3,l3⟩:=key _ l2
 obtain⟨k4,l4⟩:=key _ l3
 obtain⟨k5,l5⟩:=key _ l4
 obtain⟨k6,l6⟩:=key _ l5
 obtain⟨k7,l7⟩:=key _ l6
 obtain⟨k8,l8⟩:=key _ l7
 rw[k1,k2,k3,k4,k5,k6,k7,k8]
 exact⟨rfl,l8⟩
theorem ZiN {p:Nat}(hp:p<4294967296):∀(b:List UInt8) (s:Nat),s<4294967296->Zm1 (s:Int) (p:Int) b=(ruN p s (b.map UInt8.toNat):Int)/\ruN p s (b.map UInt8.toNat)<4294967296
 | [],s,h=>⟨rfl,h⟩
 | c::b,s,h=>by
  obtain⟨h1,h2⟩:=Znl c hp h
  have ih:=ZiN hp b (byN p s c.toNat) h2
  rw[<- h1]at ih
  exact ih
theorem ZjU {p W:Nat}(hp2:p<2 ^ (W+1)):∀(k s:Nat),s<2 ^ (W+1)->itN p k s<2 ^ (W+1)
 | 0,s,h=>h
 | k+1,s,h=>ZjU hp2 k _ (by
  unfold hN
  refine Nat.xor_lt_two_pow ?_ ?_
  ·rw[Nat.shiftRight_eq_div_pow]
   exact Nat.lt_of_le_of_lt (Nat.div_le_self ..) h
  ·split
   ·exact hp2
   ·exact Nat.two_pow_pos _)
theorem Zl3 {p W:Nat}(hp2:p<2 ^ (W+1))(hW:7<=W):∀(b:List UInt8) (s:Nat),s<2 ^ (W+1)->ruN p s (b.map UInt8.toNat)<2 ^ (W+1)
 | [],s,h=>h
 | c::b,s,h=>by
  have hc:=c.toNat_lt
  have:2 ^ 8<=2 ^ (W+1):=Nat.pow_le_pow_right (by omega) (by omega)
  exact Zl3 hp2 hW b _ (ZjU hp2 8 _ (Nat.xor_lt_two_pow h (by omega)))
theorem ZhY (b:List UInt8):Zek b=((65535 ^^^ ruN 33800 65535 (b.map UInt8.toNat):Nat):Int)/\65535 ^^^ ruN 33800 65535 (b.map UInt8.toNat)<65536:=by
 have h1:=(ZiN (p:=33800) (by decide) b 65535 (by decide)).1
 have h2:=Zl3 (p:=33800) (W:=15) (by decide) (by decide) b 65535 (by decide)
 unfold Zek
 rw[show Zm1 65535 33800 b=_ from h1,IntWalk.u16_in _ (by omega)]
 exact⟨u16_xor_nat 65535 _ (by decide) h2,Nat.xor_lt_two_pow (n:=16) (by decide) h2⟩
theorem ZjV (b:List UInt8):ZeG b=((4294967295 ^^^ ruN 2197175160 4294967295 (b.map UInt8.toNat):Nat):Int)/\4294967295 ^^^ ruN 2197175160 4294967295 (b.map UInt8.toNat)<4294967296:=by
 have h1:=(ZiN (p:=2197175160) (by decide) b 4294967295 (by decide)).1
 have h2:=Zl3 (p:=2197175160) (W:=31) (by decide) (by decide) b 4294967295 (by decide)
 unfold ZeG
 rw[show Zm1 4294967295 2197175160 b=_ from h1]
 exact⟨u32_xor_nat 4294967295 _ (by decide) h2,Nat.xor_lt_two_pow (n:=32) (by decide) h2⟩
theorem ZjW {n x:Nat}(h:x<2 ^ n):(2 ^ n-1) ^^^ x=2 ^ n-1-x:=by
 apply Nat.eq_of_testBit_eq
 intro i
 rw[Nat.testBit_xor,Nat.testBit_two_pow_sub_one,show 2 ^ n-1-x=2 ^ n-(x+1) from by omega,Nat.testBit_two_pow_sub_succ h]
 by_cases hi:i<n
 ·simp[hi]
 ·have:x.testBit i=false:=Nat.testBit_lt_two_pow (Nat.lt_of_lt_of_le h (Nat.pow_le_pow_right (by omega) (by omega)))
  simp[hi,this]
theorem Zl4 [Known](b:List UInt8)(hb:b.length<=1099511627776)(f p W:Nat)(hp:p<2 ^ (W+1))(hf:f+1=2 ^ (W+1))(hW:7<=W)(hM:2 ^ (W+1)<=4294967296):AP Tryz.prog 178 [byE b,.int .u64 (f:Int),.int .u64 (p:Int)] (.int .u64 ((f-ruN p f (b.map UInt8.toNat):Nat):Int)) []:=by
 have hl:(b.map E.byte).length=b.length:=List.length_map ..
 have hU:=Zbm b
 have h256:2 ^ 8<=2 ^ (W+1):=Nat.pow_le_pow_right (by omega) (by omega)
 have hf':f<2 ^ (W+1):=by omega
 have hx:∀ s c:Nat,s<2 ^ (W+1)->c<256->s ^^^ c<2 ^ (W+1):=fun s c h1 h2=>Nat.xor_lt_two_pow h1 (by omega)
 have hH:∀ s,s<2 ^ (W+1)->hN p s<2 ^ (W+1):=fun s h=>ZjU hp 1 s h
 have hBy:∀ s c:Nat,s<2 ^ (W+1)->c<256->byN p s c<2 ^ (W+1):=fun s c h1 h2=>ZjU hp 8 _ (hx s c h1 h2)
 generalize hfin:ruN p f (b.map UInt8.toNat)=fin
 refine AP.ofA ?_
 refine Zan Tryz.func178 rfl Tryz.ntmps178 rfl rfl ?_
 repeat'(first|(apply Zah Zab;exact Z))
 refine ZaE (fun k tm bx fr=>∃(i s:Nat),k+i=b.length/\s<2 ^ (W+1)/\ruN p s ((b.drop i).map UInt8.toNat)=fin/\tm=[(0,byE b),(1,.int .u64 (f:Int)),(2,.int .u64 (p:Int)),(7,.int .u64 (s:Int)),(8,.int .i64 (i:Int))]/\bx=[]/\fr=[]) (b.length+1) (Lands.mk' (m:=b.length) (Nat.lt_succ_self _) ⟨0,f,by omega,hf',hfin,rfl,rfl,rfl⟩ ?_ rfl rfl rfl rfl rfl rfl) ?_
 ·exact .cons rfl (.cons rfl (.cons rfl (.cons rfl (.cons rfl .nil))))
 rintro k tm bx fr ⟨i,s,hk,hs,hq,rfl,rfl,rfl⟩
 rcases Nat.lt_or_ge i b.length with hlt|hge
 ·have hd:decide ((i:Int)<((b.map E.byte).length:Int))=true:=decide_eq_true (by omega)
  obtain⟨c,t,hdr,hv,ht⟩:=Ziu hlt
  have hc:=c.toNat_lt
  rw[hdr,ht]at hq
  have hq2:ruN p (byN p s c.toNat) ((b.drop (i+1)).map UInt8.toNat)=fin:=hq
  have ei:IntKind.i64.wrap ((i:Int)+1)=((i+1:Nat):Int):=by rw[IntWalk.i64_in _ (by omega)];omega
  have e1:IntKind.u64.wrap (c.toNat:Int)=(c.toNat:Int):=by rw[IntKind.wrap_u64];omega
  have ex:bits .xor .u64 (s:Int) (c.toNat:Int)=((s ^^^ c.toNat:Nat):Int):=u64_xor_nat s c.toNat (by omega) (by omega)
  have hxc:=hx s c.toNat hs hc
  have hbs:=hBy s c.toNat hs hc
  have hb8:itN p 8 (s ^^^ c.toNat)=byN p s c.toNat:=rfl
  generalize s ^^^ c.toNat=x0 at *
  generalize byN p s c.toNat=y0 at *
  repeat'(first|rw[e1]|rw[ex]|(apply Zaj Zab;exact Z)|(apply Zah Zab;exact Z)|(apply Zav Zab;exact Z)|(apply Zac;exact Z;exact Go.ZrJ)|(apply Zam Zab;(iterate 4 exact Z))|(apply Zau Zab;(iterate 6 exact Z);(first|exact Go.ZrJ|rotate_left);(first|with_reducible assumption|decide +kernel|exact Z);(first|exact Zai rfl|with_reducible assumption|decide +kernel|rotate_left)))
  refine ZaE (fun k2 tm bx fr=>∃(j s':Nat),k2+j=8/\s'<2 ^ (W+1)/\itN p (8-j) s'=y0/\tm=[(0,byE b),(1,.int .u64 (f:Int)),(2,.int .u64 (p:Int)),(7,.int .u64 (s':Int)),(8,.int .i64 (i:Int)),(9,.int .i64 (j:Int))]/\bx=[]/\fr=[]) 9 (Lands.mk' (m:=8) (Nat.lt_succ_self _) ⟨0,x0,rfl,hxc,hb8,rfl,rfl,rfl⟩ ?_ rfl rfl rfl rfl rfl rfl) ?_
  ·exact .cons rfl (.cons rfl (.cons rfl (.cons rfl (.cons rfl (.cons rfl .nil)))))
  rintro k2 tm bx fr ⟨j,s',hj,hs',hit,rfl,rfl,rfl⟩
  rcases Nat.lt_or_ge j 8 with h8|h8
  ·have hd8:decide ((j:Int)<8)=true:=decide_eq_true (by omega)
   have ej:IntKind.i64.wrap ((j:Int)+1)=((j+1:Nat):Int):=by rw[IntWalk.i64_in _ (by omega)];omega
   have er:((s':Nat):Int).tmod 2=((s' % 2:Nat):Int):=by rw[Int.tmod_eq_emod_of_nonneg (Int.natCast_nonneg _)];omega
   have eq:IntKind.u64.wrap (((s':Nat):Int).tdiv 2)=((s'/2:Nat):Int):=by rw[Int.tdiv_eq_ediv_of_nonneg (Int.natCast_nonneg _),IntKind.wrap_u64];omega
   have hh:=hH s' hs'
   have hit2:itN p (8-(j+1)) (hN p s')=y0:=by rw[<- hit,show 8-j=(8-(j+1))+1 from by omega];rfl
   have hdef:hN p s'=(s'/2) ^^^ (if s' % 2=1 then p else 0):=by
    unfold hN
    rw[Nat.shiftRight_eq_div_pow,Nat.testBit_zero]
    simp
   have exx:bits .xor .u64 ((s'/2:Nat):Int) (p:Int)=(((s'/2) ^^^ p:Nat):Int):=u64_xor_nat _ _ (by omega) (by omega)
   rcases Nat.mod_two_eq_zero_or_one s' with h2|h2
   ·rw[h2,if_neg (by omega),Nat.xor_zero]at hdef
    rw[h2]at er
    rw[hdef]at hit2 hh
    repeat'(first|rw[er]|rw[eq]|rw[ej]|(apply Zaj Zab;exact Z)|(apply Zah Zab;exact Z)|(apply Zac;exact Z;exact Go.ZrJ)|(apply Zaf;exact Z;exact Go.ZrJ)|(apply Zd2;exact Z;exact Z;(first|exact Go.ZrJ|rotate_left);exact Z)|(apply Zd3;exact Z;exact Z;(first|exact Go.ZrJ|rotate_left);exact Z))
    refine Lands.mk' (m:=k2-1) (by omega) ⟨j+1,s'/2,by omega,hh,hit2,rfl,rfl,rfl⟩ ?_ rfl rfl rfl rfl rfl rfl
    exact .cons rfl (.cons rfl (.cons rfl (.cons rfl (.cons rfl (.cons rfl .nil)))))
   ·rw[h2,if_pos rfl]at hdef
    rw[h2]at er
    rw[hdef]at hit2 hh
    repeat'(first|rw[er]|rw[eq]|rw[exx]|rw[ej]|(apply Zaj Zab;exact Z)|(apply Zah Zab;exact Z)|(apply Zac;exact Z;exact Go.ZrJ)|(apply Zd2;exact Z;exact Z;(first|exact Go.ZrJ|rotate_left);exact Z)|(apply Zd3;exact Z;exact Z;(first|exact Go.ZrJ|rotate_left);exact Z))
    refine Lands.mk' (m:=k2-1) (by omega) ⟨j+1,(s'/2) ^^^ p,by omega,hh,hit2,rfl,rfl,rfl⟩ ?_ rfl rfl rfl rfl rfl rfl
    exact .cons rfl (.cons rfl (.cons rfl (.cons rfl (.cons rfl (.cons rfl .nil)))))
  ·obtain rfl:j=8:=by omega
   have hd8:decide (((8:Nat):Int)<8)=false:=rfl
   have hy:s'=y0:=hit
   subst hy
   repeat'(first|rw[ei]|(apply Zah Zab;exact Z)|(apply Zaf;exact Z;exact Go.ZrJ))
   refine Lands.mk' (m:=k-1) (by omega) ⟨i+1,s',by omega,hs',hq2,rfl,rfl,rfl⟩ ?_ rfl rfl rfl rfl rfl rfl
   exact .cons rfl (.cons rfl (.cons rfl (.cons rfl (.cons rfl .nil))))
 ·have hd:decide ((i:Int)<((b.map E.byte).length:Int))=false:=decide_eq_false (by omega)
  rw[List.drop_eq_nil_of_le hge]at hq
  have hq:s=fin:=hq
  subst hq
  have es:IntKind.u64.wrap ((f:Int)-(s:Int))=((f-s:Nat):Int):=by rw[IntKind.wrap_u64];omega
  repeat'(first|rw[es]|(apply Zaj Zab;exact Z)|(apply Zah Zab;exact Z)|(apply Zav Zab;exact Z)|(apply Zaf;exact Z;exact Go.ZrJ)|(apply Zam Zab;(iterate 4 exact Z)))
  all_goals(apply Zaw [];(apply Zad Zab;exact Z);(iterate 4 exact Z))
  all_goals rfl
theorem Zl5 [Known](b:List UInt8)(hb:b.length<=1099511627776):AP Tryz.prog 152 [byE b] (.int .u16 (Zek b)) []:=by
 have h:=Zl4 b hb 65535 33800 15 (by decide) (by decide) (by decide) (by decide)
 obtain⟨h1,h2⟩:=ZhY b
 have hr:=Zl3 (p:=33800) (W:=15) (by decide) (by decide) b 65535 (by decide)
 have hx:65535 ^^^ ruN 33800 65535 (b.map UInt8.toNat)=65535-ruN 33800 65535 (b.map UInt8.toNat):=ZjW (n:=16) hr
 rw[hx]at h1 h2
 rw[h1]
 generalize 65535-ruN 33800 65535 (b.map UInt8.toNat)=z at *
 have e:IntKind.u16.wrap (z:Int)=(z:Int):=IntWalk.u16_in _ (by omega)
 refine AP.ofA ?_
 refine Zan Tryz.func152 rfl Tryz.ntmps152 rfl rfl ?_
 repeat'(first|rw[e]|(apply Zaa (h);kernel_rfl;(iterate 4 exact Z))|(apply Zaj Zab;exact Z)|(apply Zah Zab;exact Z))
 all_goals(apply Zaw [];(apply Zad Zab;exact Z);(iterate 4 exact Z))
 all_goals rfl
theorem Znm [Known](b:List UInt8)(hb:b.length<=1099511627776):AP Tryz.prog 153 [byE b] (.int .u32 (ZeG b)) []:=by
 have h:=Zl4 b hb 4294967295 2197175160 31 (by decide) (by decide) (by decide) (by decide)
 obtain⟨h1,h2⟩:=ZjV b
 have hr:=Zl3 (p:=2197175160) (W:=31) (by decide) (by decide) b 4294967295 (by decide)
 have hx:4294967295 ^^^ ruN 2197175160 4294967295 (b.map UInt8.toNat)=4294967295-ruN 2197175160 4294967295 (b.map UInt8.toNat):=ZjW (n:=32) hr
 rw[hx]at h1 h2
 rw[h1]
 generalize 4294967295-ruN 2197175160 4294967295 (b.map UInt8.toNat)=z at *
 have e:IntKind.u32.wrap (z:Int)=(z:Int):=IntWalk.u32_in _ (by omega)
 refine AP.ofA ?_
 refine Zan Tryz.func153 rfl Tryz.ntmps153 rfl rfl ?_
 repeat'(first|rw[e]|(apply Zaa (h);kernel_rfl;(iterate 4 exact Z))|(apply Zaj Zab;exact Z)|(apply Zah Zab;exact Z))
 all_goals(apply Zaw [];(apply Zad Zab;exact Z);(iterate 4 exact Z))
 all_goals rfl
theorem Znn {l:List It}{a:Int}{x:It}(h0:0<=a)(hx:l[a.toNat]?=some x):ZaQ l a=match It.beq x (.mk 0 0 [] []) with
  | true=>0
  | false=>match It.beq x (.mk 0 1 [] []) with
   | true=>1
   | false=>match It.beq x (.mk 0 2 [] []) with
    | true=>2
    | false => -1:=by
 obtain⟨k,n,b,r⟩:=x
 have hne:∀ m,m ≠ n->It.beq (.mk k n b r) (.mk 0 m [] [])=false:=fun m hm=>by
  cases h:It.beq (.mk k n b r) (.mk 0 m [] []) with
  | false=>rfl
  | true=>
   have:=It.beq_iff.1 h
   injection this with _ e
   exact absurd e.symm hm
 unfold ZaQ
 rw[if_neg (by omega),hx]
 dsimp only
 rcases Nat.lt_or_ge n 3 with h3|h3
 ·have hd:decide ((n:Int)>2)=false:=decide_eq_false (by omega)
  rw[hd]
  dsimp only
  obtain rfl|rfl|rfl:n=0\/n=1\/n=2:=by omega
  ·rw[hne 1 (by omega),hne 2 (by omega)]
   cases It.beq (.mk k 0 b r) (.mk 0 0 [] [])<;>rfl
  ·rw[hne 0 (by omega),hne 2 (by omega)]
   cases It.beq (.mk k 1 b r) (.mk 0 1 [] [])<;>rfl
  ·rw[hne 0 (by omega),hne 1 (by omega)]
   cases It.beq (.mk k 2 b r) (.mk 0 2 [] [])<;>rfl
 ·have hd:decide ((n:Int)>2)=true:=decide_eq_true (by omega)
  rw[hd,hne 0 (by omega),hne 1 (by omega),hne 2 (by omega)]
theorem Zno [Known](l:List It)(hws:wfs l)(hl:l.length<=2199023255488)(a:Int):AP Tryz.prog 148 [.sl .ext (Zax l),.int .i64 a] (.int .i64 (ZaQ l a)) []:=by
 have hlen:=Zar l
 have hU:=Zb8 l
 cases t1:decide (a<0) with
 | true=>
  have:ZaQ l a = -1:=by unfold ZaQ;rw[if_pos (of_decide_eq_true t1)]
  rw[this]
  refine AP.ofA ?_
  refine Zan Tryz.func148 rfl Tryz.ntmps148 rfl rfl ?_
  repeat'(first|(apply Zaj Zab;exact Z)|(apply Zah Zab;exact Z)|(apply Zav Zab;exact Z)|(apply Zal;(iterate 3 exact Z);exact Go.ZrJ)|(apply Zak;exact Z;exact Go.ZrJ;exact Z;exact Z)|(apply Zac;exact Z;exact Go.ZrJ))
  all_goals(apply Zaw [];(apply Zad Zab;exact Z);(iterate 4 exact Z))
  all_goals rfl
 | false=>
 have h0:0<=a:=by have:=of_decide_eq_false t1;omega
 cases t2:decide (a ≥ ((Zax l).length:Int)) with
 | true=>
  have:ZaQ l a = -1:=by
   have h2:=of_decide_eq_true t2
   unfold ZaQ
   rw[if_neg (by omega),List.getElem?_eq_none (by omega)]
  rw[this]
  refine AP.ofA ?_
  refine Zan Tryz.func148 rfl Tryz.ntmps148 rfl rfl ?_
  repeat'(first|(apply Zaj Zab;exact Z)|(apply Zah Zab;exact Z)|(apply Zav Zab;exact Z)|(apply Zae;(iterate 3 exact Z);exact Go.ZrJ)|(apply Zag;exact Z;exact Go.ZrJ;exact Z;exact Z)|(apply Zac;exact Z;exact Go.ZrJ)|(apply Zam Zab;(iterate 4 exact Z)))
  all_goals(apply Zaw [];(apply Zad Zab;exact Z);(iterate 4 exact Z))
  all_goals rfl
 | false=>
 have hlt:a.toNat<l.length:=by have:=of_decide_eq_false t2;omega
 obtain⟨x,hx⟩:∃ x,l[a.toNat]?=some x:=⟨_,List.getElem?_eq_getElem hlt⟩
 have hwx:=ZaY hws x (List.mem_of_getElem? hx)
 have hz:∀ m:Nat,m<3->wfI (.mk 0 m [] []):=fun m hm=>⟨by omega,by simp,by simp,trivial⟩
 have h1:=ZbJ x hwx (.mk 0 0 [] []) (hz 0 (by omega))
 have h2:=ZbJ x hwx (.mk 0 1 [] []) (hz 1 (by omega))
 have h3:=ZbJ x hwx (.mk 0 2 [] []) (hz 2 (by omega))
 rw[Znn h0 hx]
 generalize It.beq x (.mk 0 0 [] [])=b0 at *
 generalize It.beq x (.mk 0 1 [] [])=b1 at *
 generalize It.beq x (.mk 0 2 [] [])=b2 at *
 obtain⟨k,n,b,r⟩:=x
 have hv:(Zax l)[a.toNat]?=some (E.agg [.int .i64 k,.int .u64 (n:Int),.sl (b.map E.byte),.sl (Zax r)]):=by
  rw[ZaI,List.getElem?_map,hx]
  rfl
 cases b0<;>cases b1<;>cases b2
 all_goals
  refine AP.ofA ?_
  refine Zan Tryz.func148 rfl Tryz.ntmps148 rfl rfl ?_
  repeat'(first|(apply Zaa (h1);kernel_rfl;(iterate 4 exact Z))|(apply Zaa (h2);kernel_rfl;(iterate 4 exact Z))|(apply Zaa (h3);kernel_rfl;(iterate 4 exact Z))|refine Zbf 20 ?_|refine Zbs ?_|(apply Zaj Zab;exact Z)|(apply Zah Zab;exact Z)|(apply Zav Zab;exact Z)|(apply Zae;(iterate 3 exact Z);exact Go.ZrJ)|(apply Zag;exact Z;exact Go.ZrJ;exact Z;exact Z)|(apply Zac;exact Z;exact Go.ZrJ)|(apply Zaf;exact Z;exact Go.ZrJ)|refine Zbj ?_|(apply Zam Zab;(iterate 4 exact Z))|(apply Zau Zab;(iterate 6 exact Z);(first|exact Go.ZrJ|rotate_left);(first|with_reducible assumption|decide +kernel|exact Z);(first|exact Zai rfl|with_reducible assumption|decide +kernel|rotate_left)))
  all_goals(apply Zaw [];(apply Zad Zab;exact Z);(iterate 4 exact Z))
  all_goals rfl
theorem ZhZ [Known](L:List E):AP Tryz.prog 94 [.sl .ext L] (.agg [.int .i64 4,.int .u64 0,.sl .ext [],.sl .ext L]) []:=by
 refine AP.ofA ?_
 refine Zan Tryz.func94 rfl Tryz.ntmps94 rfl rfl ?_
 repeat'(first|(apply Zah Zab;exact Z))
 all_goals(apply Zaw [];(apply Zad Zab;exact Z);(iterate 4 exact Z))
 all_goals rfl
theorem ZjX [Known](l:List It)(hl:l.length<=2199023255488)(c:List E):AP Tryz.prog 151 [.sl .ext (Zax l),.sl .ext c] (.agg [.int .i64 4,.int .u64 0,.sl .ext [],.sl .ext (Zax l++[.agg [.int .i64 2,.int .u64 0,.sl c,.sl []]])]) []:=by
 have hlen:=Zar l
 have hU:=Zb8 l
 have hL:=ZhZ (Zax l++[.agg [.int .i64 2,.int .u64 0,.sl c,.sl []]])
 cases l with
 | nil=>
  refine AP.ofA ?_
  refine Zan Tryz.func151 rfl Tryz.ntmps151 rfl rfl ?_
  repeat'(first|(apply Zaa (hL);kernel_rfl;(iterate 4 exact Z))|(apply ZaU Zab;(iterate 6 exact Z);exact Zai rfl;exact List.cons_ne_nil _ _;exact Z;decide +kernel;decide +kernel;(iterate 3 exact Z))|(apply Zaj Zab;exact Z)|(apply Zah Zab;exact Z)|(apply ZaX Zab;(iterate 12 exact Z))|(apply ZaG Zab;(iterate 6 exact Z)))
  all_goals(apply Zaw [];(apply Zad Zab;exact Z);(iterate 4 exact Z))
  all_goals rfl
 | cons x l=>
  have hne:Zax (x::l) ≠ []:=by rw[Zax];exact List.cons_ne_nil _ _
  generalize Zax (x::l)=L at *
  have hLl:L.length<=2199023255488:=by omega
  refine AP.ofA ?_
  refine Zan Tryz.func151 rfl Tryz.ntmps151 rfl rfl ?_
  repeat'(first|(apply Zaa (hL);kernel_rfl;(iterate 4 exact Z))|(apply Zaj Zab;exact Z)|(apply Zah Zab;exact Z)|(apply ZaX Zab;(iterate 12 exact Z))|(apply ZaJ Zab;(iterate 6 exact Z);(first|with_reducible assumption|decide +kernel|exact Z|rotate_left);exact Z;exact Z;(first|exact Zai rfl|with_reducible assumption|decide +kernel|rotate_left);(first|exact Zai rfl|with_reducible assumption|decide +kernel|rotate_left);(first|exact Go.ZrJ|rotate_left);(first|exact Go.ZrJ|rotate_left);(first|exact Go.ZrJ|rotate_left);exact Z;exact Z)|(apply Za8 Zab;(iterate 6 exact Z);(first|exact Zai rfl|with_reducible assumption|decide +kernel|rotate_left);(first|exact Go.ZrJ|rotate_left);(first|exact Go.ZrJ|rotate_left);(first|exact Go.ZrJ|rotate_left);(iterate 3 exact Z)))
  all_goals first|((apply Zaw [];(apply Zad Zab;exact Z);(iterate 4 exact Z)))|skip
  all_goals first|rfl|(first|rfl|(simp only[List.length_append,List.length_cons,List.length_nil,List.length_map,Zar];done)|(simp only[List.length_append,List.length_cons,List.length_nil,List.length_map,Zar]at *;(try unfold maxLen);(try simp only[Nat.add_mul]);omega))|(simp;done)|(simp;omega)|(simp;unfold maxLen;omega)
end Go.Proofs.YtakblclkflnnpaaGreatDoor
end
