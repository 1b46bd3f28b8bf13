/- The document's texts: which bytes are UTF-8. -/
import Derived.Test.YtakblclkflnnpaaDoorG14
import Derived.Test.YtakblclkflnnpaaDoorG11
set_option linter.unusedVariables false
set_option linter.unusedSimpArgs false
section
open Go.RowKit Go.Pl Go.Av
namespace Go.Proofs.YtakblclkflnnpaaDoor
set_option maxHeartbeats 4000000
theorem ZbK [Known](c lo hi:Nat):AP Tryd.prog 122 [.int .u8 (c:Int),.int .u8 (lo:Int),.int .u8 (hi:Int)] (.bool (inB c lo hi)) []:=by
 have e:inB c lo hi=(decide (lo<=c)&&decide (c<=hi)):=rfl
 rw[e]
 by_cases h1:lo<=c
 ·have t1:decide ((c:Int) ≥ (lo:Int))=true:=decide_eq_true (by omega)
  have t2:decide ((c:Int)<=(hi:Int))=decide (c<=hi):=by rw[decide_eq_decide];omega
  rw[decide_eq_true h1,Bool.true_and]
  refine AP.ofA ?_
  refine Zao Tryd.func122 rfl Tryd.ntmps122 rfl rfl ?_
  repeat'(first|rw[t2]|(apply Zaj Zab;exact Z)|(apply Zah Zab;exact Z)|(apply Zaf;(iterate 3 exact Z);exact Qt)|(apply Zam;exact Z;exact Qt;exact Z;exact Z))
  all_goals(apply Zaz [];(apply Zad Zab;exact Z);(iterate 4 exact Z))
  all_goals rfl
 ·have t1:decide ((c:Int) ≥ (lo:Int))=false:=decide_eq_false (by omega)
  rw[decide_eq_false h1,Bool.false_and]
  refine AP.ofA ?_
  refine Zao Tryd.func122 rfl Tryd.ntmps122 rfl rfl ?_
  repeat'(first|(apply Zaj Zab;exact Z)|(apply Zah Zab;exact Z)|(apply Zav;(iterate 3 exact Z);exact Qt)|(apply Zai;exact Z;exact Qt;exact Z;exact Z))
  all_goals(apply Zaz [];(apply Zad Zab;exact Z);(iterate 4 exact Z))
  all_goals rfl
theorem Zmg (c:Nat)(h:128<=c):(inB c 194 223=true/\ptN c=2)
  \/ (inB c 194 223=false/\inB c 224 239=true/\ptN c=3)
  \/ (inB c 194 223=false/\inB c 224 239=false/\inB c 240 244=true/\ptN c=4)
  \/ (inB c 194 223=false/\inB c 224 239=false/\inB c 240 244=false/\ptN c=0):=by
 have f:∀ lo hi:Nat,inB c lo hi=decide (lo<=c/\c<=hi):=fun lo hi=>by unfold inB;rw[Bool.decide_and]
 unfold ptN
 rw[f,f,f]
 simp only[decide_eq_true_eq,decide_eq_false_iff_not]
 (repeat' split)<;>omega
theorem eqB (c k:Nat):((c:Int)==(k:Int))=decide (c=k):=by rw[Bool.eq_iff_iff,beq_iff_eq,decide_eq_true_eq];omega
theorem ZmT (c:Nat):(Zb0 c:Int)=if((c:Int)==224)=true then 160 else if((c:Int)==237)=true then 128 else if((c:Int)==240)=true then 144 else 128:=by
 have e1:((c:Int)==224)=decide (c=224):=eqB c 224
 have e2:((c:Int)==237)=decide (c=237):=eqB c 237
 have e3:((c:Int)==240)=decide (c=240):=eqB c 240
 rw[e1,e2,e3]
 unfold Zb0
 simp only[decide_eq_true_eq]
 (repeat' split)<;>omega
theorem ZmU (c:Nat):(Zb1 c:Int)=if((c:Int)==224)=true then 191 else if((c:Int)==237)=true then 159 else if((c:Int)==240)=true then 191 else if((c:Int)==244)=true then 143 else 191:=by
 have e1:((c:Int)==224)=decide (c=224):=eqB c 224
 have e2:((c:Int)==237)=decide (c=237):=eqB c 237
 have e3:((c:Int)==240)=decide (c=240):=eqB c 240
 have e4:((c:Int)==244)=decide (c=244):=eqB c 244
 rw[e1,e2,e3,e4]
 unfold Zb1
 simp only[decide_eq_true_eq]
 (repeat' split)<;>omega
theorem ZlK {α:Type}{f:α->E}{b:List α}{n:Nat}(h:b.length<n):decide (((b.map f).length:Int)<(n:Int))=true:=decide_eq_true (by rw[List.length_map];omega)
theorem ZmV {α:Type}{f:α->E}{b:List α}{n:Nat}(h:n<=b.length):decide (((b.map f).length:Int)<(n:Int))=false:=decide_eq_false (by rw[List.length_map];omega)
theorem Zkb [Known](c:UInt8)(r:List UInt8):AP Tryd.prog 106 [byE (c::r)] (.int .i64 (pt (c::r):Int)) []:=by
 have hU:=Zbg (c::r)
 have hv0:((c::r).map E.byte)[Int.toNat 0]?=some (.int .u8 (c.toNat:Int)):=rfl
 by_cases h1:c.toNat<128
 ·have t1:decide ((c.toNat:Int)<128)=true:=decide_eq_true (by omega)
  have e:pt (c::r)=1:=by simp[pt,ptN,h1]
  rw[e]
  refine AP.ofA ?_
  refine Zao Tryd.func106 rfl Tryd.ntmps106 rfl rfl ?_
  repeat'(first|(apply Zaj Zab;exact Z)|(apply Zah Zab;exact Z)|(apply Zay Zab;exact Z)|(apply Zac;exact Z;exact Qt)|(apply Zat Zab;(iterate 6 exact Z);(first|exact Qt|rotate_left);(first|with_reducible assumption|decide +kernel|exact Z);(first|exact Zag rfl|with_reducible assumption|decide +kernel|rotate_left)))
  all_goals(apply Zaz [];(apply Zad Zab;exact Z);(iterate 4 exact Z))
  all_goals rfl
 have t1:decide ((c.toNat:Int)<128)=false:=decide_eq_false (by omega)
 have w1:=ZbK c.toNat 194 223
 have w2:=ZbK c.toNat 224 239
 have w3:=ZbK c.toNat 240 244
 have hF:=Zmg c.toNat (by omega)
 have hlo:=ZmT c.toNat
 have hhi:=ZmU c.toNat
 generalize hp:pt (c::r)=p
 refine AP.ofA ?_
 refine Zao Tryd.func106 rfl Tryd.ntmps106 rfl rfl ?_
 rcases hF with⟨i1,hn⟩ | ⟨i1,i2,hn⟩ | ⟨i1,i2,i3,hn⟩ | ⟨i1,i2,i3,hn⟩
 all_goals
  repeat'(first|(apply Zaa (w1);kernel_rfl;(iterate 4 exact Z))|(apply Zaa (w2);kernel_rfl;(iterate 4 exact Z))|(apply Zaa (w3);kernel_rfl;(iterate 4 exact Z))|refine ZjT 1 (fun tm bx fr=>tm=[(0,byE (c::r)),(4,.int .i64 (ptN c.toNat:Int)),(5,.int .u8 (Zb0 c.toNat:Int)),(6,.int .u8 (Zb1 c.toNat:Int))]/\bx=[]/\fr=[]) ?_ ?_|(apply Zaj Zab;exact Z)|(apply Zah Zab;exact Z)|(apply Zay Zab;exact Z)|(apply Zac;exact Z;exact Qt)|(apply Zae;exact Z;exact Qt)|(apply Zcf;exact Z;all_goals intro hb)|refine Zcp ?_|(apply Zat Zab;(iterate 6 exact Z);(first|exact Qt|rotate_left);(first|with_reducible assumption|decide +kernel|exact Z);(first|exact Zag rfl|with_reducible assumption|decide +kernel|rotate_left)))
  all_goals first
   | (refine Lands.mk' (m:=0) (by decide) ⟨rfl,rfl,rfl⟩ ?_ rfl rfl rfl rfl rfl rfl
      exact .cons rfl (.cons (by rw[hn];rfl) (.cons (by simp only[hlo, *];rfl) (.cons (by simp only[hhi, *];rfl) .nil))))
   | skip
 all_goals
  rintro tm bx fr ⟨rfl,rfl,rfl⟩
  rw[hn]
  clear hlo hhi t1 w1 w2 w3 h1
  try clear i1
  try clear i2
  try clear i3
 ·rcases r with _|⟨c1,r⟩
  ·have t2:decide ((([c].map E.byte).length:Int)<((2:Nat):Int))=true:=ZlK (n:=2) (by simp)
   obtain rfl:0=p:=by rw[<- hp];simp[pt,hn]
   repeat'(first|(apply Zaj Zab;exact Z)|(apply Zah Zab;exact Z)|(apply Zay Zab;exact Z)|(apply Zaf;(iterate 3 exact Z);exact Qt)|(apply Zaq;(iterate 3 exact Z);exact Qt)|(apply Zam;exact Z;exact Qt;exact Z;exact Z)|(apply Zai;exact Z;exact Qt;exact Z;exact Z)|(apply Zac;exact Z;exact Qt)|(apply Zak Zab;(iterate 4 exact Z)))
   all_goals(apply Zaz [];(apply Zad Zab;exact Z);(iterate 4 exact Z))
   all_goals rfl
  ·have t2:decide ((((c::c1::r).map E.byte).length:Int)<((2:Nat):Int))=false:=ZmV (n:=2) (by simp)
   have hv1:((c::c1::r).map E.byte)[Int.toNat 1]?=some (.int .u8 (c1.toNat:Int)):=rfl
   have w1:=ZbK c1.toNat (Zb0 c.toNat) (Zb1 c.toNat)
   cases hin:inB c1.toNat (Zb0 c.toNat) (Zb1 c.toNat)
   ·obtain rfl:0=p:=by rw[<- hp];simp[pt,hn,hin]
    rw[hin]at w1
    repeat'(first|(apply Zaa (w1);kernel_rfl;(iterate 4 exact Z))|(apply Zaj Zab;exact Z)|(apply Zah Zab;exact Z)|(apply Zay Zab;exact Z)|(apply Zaf;(iterate 3 exact Z);exact Qt)|(apply Zai;exact Z;exact Qt;exact Z;exact Z)|(apply Zac;exact Z;exact Qt)|(apply Zak Zab;(iterate 4 exact Z))|(apply Zat Zab;(iterate 6 exact Z);(first|exact Qt|rotate_left);(first|with_reducible assumption|decide +kernel|exact Z);(first|exact Zag rfl|with_reducible assumption|decide +kernel|rotate_left)))
    all_goals(apply Zaz [];(apply Zad Zab;exact Z);(iterate 4 exact Z))
    all_goals rfl
   ·obtain rfl:2=p:=by rw[<- hp];simp[pt,hn,hin]
    rw[hin]at w1
    repeat'(first|(apply Zaa (w1);kernel_rfl;(iterate 4 exact Z))|refine Za9 70 ?_|refine Zbk ?_|(apply Zaj Zab;exact Z)|(apply Zah Zab;exact Z)|(apply Zay Zab;exact Z)|(apply Zaf;(iterate 3 exact Z);exact Qt)|(apply Zai;exact Z;exact Qt;exact Z;exact Z)|(apply Zae;exact Z;exact Qt)|(apply Zak Zab;(iterate 4 exact Z))|(apply Zat Zab;(iterate 6 exact Z);(first|exact Qt|rotate_left);(first|with_reducible assumption|decide +kernel|exact Z);(first|exact Zag rfl|with_reducible assumption|decide +kernel|rotate_left)))
    all_goals(apply Zaz [];(apply Zad Zab;exact Z);(iterate 4 exact Z))
    all_goals rfl
 ·rcases r with _|⟨c1,_|⟨c2,r⟩⟩
  ·have t2:decide ((([c].map E.byte).length:Int)<((3:Nat):Int))=true:=ZlK (n:=3) (by simp)
   obtain rfl:0=p:=by rw[<- hp];simp[pt,hn]
   repeat'(first|(apply Zaj Zab;exact Z)|(apply Zah Zab;exact Z)|(apply Zay Zab;exact Z)|(apply Zaf;(iterate 3 exact Z);exact Qt)|(apply Zaq;(iterate 3 exact Z);exact Qt)|(apply Zam;exact Z;exact Qt;exact Z;exact Z)|(apply Zai;exact Z;exact Qt;exact Z;exact Z)|(apply Zac;exact Z;exact Qt)|(apply Zak Zab;(iterate 4 exact Z)))
   all_goals(apply Zaz [];(apply Zad Zab;exact Z);(iterate 4 exact Z))
   all_goals rfl
  ·have t2:decide ((([c,c1].map E.byte).length:Int)<((3:Nat):Int))=true:=ZlK (n:=3) (by simp)
   obtain rfl:0=p:=by rw[<- hp];simp[pt,hn]
   repeat'(first|(apply Zaj Zab;exact Z)|(apply Zah Zab;exact Z)|(apply Zay Zab;exact Z)|(apply Zaf;(iterate 3 exact Z);exact Qt)|(apply Zaq;(iterate 3 exact Z);exact Qt)|(apply Zam;exact Z;exact Qt;exact Z;exact Z)|(apply Zai;exact Z;exact Qt;exact Z;exact Z)|(apply Zac;exact Z;exact Qt)|(apply Zak Zab;(iterate 4 exact Z)))
   all_goals(apply Zaz [];(apply Zad Zab;exact Z);(iterate 4 exact Z))
   all_goals rfl
  ·have t2:decide ((((c::c1::c2::r).map E.byte).length:Int)<((3:Nat):Int))=false:=ZmV (n:=3) (by simp)
   have hv1:((c::c1::c2::r).map E.byte)[Int.toNat 1]?=some (.int .u8 (c1.toNat:Int)):=rfl
   have w1:=ZbK c1.toNat (Zb0 c.toNat) (Zb1 c.toNat)
   have w2:=ZbK c2.toNat 128 191
   cases hin:inB c1.toNat (Zb0 c.toNat) (Zb1 c.toNat)
   ·obtain rfl:0=p:=by rw[<- hp];simp[pt,hn,hin]
    rw[hin]at w1
    repeat'(first|(apply Zaa (w1);kernel_rfl;(iterate 4 exact Z))|(apply Zaj Zab;exact Z)|(apply Zah Zab;exact Z)|(apply Zay Zab;exact Z)|(apply Zaf;(iterate 3 exact Z);exact Qt)|(apply Zai;exact Z;exact Qt;exact Z;exact Z)|(apply Zac;exact Z;exact Qt)|(apply Zak Zab;(iterate 4 exact Z))|(apply Zat Zab;(iterate 6 exact Z);(first|exact Qt|rotate_left);(first|with_reducible assumption|decide +kernel|exact Z);(first|exact Zag rfl|with_reducible assumption|decide +kernel|rotate_left)))
    all_goals(apply Zaz [];(apply Zad Zab;exact Z);(iterate 4 exact Z))
    all_goals rfl
   ·cases hi2:inB c2.toNat 128 191
    all_goals
     rw[hin]at w1
     rw[hi2]at w2
    ·obtain rfl:0=p:=by rw[<- hp];simp[pt,hn,hin,hi2]
     repeat'(first|(apply Zaa (w1);kernel_rfl;(iterate 4 exact Z))|(apply Zaa (w2);kernel_rfl;(iterate 4 exact Z))|refine Za9 70 ?_|refine Zbk ?_|(apply Zaj Zab;exact Z)|(apply Zah Zab;exact Z)|(apply Zay Zab;exact Z)|(apply Zaf;(iterate 3 exact Z);exact Qt)|(apply Zai;exact Z;exact Qt;exact Z;exact Z)|(apply Zac;exact Z;exact Qt)|(apply Zae;exact Z;exact Qt)|refine ZbE ?_|(apply Zak Zab;(iterate 4 exact Z))|(apply Zat Zab;(iterate 6 exact Z);(first|exact Qt|rotate_left);(first|with_reducible assumption|decide +kernel|exact Z);(first|exact Zag rfl|with_reducible assumption|decide +kernel|rotate_left)))
     all_goals(apply Zaz [];(apply Zad Zab;exact Z);(iterate 4 exact Z))
     all_goals rfl
    ·obtain rfl:3=p:=by rw[<- hp];simp[pt,hn,hin,hi2]
     repeat'(first|(apply Zaa (w1);kernel_rfl;(iterate 4 exact Z))|(apply Zaa (w2);kernel_rfl;(iterate 4 exact Z))|refine Za9 70 ?_|refine Zbk ?_|(apply Zaj Zab;exact Z)|(apply Zah Zab;exact Z)|(apply Zay Zab;exact Z)|(apply Zaf;(iterate 3 exact Z);exact Qt)|(apply Zai;exact Z;exact Qt;exact Z;exact Z)|(apply Zac;exact Z;exact Qt)|(apply Zae;exact Z;exact Qt)|(apply Zak Zab;(iterate 4 exact Z))|(apply Zat Zab;(iterate 6 exact Z);(first|exact Qt|rotate_left);(first|with_reducible assumption|decide +kernel|exact Z);(first|exact Zag rfl|with_reducible assumption|decide +kernel|rotate_left)))
     all_goals(apply Zaz [];(apply Zad Zab;exact Z);(iterate 4 exact Z))
     all_goals rfl
 ·rcases r with _|⟨c1,_|⟨c2,_|⟨c3,r⟩⟩⟩
  ·have t2:decide ((([c].map E.byte).length:Int)<((4:Nat):Int))=true:=ZlK (n:=4) (by simp)
   obtain rfl:0=p:=by rw[<- hp];simp[pt,hn]
   repeat'(first|(apply Zaj Zab;exact Z)|(apply Zah Zab;exact Z)|(apply Zay Zab;exact Z)|(apply Zaf;(iterate 3 exact Z);exact Qt)|(apply Zaq;(iterate 3 exact Z);exact Qt)|(apply Zam;exact Z;exact Qt;exact Z;exact Z)|(apply Zai;exact Z;exact Qt;exact Z;exact Z)|(apply Zac;exact Z;exact Qt)|(apply Zak Zab;(iterate 4 exact Z)))
   all_goals(apply Zaz [];(apply Zad Zab;exact Z);(iterate 4 exact Z))
   all_goals rfl
  ·have t2:decide ((([c,c1].map E.byte).length:Int)<((4:Nat):Int))=true:=ZlK (n:=4) (by simp)
   obtain rfl:0=p:=by rw[<- hp];simp[pt,hn]
   repeat'(first|(apply Zaj Zab;exact Z)|(apply Zah Zab;exact Z)|(apply Zay Zab;exact Z)|(apply Zaf;(iterate 3 exact Z);exact Qt)|(apply Zaq;(iterate 3 exact Z);exact Qt)|(apply Zam;exact Z;exact Qt;exact Z;exact Z)|(apply Zai;exact Z;exact Qt;exact Z;exact Z)|(apply Zac;exact Z;exact Qt)|(apply Zak Zab;(iterate 4 exact Z)))
   all_goals(apply Zaz [];(apply Zad Zab;exact Z);(iterate 4 exact Z))
   all_goals rfl
  ·have t2:decide ((([c,c1,c2].map E.byte).length:Int)<((4:Nat):Int))=true:=ZlK (n:=4) (by simp)
   obtain rfl:0=p:=by rw[<- hp];simp[pt,hn]
   repeat'(first|(apply Zaj Zab;exact Z)|(apply Zah Zab;exact Z)|(apply Zay Zab;exact Z)|(apply Zaf;(iterate 3 exact Z);exact Qt)|(apply Zaq;(iterate 3 exact Z);exact Qt)|(apply Zam;exact Z;exact Qt;exact Z;exact Z)|(apply Zai;exact Z;exact Qt;exact Z;exact Z)|(apply Zac;exact Z;exact Qt)|(apply Zak Zab;(iterate 4 exact Z)))
   all_goals(apply Zaz [];(apply Zad Zab;exact Z);(iterate 4 exact Z))
   all_goals rfl
  ·have t2:decide ((((c::c1::c2::c3::r).map E.byte).length:Int)<((4:Nat):Int))=false:=ZmV (n:=4) (by simp)
   have hv1:((c::c1::c2::c3::r).map E.byte)[Int.toNat 1]?=some (.int .u8 (c1.toNat:Int)):=rfl
   have w1:=ZbK c1.toNat (Zb0 c.toNat) (Zb1 c.toNat)
   have w2:=ZbK c2.toNat 128 191
   have w3:=ZbK c3.toNat 128 191
   cases hin:inB c1.toNat (Zb0 c.toNat) (Zb1 c.toNat)
   ·obtain rfl:0=p:=by rw[<- hp];simp[pt,hn,hin]
    rw[hin]at w1
    repeat'(first|(apply Zaa (w1);kernel_rfl;(iterate 4 exact Z))|(apply Zaj Zab;exact Z)|(apply Zah Zab;exact Z)|(apply Zay Zab;exact Z)|(apply Zaf;(iterate 3 exact Z);exact Qt)|(apply Zai;exact Z;exact Qt;exact Z;exact Z)|(apply Zac;exact Z;exact Qt)|(apply Zak Zab;(iterate 4 exact Z))|(apply Zat Zab;(iterate 6 exact Z);(first|exact Qt|rotate_left);(first|with_reducible assumption|decide +kernel|exact Z);(first|exact Zag rfl|with_reducible assumption|decide +kernel|rotate_left)))
    all_goals(apply Zaz [];(apply Zad Zab;exact Z);(iterate 4 exact Z))
    all_goals rfl
   ·rw[hin]at w1
    cases hi2:inB c2.toNat 128 191
    ·obtain rfl:0=p:=by rw[<- hp];simp[pt,hn,hin,hi2]
     rw[hi2]at w2
     repeat'(first|(apply Zaa (w1);kernel_rfl;(iterate 4 exact Z))|(apply Zaa (w2);kernel_rfl;(iterate 4 exact Z))|refine Za9 70 ?_|refine Zbk ?_|(apply Zaj Zab;exact Z)|(apply Zah Zab;exact Z)|(apply Zay Zab;exact Z)|(apply Zaf;(iterate 3 exact Z);exact Qt)|(apply Zai;exact Z;exact Qt;exact Z;exact Z)|(apply Zac;exact Z;exact Qt)|(apply Zae;exact Z;exact Qt)|refine ZbE ?_|(apply Zak Zab;(iterate 4 exact Z))|(apply Zat Zab;(iterate 6 exact Z);(first|exact Qt|rotate_left);(first|with_reducible assumption|decide +kernel|exact Z);(first|exact Zag rfl|with_reducible assumption|decide +kernel|rotate_left)))
     all_goals(apply Zaz [];(apply Zad Zab;exact Z);(iterate 4 exact Z))
     all_goals rfl
    ·rw[hi2]at w2
     cases hi3:inB c3.toNat 128 191
     ·obtain rfl:0=p:=by rw[<- hp];simp[pt,hn,hin,hi2,hi3]
      rw[hi3]at w3
      repeat'(first|(apply Zaa (w1);kernel_rfl;(iterate 4 exact Z))|(apply Zaa (w2);kernel_rfl;(iterate 4 exact Z))|(apply Zaa (w3);kernel_rfl;(iterate 4 exact Z))|refine Za9 70 ?_|refine Zbk ?_|(apply Zaj Zab;exact Z)|(apply Zah Zab;exact Z)|(apply Zay Zab;exact Z)|(apply Zaf;(iterate 3 exact Z);exact Qt)|(apply Zai;exact Z;exact Qt;exact Z;exact Z)|(apply Zac;exact Z;exact Qt)|(apply Zae;exact Z;exact Qt)|refine ZbE ?_|(apply Zak Zab;(iterate 4 exact Z))|(apply Zat Zab;(iterate 6 exact Z);(first|exact Qt|rotate_left);(first|with_reducible assumption|decide +kernel|exact Z);(first|exact Zag rfl|with_reducible assumption|decide +kernel|rotate_left)))
      all_goals(apply Zaz [];(apply Zad Zab;exact Z);(iterate 4 exact Z))
      all_goals rfl
     ·obtain rfl:4=p:=by rw[<- hp];simp[pt,hn,hin,hi2,hi3]
      rw[hi3]at w3
      repeat'(first|(apply Zaa (w1);kernel_rfl;(iterate 4 exact Z))|(apply Zaa (w2);kernel_rfl;(iterate 4 exact Z))|(apply Zaa (w3);kernel_rfl;(iterate 4 exact Z))|refine Za9 70 ?_|refine Zbk ?_|(apply Zaj Zab;exact Z)|(apply Zah Zab;exact Z)|(apply Zay Zab;exact Z)|(apply Zaf;(iterate 3 exact Z);exact Qt)|(apply Zai;exact Z;exact Qt;exact Z;exact Z)|(apply Zac;exact Z;exact Qt)|(apply Zae;exact Z;exact Qt)|(apply Zak Zab;(iterate 4 exact Z))|(apply Zat Zab;(iterate 6 exact Z);(first|exact Qt|rotate_left);(first|with_reducible assumption|decide +kernel|exact Z);(first|exact Zag rfl|with_reducible assumption|decide +kernel|rotate_left)))
      all_goals(apply Zaz [];(apply Zad Zab;exact Z);(iterate 4 exact Z))
      all_goals rfl
 ·obtain rfl:0=p:=by rw[<- hp];simp[pt,hn]
  repeat'(first|(apply Zaj Zab;exact Z)|(apply Zah Zab;exact Z)|(apply Zay Zab;exact Z)|(apply Zaq;(iterate 3 exact Z);exact Qt)|(apply Zam;exact Z;exact Qt;exact Z;exact Z)|(apply Zac;exact Z;exact Qt))
  all_goals(apply Zaz [];(apply Zad Zab;exact Z);(iterate 4 exact Z))
  all_goals rfl
theorem ZgF [Known](b:List UInt8)(hb:b.length<=140737488351232):AP Tryd.prog 90 [byE b] (.bool (ZaD b)) []:=by
 generalize hV:ZaD b=V
 refine AP.ofA ?_
 refine Zao Tryd.func90 rfl Tryd.ntmps90 rfl rfl ?_
 repeat'(first|(apply Zah Zab;exact Z))
 refine ZaC (fun k tm bx fr=>∃ l:List UInt8,k=l.length/\l.length<=b.length/\ZaD l=V/\tm=[(0,byE l),(2,.bool false)]/\bx=[]/\fr=[]) (b.length+1) (Lands.mk' (m:=b.length) (Nat.lt_succ_self _) ⟨b,rfl,Nat.le_refl _,hV,rfl,rfl,rfl⟩ ?_ rfl rfl rfl rfl rfl rfl) ?_
 ·exact .cons rfl (.cons rfl .nil)
 rintro k tm bx fr ⟨l,rfl,hl,hV,rfl,rfl,rfl⟩
 rcases l with _|⟨c,r⟩
 ·have hV:true=V:=hV
  subst hV
  repeat'(first|(apply Zaj Zab;exact Z)|(apply Zah Zab;exact Z)|(apply Zay Zab;exact Z)|(apply Zae;exact Z;exact Qt)|(apply Zak Zab;(iterate 4 exact Z)))
  all_goals(apply Zaz [];(apply Zad Zab;exact Z);(iterate 4 exact Z))
  all_goals rfl
 ·have t1:decide ((((c::r).map E.byte).length:Int)>0)=true:=decide_eq_true (by rw[List.length_map,List.length_cons];omega)
  have hP:=Zkb c r
  have hle:=ZmK (c::r)
  rw[Zbe]at hV
  cases hp:pt (c::r) with
  | zero=>
   rw[hp]at hP hV
   dsimp only at hV
   subst hV
   repeat'(first|(apply Zaa (hP);kernel_rfl;(iterate 4 exact Z))|(apply Zaj Zab;exact Z)|(apply Zah Zab;exact Z)|(apply Zay Zab;exact Z)|(apply Zac;exact Z;exact Qt)|refine ZbE ?_|(apply Zak Zab;(iterate 4 exact Z)))
   all_goals(apply Zaz [];(apply Zad Zab;exact Z);(iterate 4 exact Z))
   all_goals rfl
  | succ q=>
   rw[hp]at hP hV hle
   dsimp only at hV
   have t2:(((q+1:Nat):Int)==0)=false:=by simp;omega
   have hdr:(c::r).drop (Int.toNat ((q+1:Nat):Int))=r.drop q:=by rw[Int.toNat_natCast,List.drop_succ_cons]
   have hdl:(r.drop q).length=r.length-q:=List.length_drop ..
   generalize r.drop q=r2 at hV hdr hdl
   repeat'(first|(apply Zaa (hP);kernel_rfl;(iterate 4 exact Z))|(apply Zb7 Zab;(iterate 8 exact Z);exact Qb;(first|with_reducible assumption|decide|(simp only[List.length_cons,List.length_drop,List.length_take,List.length_append,Int.toNat_natCast]at *;omega));(first|with_reducible assumption|exact Z))|(apply Zaj Zab;exact Z)|(apply Zah Zab;exact Z)|(apply Zay Zab;exact Z)|(apply Zac;exact Z;exact Qt)|(apply Zae;exact Z;exact Qt)|(apply Zak Zab;(iterate 4 exact Z)))
   refine Lands.mk' (m:=r2.length) (by rw[List.length_cons];omega) ⟨r2,rfl,by simp at hl ⊢;omega,hV,rfl,rfl,rfl⟩ ?_ rfl rfl rfl rfl rfl rfl
   exact .cons rfl (.cons rfl .nil)
end Go.Proofs.YtakblclkflnnpaaDoor
end
section
open Go.RowKit Go.Pl Go.Av
namespace Go.Proofs.YtakblclkflnnpaaDoor
set_option maxHeartbeats 4000000
mutual
def Za5:It->Nat->Int->Int
 | .mk k n b l,d,m=>if 9<d then -1 else if 3000<b.length then -1 else Zbd l (d+1) (m-1)
def Zbd:List It->Nat->Int->Int
 | [],_,m=>m
 | x::l,d,m=>if m<0 then m else Zbd l d (Za5 x d m)
end
mutual
theorem Zcw:∀(x:It) (d:Nat) (m:Int),0<=m->Za5 x d m<m /\ -1<=Za5 x d m
 | .mk k n b l,d,m,h=>by
  rw[Za5]
  split
  ·omega
  ·split
   ·omega
   ·have:=Zcx l (d+1) (m-1) (by omega);omega
theorem Zcx:∀(l:List It) (d:Nat) (m:Int),-1<=m->Zbd l d m<=m /\ -1<=Zbd l d m
 | [],_,m,h=>by rw[Zbd];omega
 | x::l,d,m,h=>by
  rw[Zbd]
  split
  ·omega
  ·have h1:=Zcw x d m (by omega)
   have h2:=Zcx l d (Za5 x d m) (by omega)
   omega
end
mutual
def nI:It->Prop
 | .mk _ n _ l=>n<18446744073709551616/\nIs l
def nIs:List It->Prop
 | []=>True
 | x::l=>nI x/\nIs l
end
mutual
def Zbp:It->Nat->Bool
 | .mk _ _ _ l,d=>match d with
  | 0=>false
  | d+1=>ZbA l d
def ZbA:List It->Nat->Bool
 | [],_=>true
 | x::l,d=>Zbp x d&&ZbA l d
end
mutual
theorem ZdV:∀(x:It) (d:Nat) (m:Int),m<=400->0<=Za5 x d m->nI x->wfI x/\(ZaX x).length<=3009*(m-Za5 x d m)/\m-Za5 x d m ≥ 1/\Zbp x (10-d)=true
 | .mk k n b l,d,m,hm,h,hn=>by
  rw[Za5]at h ⊢
  split at h
  ·omega
  split at h
  ·omega
  rename_i h1 h2
  rw[if_neg h1,if_neg h2]
  obtain⟨q1,q2,q3,q4⟩:=Zeo l (d+1) (m-1) (by omega) h hn.2
  refine⟨⟨hn.1,by omega,by omega,q1⟩,?_,by omega,?_⟩
  ·rw[ZaX]
   have hw:(if Za8 (k,(It.mk k n b l).hn,false) then ZaR (k,(It.mk k n b l).hn,false) else []).length<=9:=by
    split
    ·rename_i hr;rw[ZbX _ hr];exact Zj0 _
    ·exact Nat.zero_le _
   rw[List.length_append,List.length_append]
   omega
  ·obtain⟨e,he⟩:∃ e,10-d=e+1:=⟨9-d,by omega⟩
   rw[he,Zbp]
   rw[show 10-(d+1)=e by omega]at q4
   exact q4
theorem Zeo:∀(l:List It) (d:Nat) (m:Int),m<=400->0<=Zbd l d m->nIs l->wfs l/\(ZaW l).length<=3009*(m-Zbd l d m)/\m-Zbd l d m ≥ l.length/\ZbA l (10-d)=true
 | [],_,m,_,h,hn=>by simp[wfs,ZaW,Zbd,ZbA]
 | x::l,d,m,hm,h,hn=>by
  rw[Zbd]at h ⊢
  split at h
  ·omega
  rename_i h1
  rw[if_neg h1]
  have h0:0<=Za5 x d m:=by
   rcases Int.lt_or_le (Za5 x d m) 0 with hlt|hge
   ·have:=Zcx l d (Za5 x d m) (by have:=Zcw x d m (by omega);omega);omega
   ·exact hge
  obtain⟨q1,q2,q3,q4⟩:=ZdV x d m hm h0 hn.1
  obtain⟨r1,r2,r3,r4⟩:=Zeo l d _ (by have:=Zcw x d m (by omega);omega) h hn.2
  refine⟨⟨q1,r1⟩,?_,?_,?_⟩
  ·rw[ZaW,List.length_append];omega
  ·rw[List.length_cons];omega
  ·rw[ZbA,q4,r4];rfl
end
theorem Zkc [Known]:∀(x:It) (d:Nat) (m:Int),d<=10->0<=m->m<=400->AP Tryd.prog 6 [itD x,.int .i64 (d:Int),.int .i64 m] (.int .i64 (Za5 x d m)) []:=by
 refine It.ind fun k n b l ih d m hd hm hm'=>?_
 have hlen:=Zal l
 have hbl:(b.map E.byte).length=b.length:=List.length_map ..
 show AP Tryd.prog _ [.agg (itC k n b l),_,_] _ _
 rw[Za5]
 have em:0<=m->IntKind.i64.wrap (m-1)=m-1:=fun h=>by rw[IntWalk.i64_in _ (by omega)]
 have ed:IntKind.i64.wrap ((d:Int)+1)=((d+1:Nat):Int):=by rw[IntWalk.i64_in _ (by omega)];omega
 by_cases hd9:9<d
 ·rw[if_pos hd9]
  have t1:decide ((d:Int)>9)=true:=by simp;omega
  refine AP.ofA ?_
  refine Zao Tryd.func6 rfl Tryd.ntmps6 rfl rfl ?_
  repeat'(first|(apply Zaj Zab;exact Z)|(apply Zah Zab;exact Z)|(apply Zay Zab;exact Z)|(apply Zaq;(iterate 3 exact Z);exact Qt)|(apply Zam;exact Z;exact Qt;exact Z;exact Z)|(apply Zac;exact Z;exact Qt))
  all_goals(apply Zaz [];(apply Zad Zab;exact Z);(iterate 4 exact Z))
  all_goals rfl
 have t1:decide ((d:Int)>9)=false:=by simp;omega
 rw[if_neg hd9]
 by_cases hb:3000<b.length
 ·rw[if_pos hb]
  have t2:decide ((((b.map E.byte).length:Nat):Int)>3000)=true:=by rw[hbl];simp;omega
  refine AP.ofA ?_
  refine Zao Tryd.func6 rfl Tryd.ntmps6 rfl rfl ?_
  repeat'(first|(apply Zaj Zab;exact Z)|(apply Zah Zab;exact Z)|(apply Zay Zab;exact Z)|(apply Zaf;(iterate 3 exact Z);exact Qt)|(apply Zai;exact Z;exact Qt;exact Z;exact Z)|(apply Zac;exact Z;exact Qt)|(apply Zak Zab;(iterate 4 exact Z)))
  all_goals(apply Zaz [];(apply Zad Zab;exact Z);(iterate 4 exact Z))
  all_goals rfl
 have t2:decide ((((b.map E.byte).length:Nat):Int)>3000)=false:=by rw[hbl];simp;omega
 rw[if_neg hb]
 generalize hfin:Zbd l (d+1) (m-1)=fin
 have em:=em hm
 refine AP.ofA ?_
 refine Zao Tryd.func6 rfl Tryd.ntmps6 rfl rfl ?_
 repeat'(first|rw[em]|(apply Zaj Zab;exact Z)|(apply Zah Zab;exact Z)|(apply Zay Zab;exact Z)|(apply Zaf;(iterate 3 exact Z);exact Qt)|(apply Zai;exact Z;exact Qt;exact Z;exact Z)|(apply Zae;exact Z;exact Qt)|(apply Zak Zab;(iterate 4 exact Z)))
 refine ZaC (fun f tm bx fr=>∃(i:Nat) (m':Int),f+i=l.length /\ -1<=m'/\m'+i<=399/\Zbd (l.drop i) (d+1) m'=fin/\tm=[(1,.int .i64 (d:Int)),(2,.int .i64 m'),(3,.ptr 0 0),(7,.int .i64 (i:Int)),(6,.int .i64 0)]/\bx=[itC k n b l]/\fr=[]) (l.length+1) (Lands.mk' (m:=l.length) (Nat.lt_succ_self _) ⟨0,m-1,rfl,by omega,by omega,hfin,rfl,rfl,rfl⟩ ?_ rfl rfl rfl rfl rfl rfl) ?_
 ·exact .cons rfl (.cons rfl (.cons rfl (.cons rfl (.cons rfl .nil))))
 rintro f tm bx fr ⟨i,m',hf,hm1,hm2,hfin,rfl,rfl,rfl⟩
 have hU:=Zbs l
 rcases Nat.lt_or_ge i l.length with hlt|hge
 ·have hdl:decide ((i:Int)<((Zan l).length:Int))=true:=decide_eq_true (by omega)
  obtain⟨⟨k1,n1,b1,l1⟩,hy⟩:∃ y,l[i]?=some y:=⟨_,List.getElem?_eq_getElem hlt⟩
  have hv:(Zan l)[((i:Nat):Int).toNat]?=some (.agg [.int .i64 k1,.int .u64 (n1:Int),.sl (b1.map E.byte),.sl (Zan l1)]):=by
   rw[Int.toNat_natCast,Zax,List.getElem?_map,hy];rfl
  have hdr:l.drop i=It.mk k1 n1 b1 l1::l.drop (i+1):=by
   rw[List.drop_eq_getElem_cons hlt];congr 1
   have:=(List.getElem?_eq_some_iff.1 hy).2;exact this
  rw[hdr,Zbd]at hfin
  rcases Int.lt_or_le m' 0 with hml|hmg
  ·have hdm:decide (m' ≥ 0)=false:=decide_eq_false (by omega)
   rw[if_pos hml]at hfin
   subst hfin
   repeat'(first|(apply Zaj Zab;exact Z)|(apply Zah Zab;exact Z)|(apply Zay Zab;exact Z)|(apply Zaf;(iterate 3 exact Z);exact Qt)|(apply Zam;exact Z;exact Qt;exact Z;exact Z)|(apply Zae;exact Z;exact Qt)|(apply Zak Zab;(iterate 4 exact Z)))
   all_goals(apply Zaz [];(apply Zad Zab;exact Z);(iterate 4 exact Z))
   all_goals rfl
  ·have hdm:decide (m' ≥ 0)=true:=decide_eq_true (by omega)
   rw[if_neg (by omega)]at hfin
   have hmem:=List.mem_of_getElem? hy
   have hc:=ih _ hmem (d+1) m' (by omega) hmg (by omega)
   have ei:IntKind.i64.wrap ((i:Int)+1)=((i+1:Nat):Int):=by rw[IntWalk.i64_in _ (by omega)];omega
   have hgl:=Zcw (.mk k1 n1 b1 l1) (d+1) m' hmg
   generalize hgr:Za5 (.mk k1 n1 b1 l1) (d+1) m'=r at hc hfin hgl
   repeat'(first|rw[ed]|rw[ei]|(apply Zaa (hc);kernel_rfl;(iterate 4 exact Z))|(apply Zaj Zab;exact Z)|(apply Zah Zab;exact Z)|(apply Zay Zab;exact Z)|(apply Zaf;(iterate 3 exact Z);exact Qt)|(apply Zam;exact Z;exact Qt;exact Z;exact Z)|(apply Zac;exact Z;exact Qt)|(apply Zak Zab;(iterate 4 exact Z))|(apply Zat Zab;(iterate 6 exact Z);(first|exact Qt|rotate_left);(first|with_reducible assumption|decide +kernel|exact Z);(first|exact Zag rfl|with_reducible assumption|decide +kernel|rotate_left)))
   refine Lands.mk' (m:=f-1) (by omega) ⟨i+1,r,by omega,by omega,by omega,hfin,rfl,rfl,rfl⟩ ?_ rfl rfl rfl rfl rfl rfl
   exact .cons rfl (.cons rfl (.cons rfl (.cons rfl (.cons rfl .nil))))
 ·have hdl:decide ((i:Int)<((Zan l).length:Int))=false:=decide_eq_false (by omega)
  have hdr:l.drop i=[]:=List.drop_eq_nil_of_le hge
  rw[hdr,Zbd]at hfin
  subst hfin
  repeat'(first|(apply Zaj Zab;exact Z)|(apply Zah Zab;exact Z)|(apply Zay Zab;exact Z)|(apply Zav;(iterate 3 exact Z);exact Qt)|(apply Zai;exact Z;exact Qt;exact Z;exact Z)|(apply Zae;exact Z;exact Qt)|(apply Zak Zab;(iterate 4 exact Z)))
  all_goals(apply Zaz [];(apply Zad Zab;exact Z);(iterate 4 exact Z))
  all_goals rfl
end Go.Proofs.YtakblclkflnnpaaDoor
end
section
open Go.RowKit Go.Pl Go.Av
namespace Go.Proofs.YtakblclkflnnpaaDoor
mutual
def Zbq:It->Nat
 | .mk _ _ _ l=>1+Za6 l
def Za6:List It->Nat
 | []=>0
 | x::l=>Zbq x+Za6 l
end
mutual
def Zbw:It->Bool
 | .mk k n b l=>Zeh k n b l&&Zcd l
def Zcd:List It->Bool
 | []=>true
 | x::l=>Zbw x&&Zcd l
end
mutual
theorem Zhr:∀(x:It) (d m:Nat),ZcR x d m=if Zbp x (7-d)=true/\Zbq x<=m/\Zbw x=true then some (m-Zbq x) else none
 | .mk k n b l,d,m=>by
  rw[ZcR]
  split
  ·rename_i h
   rw[if_neg]
   rintro⟨h1,_⟩
   rw[show 7-d=0 by omega,Zbp]at h1
   cases h1
  rename_i hd
  rw[show 7-d=(7-(d+1))+1 by omega,Zbp,Zbq,Zbw]
  split
  ·rename_i h
   rw[if_neg]
   rintro⟨_,h1,_⟩
   omega
  rename_i hm
  cases ho:Zeh k n b l with
  | false=>
   dsimp only
   rw[if_neg]
   rintro⟨_,_,h1⟩
   simp at h1
  | true=>
   dsimp only
   rw[Zf2 l (d+1) (m-1),Bool.true_and]
   by_cases h:ZbA l (7-(d+1))=true/\Za6 l<=m-1/\Zcd l=true
   ·rw[if_pos h,if_pos ⟨h.1,by omega,h.2.2⟩]
    congr 1;omega
   ·rw[if_neg h,if_neg]
    exact fun⟨a,b,c⟩=>h ⟨a,by omega,c⟩
theorem Zf2:∀(l:List It) (d m:Nat),Zb8 l d m=if ZbA l (7-d)=true/\Za6 l<=m/\Zcd l=true then some (m-Za6 l) else none
 | [],d,m=>by rw[Zb8,if_pos ⟨by rw[ZbA],by rw[Za6];omega,by rw[Zcd]⟩,Za6];rfl
 | x::l,d,m=>by
  rw[Zb8,Zhr x d m,ZbA,Za6,Zcd]
  by_cases h:Zbp x (7-d)=true/\Zbq x<=m/\Zbw x=true
  ·rw[if_pos h]
   dsimp only
   rw[Zf2 l d (m-Zbq x),h.1,h.2.2,Bool.true_and,Bool.true_and]
   by_cases h2:ZbA l (7-d)=true/\Za6 l<=m-Zbq x/\Zcd l=true
   ·rw[if_pos h2,if_pos ⟨h2.1,by omega,h2.2.2⟩]
    congr 1;omega
   ·rw[if_neg h2,if_neg]
    exact fun⟨a,b,c⟩=>h2 ⟨a,by omega,c⟩
  ·rw[if_neg h]
   dsimp only
   rw[if_neg]
   rintro⟨a,b,c⟩
   rw[Bool.and_eq_true]at a c
   exact h ⟨a.1,by omega,c.1⟩
end
theorem ZbR (x:It):Zaw x=(Zbp x 6&&(decide (Zbq x<=256)&&Zbw x)):=by
 unfold Zaw
 rw[Zhr]
 split
 ·rename_i h
  obtain⟨a,b,c⟩:=h
  rw[show 7-1=6 from rfl]at a
  simp[a,b,c]
 ·rename_i h
  rw[show 7-1=6 from rfl]at h
  show false=_
  cases h2:(Zbp x 6&&(decide (Zbq x<=256)&&Zbw x)) with
  | false=>rfl
  | true=>
   simp only[Bool.and_eq_true,decide_eq_true_eq]at h2
   exact absurd ⟨h2.1,h2.2.1,h2.2.2⟩ h
mutual
theorem ZdB:∀(x:It) (d e:Nat),Zbp x d=true->d<=e->Zbp x e=true
 | .mk k n b l,0,e,h,_=>by rw[Zbp]at h;cases h
 | .mk k n b l,d+1,0,h,hle=>by omega
 | .mk k n b l,d+1,e+1,h,hle=>by
  rw[Zbp]at h ⊢
  exact ZeV l d e h (by omega)
theorem ZeV:∀(l:List It) (d e:Nat),ZbA l d=true->d<=e->ZbA l e=true
 | [],_,_,_,_=>by rw[ZbA]
 | x::l,d,e,h,hle=>by
  rw[ZbA,Bool.and_eq_true]at h ⊢
  exact⟨ZdB x d e h.1 hle,ZeV l d e h.2 hle⟩
end
mutual
theorem ZhU:∀(x:It) (d:Nat) (m:Int),0<=Za5 x d m->(Zbq x:Int)=m-Za5 x d m
 | .mk k n b l,d,m,h=>by
  rw[Za5]at h ⊢
  split at h
  ·omega
  split at h
  ·omega
  rename_i h1 h2
  rw[if_neg h1,if_neg h2,Zbq]
  have:=Zep l (d+1) (m-1) h
  omega
theorem Zep:∀(l:List It) (d:Nat) (m:Int),0<=Zbd l d m->(Za6 l:Int)=m-Zbd l d m
 | [],d,m,h=>by rw[Zbd,Za6];omega
 | x::l,d,m,h=>by
  rw[Zbd]at h ⊢
  split at h
  ·omega
  rename_i h1
  rw[if_neg h1,Za6]
  have h0:0<=Za5 x d m:=by
   rcases Int.lt_or_le (Za5 x d m) 0 with hlt|hge
   ·have:=Zcx l d (Za5 x d m) (by have:=Zcw x d m (by omega);omega);omega
   ·exact hge
  have a:=ZhU x d m h0
  have b:=Zep l d _ h
  omega
end
end Go.Proofs.YtakblclkflnnpaaDoor
end
