/- The document's texts: which bytes are UTF-8. -/
import Derived.Test.YtakblclkflnnpaaGreatDoorP15
import Derived.Test.YtakblclkflnnpaaGreatDoorP12
set_option linter.unusedVariables false
set_option linter.unusedSimpArgs false
section
open Go.RowKit Go.Pl Go.Av
namespace Go.Proofs.YtakblclkflnnpaaGreatDoor
set_option maxHeartbeats 4000000
theorem Zb8 [Known](c lo hi:Nat):AP Tryz.prog 218 [.int .u8 (c:Int),.int .u8 (lo:Int),.int .u8 (hi:Int)] (.bool (inB c lo hi)) []:=by
 have e:inB c lo hi=(decide (lo<=c)&&decide (c<=hi)):=rfl
 rw[e]
 by_cases h1:lo<=c
 ·have t1:decide ((c:Int) ≥ (lo:Int))=true:=decide_eq_true (by omega)
  have t2:decide ((c:Int)<=(hi:Int))=decide (c<=hi):=by rw[decide_eq_decide];omega
  rw[decide_eq_true h1,Bool.true_and]
  refine AP.ofA ?_
  refine Zap Tryz.func218 rfl Tryz.ntmps218 rfl rfl ?_
  repeat'(first|rw[t2]|(apply Zaj Zab;exact Z)|(apply Zai Zab;exact Z)|(apply Zaf;(iterate 3 exact Z);exact Go.Zqn)|(apply Zak;exact Z;exact Go.Zqn;exact Z;exact Z))
  all_goals(apply Zax [];(apply Zad Zab;exact Z);(iterate 4 exact Z))
  all_goals rfl
 ·have t1:decide ((c:Int) ≥ (lo:Int))=false:=decide_eq_false (by omega)
  rw[decide_eq_false h1,Bool.false_and]
  refine AP.ofA ?_
  refine Zap Tryz.func218 rfl Tryz.ntmps218 rfl rfl ?_
  repeat'(first|(apply Zaj Zab;exact Z)|(apply Zai Zab;exact Z)|(apply Zau;(iterate 3 exact Z);exact Go.Zqn)|(apply Zah;exact Z;exact Go.Zqn;exact Z;exact Z))
  all_goals(apply Zax [];(apply Zad Zab;exact Z);(iterate 4 exact Z))
  all_goals rfl
theorem Zoz (c:Nat)(h:128<=c):(inB c 194 223=true/\ptN c=2)
  \/ (inB c 194 223=false/\inB c 224 239=true/\ptN c=3)
  \/ (inB c 194 223=false/\inB c 224 239=false/\inB c 240 244=true/\ptN c=4)
  \/ (inB c 194 223=false/\inB c 224 239=false/\inB c 240 244=false/\ptN c=0):=by
 have f:∀ lo hi:Nat,inB c lo hi=decide (lo<=c/\c<=hi):=fun lo hi=>by unfold inB;rw[Bool.decide_and]
 unfold ptN
 rw[f,f,f]
 simp only[decide_eq_true_eq,decide_eq_false_iff_not]
 (repeat' split)<;>omega
theorem eqB (c k:Nat):((c:Int)==(k:Int))=decide (c=k):=by rw[Bool.eq_iff_iff,beq_iff_eq,decide_eq_true_eq];omega
theorem Zpl (c:Nat):(Zct c:Int)=if((c:Int)==224)=true then 160 else if((c:Int)==237)=true then 128 else if((c:Int)==240)=true then 144 else 128:=by
 have e1:((c:Int)==224)=decide (c=224):=eqB c 224
 have e2:((c:Int)==237)=decide (c=237):=eqB c 237
 have e3:((c:Int)==240)=decide (c=240):=eqB c 240
 rw[e1,e2,e3]
 unfold Zct
 simp only[decide_eq_true_eq]
 (repeat' split)<;>omega
theorem Zpm (c:Nat):(Zcu c:Int)=if((c:Int)==224)=true then 191 else if((c:Int)==237)=true then 159 else if((c:Int)==240)=true then 191 else if((c:Int)==244)=true then 143 else 191:=by
 have e1:((c:Int)==224)=decide (c=224):=eqB c 224
 have e2:((c:Int)==237)=decide (c=237):=eqB c 237
 have e3:((c:Int)==240)=decide (c=240):=eqB c 240
 have e4:((c:Int)==244)=decide (c=244):=eqB c 244
 rw[e1,e2,e3,e4]
 unfold Zcu
 simp only[decide_eq_true_eq]
 (repeat' split)<;>omega
theorem Zn6 {α:Type}{f:α->E}{b:List α}{n:Nat}(h:b.length<n):decide (((b.map f).length:Int)<(n:Int))=true:=decide_eq_true (by rw[List.length_map];omega)
theorem Zpn {α:Type}{f:α->E}{b:List α}{n:Nat}(h:n<=b.length):decide (((b.map f).length:Int)<(n:Int))=false:=decide_eq_false (by rw[List.length_map];omega)
theorem Zma [Known](c:UInt8)(r:List UInt8):AP Tryz.prog 208 [byE (c::r)] (.int .i64 (pt (c::r):Int)) []:=by
 have hU:=Zbq (c::r)
 have hv0:((c::r).map E.byte)[Int.toNat 0]?=some (.int .u8 (c.toNat:Int)):=rfl
 by_cases h1:c.toNat<128
 ·have t1:decide ((c.toNat:Int)<128)=true:=decide_eq_true (by omega)
  have e:pt (c::r)=1:=by simp[pt,ptN,h1]
  rw[e]
  refine AP.ofA ?_
  refine Zap Tryz.func208 rfl Tryz.ntmps208 rfl rfl ?_
  repeat'(first|(apply Zaj Zab;exact Z)|(apply Zai Zab;exact Z)|(apply Zay Zab;exact Z)|(apply Zac;exact Z;exact Go.Zqn)|(apply Zat Zab;(iterate 6 exact Z);(first|exact Go.Zqn|rotate_left);(first|with_reducible assumption|decide +kernel|exact Z);(first|exact Zag rfl|with_reducible assumption|decide +kernel|rotate_left)))
  all_goals(apply Zax [];(apply Zad Zab;exact Z);(iterate 4 exact Z))
  all_goals rfl
 have t1:decide ((c.toNat:Int)<128)=false:=decide_eq_false (by omega)
 have w1:=Zb8 c.toNat 194 223
 have w2:=Zb8 c.toNat 224 239
 have w3:=Zb8 c.toNat 240 244
 have hF:=Zoz c.toNat (by omega)
 have hlo:=Zpl c.toNat
 have hhi:=Zpm c.toNat
 generalize hp:pt (c::r)=p
 refine AP.ofA ?_
 refine Zap Tryz.func208 rfl Tryz.ntmps208 rfl rfl ?_
 rcases hF with⟨i1,hn⟩ | ⟨i1,i2,hn⟩ | ⟨i1,i2,i3,hn⟩ | ⟨i1,i2,i3,hn⟩
 all_goals
  repeat'(first|(apply Zaa (w1);kernel_rfl;(iterate 4 exact Z))|(apply Zaa (w2);kernel_rfl;(iterate 4 exact Z))|(apply Zaa (w3);kernel_rfl;(iterate 4 exact Z))|refine Zl0 1 (fun tm bx fr=>tm=[(0,byE (c::r)),(4,.int .i64 (ptN c.toNat:Int)),(5,.int .u8 (Zct c.toNat:Int)),(6,.int .u8 (Zcu c.toNat:Int))]/\bx=[]/\fr=[]) ?_ ?_|(apply Zaj Zab;exact Z)|(apply Zai Zab;exact Z)|(apply Zay Zab;exact Z)|(apply Zac;exact Z;exact Go.Zqn)|(apply Zae;exact Z;exact Go.Zqn)|(apply Zb0;exact Z;all_goals intro hb)|refine ZbZ ?_|(apply Zat Zab;(iterate 6 exact Z);(first|exact Go.Zqn|rotate_left);(first|with_reducible assumption|decide +kernel|exact Z);(first|exact Zag rfl|with_reducible assumption|decide +kernel|rotate_left)))
  all_goals first
   | (refine Lands.mk' (m:=0) (by decide) ⟨rfl,rfl,rfl⟩ ?_ rfl rfl rfl rfl rfl rfl
      exact .cons rfl (.cons (by rw[hn];rfl) (.cons (by simp only[hlo, *];rfl) (.cons (by simp only[hhi, *];rfl) .nil))))
   | skip
 all_goals
  rintro tm bx fr ⟨rfl,rfl,rfl⟩
  rw[hn]
  clear hlo hhi t1 w1 w2 w3 h1
  try clear i1
  try clear i2
  try clear i3
 ·rcases r with _|⟨c1,r⟩
  ·have t2:decide ((([c].map E.byte).length:Int)<((2:Nat):Int))=true:=Zn6 (n:=2) (by simp)
   obtain rfl:0=p:=by rw[<- hp];simp[pt,hn]
   repeat'(first|(apply Zaj Zab;exact Z)|(apply Zai Zab;exact Z)|(apply Zay Zab;exact Z)|(apply Zaf;(iterate 3 exact Z);exact Go.Zqn)|(apply Zao;(iterate 3 exact Z);exact Go.Zqn)|(apply Zak;exact Z;exact Go.Zqn;exact Z;exact Z)|(apply Zah;exact Z;exact Go.Zqn;exact Z;exact Z)|(apply Zac;exact Z;exact Go.Zqn)|(apply Zal Zab;(iterate 4 exact Z)))
   all_goals(apply Zax [];(apply Zad Zab;exact Z);(iterate 4 exact Z))
   all_goals rfl
  ·have t2:decide ((((c::c1::r).map E.byte).length:Int)<((2:Nat):Int))=false:=Zpn (n:=2) (by simp)
   have hv1:((c::c1::r).map E.byte)[Int.toNat 1]?=some (.int .u8 (c1.toNat:Int)):=rfl
   have w1:=Zb8 c1.toNat (Zct c.toNat) (Zcu c.toNat)
   cases hin:inB c1.toNat (Zct c.toNat) (Zcu c.toNat)
   ·obtain rfl:0=p:=by rw[<- hp];simp[pt,hn,hin]
    rw[hin]at w1
    repeat'(first|(apply Zaa (w1);kernel_rfl;(iterate 4 exact Z))|(apply Zaj Zab;exact Z)|(apply Zai Zab;exact Z)|(apply Zay Zab;exact Z)|(apply Zaf;(iterate 3 exact Z);exact Go.Zqn)|(apply Zah;exact Z;exact Go.Zqn;exact Z;exact Z)|(apply Zac;exact Z;exact Go.Zqn)|(apply Zal Zab;(iterate 4 exact Z))|(apply Zat Zab;(iterate 6 exact Z);(first|exact Go.Zqn|rotate_left);(first|with_reducible assumption|decide +kernel|exact Z);(first|exact Zag rfl|with_reducible assumption|decide +kernel|rotate_left)))
    all_goals(apply Zax [];(apply Zad Zab;exact Z);(iterate 4 exact Z))
    all_goals rfl
   ·obtain rfl:2=p:=by rw[<- hp];simp[pt,hn,hin]
    rw[hin]at w1
    repeat'(first|(apply Zaa (w1);kernel_rfl;(iterate 4 exact Z))|refine Zbj 70 ?_|refine Zby ?_|(apply Zaj Zab;exact Z)|(apply Zai Zab;exact Z)|(apply Zay Zab;exact Z)|(apply Zaf;(iterate 3 exact Z);exact Go.Zqn)|(apply Zah;exact Z;exact Go.Zqn;exact Z;exact Z)|(apply Zae;exact Z;exact Go.Zqn)|(apply Zal Zab;(iterate 4 exact Z))|(apply Zat Zab;(iterate 6 exact Z);(first|exact Go.Zqn|rotate_left);(first|with_reducible assumption|decide +kernel|exact Z);(first|exact Zag rfl|with_reducible assumption|decide +kernel|rotate_left)))
    all_goals(apply Zax [];(apply Zad Zab;exact Z);(iterate 4 exact Z))
    all_goals rfl
 ·rcases r with _|⟨c1,_|⟨c2,r⟩⟩
  ·have t2:decide ((([c].map E.byte).length:Int)<((3:Nat):Int))=true:=Zn6 (n:=3) (by simp)
   obtain rfl:0=p:=by rw[<- hp];simp[pt,hn]
   repeat'(first|(apply Zaj Zab;exact Z)|(apply Zai Zab;exact Z)|(apply Zay Zab;exact Z)|(apply Zaf;(iterate 3 exact Z);exact Go.Zqn)|(apply Zao;(iterate 3 exact Z);exact Go.Zqn)|(apply Zak;exact Z;exact Go.Zqn;exact Z;exact Z)|(apply Zah;exact Z;exact Go.Zqn;exact Z;exact Z)|(apply Zac;exact Z;exact Go.Zqn)|(apply Zal Zab;(iterate 4 exact Z)))
   all_goals(apply Zax [];(apply Zad Zab;exact Z);(iterate 4 exact Z))
   all_goals rfl
  ·have t2:decide ((([c,c1].map E.byte).length:Int)<((3:Nat):Int))=true:=Zn6 (n:=3) (by simp)
   obtain rfl:0=p:=by rw[<- hp];simp[pt,hn]
   repeat'(first|(apply Zaj Zab;exact Z)|(apply Zai Zab;exact Z)|(apply Zay Zab;exact Z)|(apply Zaf;(iterate 3 exact Z);exact Go.Zqn)|(apply Zao;(iterate 3 exact Z);exact Go.Zqn)|(apply Zak;exact Z;exact Go.Zqn;exact Z;exact Z)|(apply Zah;exact Z;exact Go.Zqn;exact Z;exact Z)|(apply Zac;exact Z;exact Go.Zqn)|(apply Zal Zab;(iterate 4 exact Z)))
   all_goals(apply Zax [];(apply Zad Zab;exact Z);(iterate 4 exact Z))
   all_goals rfl
  ·have t2:decide ((((c::c1::c2::r).map E.byte).length:Int)<((3:Nat):Int))=false:=Zpn (n:=3) (by simp)
   have hv1:((c::c1::c2::r).map E.byte)[Int.toNat 1]?=some (.int .u8 (c1.toNat:Int)):=rfl
   have w1:=Zb8 c1.toNat (Zct c.toNat) (Zcu c.toNat)
   have w2:=Zb8 c2.toNat 128 191
   cases hin:inB c1.toNat (Zct c.toNat) (Zcu c.toNat)
   ·obtain rfl:0=p:=by rw[<- hp];simp[pt,hn,hin]
    rw[hin]at w1
    repeat'(first|(apply Zaa (w1);kernel_rfl;(iterate 4 exact Z))|(apply Zaj Zab;exact Z)|(apply Zai Zab;exact Z)|(apply Zay Zab;exact Z)|(apply Zaf;(iterate 3 exact Z);exact Go.Zqn)|(apply Zah;exact Z;exact Go.Zqn;exact Z;exact Z)|(apply Zac;exact Z;exact Go.Zqn)|(apply Zal Zab;(iterate 4 exact Z))|(apply Zat Zab;(iterate 6 exact Z);(first|exact Go.Zqn|rotate_left);(first|with_reducible assumption|decide +kernel|exact Z);(first|exact Zag rfl|with_reducible assumption|decide +kernel|rotate_left)))
    all_goals(apply Zax [];(apply Zad Zab;exact Z);(iterate 4 exact Z))
    all_goals rfl
   ·cases hi2:inB c2.toNat 128 191
    all_goals
     rw[hin]at w1
     rw[hi2]at w2
    ·obtain rfl:0=p:=by rw[<- hp];simp[pt,hn,hin,hi2]
     repeat'(first|(apply Zaa (w1);kernel_rfl;(iterate 4 exact Z))|(apply Zaa (w2);kernel_rfl;(iterate 4 exact Z))|refine Zbj 70 ?_|refine Zby ?_|(apply Zaj Zab;exact Z)|(apply Zai Zab;exact Z)|(apply Zay Zab;exact Z)|(apply Zaf;(iterate 3 exact Z);exact Go.Zqn)|(apply Zah;exact Z;exact Go.Zqn;exact Z;exact Z)|(apply Zac;exact Z;exact Go.Zqn)|(apply Zae;exact Z;exact Go.Zqn)|refine ZbI ?_|(apply Zal Zab;(iterate 4 exact Z))|(apply Zat Zab;(iterate 6 exact Z);(first|exact Go.Zqn|rotate_left);(first|with_reducible assumption|decide +kernel|exact Z);(first|exact Zag rfl|with_reducible assumption|decide +kernel|rotate_left)))
     all_goals(apply Zax [];(apply Zad Zab;exact Z);(iterate 4 exact Z))
     all_goals rfl
    ·obtain rfl:3=p:=by rw[<- hp];simp[pt,hn,hin,hi2]
     repeat'(first|(apply Zaa (w1);kernel_rfl;(iterate 4 exact Z))|(apply Zaa (w2);kernel_rfl;(iterate 4 exact Z))|refine Zbj 70 ?_|refine Zby ?_|(apply Zaj Zab;exact Z)|(apply Zai Zab;exact Z)|(apply Zay Zab;exact Z)|(apply Zaf;(iterate 3 exact Z);exact Go.Zqn)|(apply Zah;exact Z;exact Go.Zqn;exact Z;exact Z)|(apply Zac;exact Z;exact Go.Zqn)|(apply Zae;exact Z;exact Go.Zqn)|(apply Zal Zab;(iterate 4 exact Z))|(apply Zat Zab;(iterate 6 exact Z);(first|exact Go.Zqn|rotate_left);(first|with_reducible assumption|decide +kernel|exact Z);(first|exact Zag rfl|with_reducible assumption|decide +kernel|rotate_left)))
     all_goals(apply Zax [];(apply Zad Zab;exact Z);(iterate 4 exact Z))
     all_goals rfl
 ·rcases r with _|⟨c1,_|⟨c2,_|⟨c3,r⟩⟩⟩
  ·have t2:decide ((([c].map E.byte).length:Int)<((4:Nat):Int))=true:=Zn6 (n:=4) (by simp)
   obtain rfl:0=p:=by rw[<- hp];simp[pt,hn]
   repeat'(first|(apply Zaj Zab;exact Z)|(apply Zai Zab;exact Z)|(apply Zay Zab;exact Z)|(apply Zaf;(iterate 3 exact Z);exact Go.Zqn)|(apply Zao;(iterate 3 exact Z);exact Go.Zqn)|(apply Zak;exact Z;exact Go.Zqn;exact Z;exact Z)|(apply Zah;exact Z;exact Go.Zqn;exact Z;exact Z)|(apply Zac;exact Z;exact Go.Zqn)|(apply Zal Zab;(iterate 4 exact Z)))
   all_goals(apply Zax [];(apply Zad Zab;exact Z);(iterate 4 exact Z))
   all_goals rfl
  ·have t2:decide ((([c,c1].map E.byte).length:Int)<((4:Nat):Int))=true:=Zn6 (n:=4) (by simp)
   obtain rfl:0=p:=by rw[<- hp];simp[pt,hn]
   repeat'(first|(apply Zaj Zab;exact Z)|(apply Zai Zab;exact Z)|(apply Zay Zab;exact Z)|(apply Zaf;(iterate 3 exact Z);exact Go.Zqn)|(apply Zao;(iterate 3 exact Z);exact Go.Zqn)|(apply Zak;exact Z;exact Go.Zqn;exact Z;exact Z)|(apply Zah;exact Z;exact Go.Zqn;exact Z;exact Z)|(apply Zac;exact Z;exact Go.Zqn)|(apply Zal Zab;(iterate 4 exact Z)))
   all_goals(apply Zax [];(apply Zad Zab;exact Z);(iterate 4 exact Z))
   all_goals rfl
  ·have t2:decide ((([c,c1,c2].map E.byte).length:Int)<((4:Nat):Int))=true:=Zn6 (n:=4) (by simp)
   obtain rfl:0=p:=by rw[<- hp];simp[pt,hn]
   repeat'(first|(apply Zaj Zab;exact Z)|(apply Zai Zab;exact Z)|(apply Zay Zab;exact Z)|(apply Zaf;(iterate 3 exact Z);exact Go.Zqn)|(apply Zao;(iterate 3 exact Z);exact Go.Zqn)|(apply Zak;exact Z;exact Go.Zqn;exact Z;exact Z)|(apply Zah;exact Z;exact Go.Zqn;exact Z;exact Z)|(apply Zac;exact Z;exact Go.Zqn)|(apply Zal Zab;(iterate 4 exact Z)))
   all_goals(apply Zax [];(apply Zad Zab;exact Z);(iterate 4 exact Z))
   all_goals rfl
  ·have t2:decide ((((c::c1::c2::c3::r).map E.byte).length:Int)<((4:Nat):Int))=false:=Zpn (n:=4) (by simp)
   have hv1:((c::c1::c2::c3::r).map E.byte)[Int.toNat 1]?=some (.int .u8 (c1.toNat:Int)):=rfl
   have w1:=Zb8 c1.toNat (Zct c.toNat) (Zcu c.toNat)
   have w2:=Zb8 c2.toNat 128 191
   have w3:=Zb8 c3.toNat 128 191
   cases hin:inB c1.toNat (Zct c.toNat) (Zcu c.toNat)
   ·obtain rfl:0=p:=by rw[<- hp];simp[pt,hn,hin]
    rw[hin]at w1
    repeat'(first|(apply Zaa (w1);kernel_rfl;(iterate 4 exact Z))|(apply Zaj Zab;exact Z)|(apply Zai Zab;exact Z)|(apply Zay Zab;exact Z)|(apply Zaf;(iterate 3 exact Z);exact Go.Zqn)|(apply Zah;exact Z;exact Go.Zqn;exact Z;exact Z)|(apply Zac;exact Z;exact Go.Zqn)|(apply Zal Zab;(iterate 4 exact Z))|(apply Zat Zab;(iterate 6 exact Z);(first|exact Go.Zqn|rotate_left);(first|with_reducible assumption|decide +kernel|exact Z);(first|exact Zag rfl|with_reducible assumption|decide +kernel|rotate_left)))
    all_goals(apply Zax [];(apply Zad Zab;exact Z);(iterate 4 exact Z))
    all_goals rfl
   ·rw[hin]at w1
    cases hi2:inB c2.toNat 128 191
    ·obtain rfl:0=p:=by rw[<- hp];simp[pt,hn,hin,hi2]
     rw[hi2]at w2
     repeat'(first|(apply Zaa (w1);kernel_rfl;(iterate 4 exact Z))|(apply Zaa (w2);kernel_rfl;(iterate 4 exact Z))|refine Zbj 70 ?_|refine Zby ?_|(apply Zaj Zab;exact Z)|(apply Zai Zab;exact Z)|(apply Zay Zab;exact Z)|(apply Zaf;(iterate 3 exact Z);exact Go.Zqn)|(apply Zah;exact Z;exact Go.Zqn;exact Z;exact Z)|(apply Zac;exact Z;exact Go.Zqn)|(apply Zae;exact Z;exact Go.Zqn)|refine ZbI ?_|(apply Zal Zab;(iterate 4 exact Z))|(apply Zat Zab;(iterate 6 exact Z);(first|exact Go.Zqn|rotate_left);(first|with_reducible assumption|decide +kernel|exact Z);(first|exact Zag rfl|with_reducible assumption|decide +kernel|rotate_left)))
     all_goals(apply Zax [];(apply Zad Zab;exact Z);(iterate 4 exact Z))
     all_goals rfl
    ·rw[hi2]at w2
     cases hi3:inB c3.toNat 128 191
     ·obtain rfl:0=p:=by rw[<- hp];simp[pt,hn,hin,hi2,hi3]
      rw[hi3]at w3
      repeat'(first|(apply Zaa (w1);kernel_rfl;(iterate 4 exact Z))|(apply Zaa (w2);kernel_rfl;(iterate 4 exact Z))|(apply Zaa (w3);kernel_rfl;(iterate 4 exact Z))|refine Zbj 70 ?_|refine Zby ?_|(apply Zaj Zab;exact Z)|(apply Zai Zab;exact Z)|(apply Zay Zab;exact Z)|(apply Zaf;(iterate 3 exact Z);exact Go.Zqn)|(apply Zah;exact Z;exact Go.Zqn;exact Z;exact Z)|(apply Zac;exact Z;exact Go.Zqn)|(apply Zae;exact Z;exact Go.Zqn)|refine ZbI ?_|(apply Zal Zab;(iterate 4 exact Z))|(apply Zat Zab;(iterate 6 exact Z);(first|exact Go.Zqn|rotate_left);(first|with_reducible assumption|decide +kernel|exact Z);(first|exact Zag rfl|with_reducible assumption|decide +kernel|rotate_left)))
      all_goals(apply Zax [];(apply Zad Zab;exact Z);(iterate 4 exact Z))
      all_goals rfl
     ·obtain rfl:4=p:=by rw[<- hp];simp[pt,hn,hin,hi2,hi3]
      rw[hi3]at w3
      repeat'(first|(apply Zaa (w1);kernel_rfl;(iterate 4 exact Z))|(apply Zaa (w2);kernel_rfl;(iterate 4 exact Z))|(apply Zaa (w3);kernel_rfl;(iterate 4 exact Z))|refine Zbj 70 ?_|refine Zby ?_|(apply Zaj Zab;exact Z)|(apply Zai Zab;exact Z)|(apply Zay Zab;exact Z)|(apply Zaf;(iterate 3 exact Z);exact Go.Zqn)|(apply Zah;exact Z;exact Go.Zqn;exact Z;exact Z)|(apply Zac;exact Z;exact Go.Zqn)|(apply Zae;exact Z;exact Go.Zqn)|(apply Zal Zab;(iterate 4 exact Z))|(apply Zat Zab;(iterate 6 exact Z);(first|exact Go.Zqn|rotate_left);(first|with_reducible assumption|decide +kernel|exact Z);(first|exact Zag rfl|with_reducible assumption|decide +kernel|rotate_left)))
      all_goals(apply Zax [];(apply Zad Zab;exact Z);(iterate 4 exact Z))
      all_goals rfl
 ·obtain rfl:0=p:=by rw[<- hp];simp[pt,hn]
  repeat'(first|(apply Zaj Zab;exact Z)|(apply Zai Zab;exact Z)|(apply Zay Zab;exact Z)|(apply Zao;(iterate 3 exact Z);exact Go.Zqn)|(apply Zak;exact Z;exact Go.Zqn;exact Z;exact Z)|(apply Zac;exact Z;exact Go.Zqn))
  all_goals(apply Zax [];(apply Zad Zab;exact Z);(iterate 4 exact Z))
  all_goals rfl
theorem Zh3 [Known](b:List UInt8)(hb:b.length<=140737488351232):AP Tryz.prog 193 [byE b] (.bool (ZaD b)) []:=by
 generalize hV:ZaD b=V
 refine AP.ofA ?_
 refine Zap Tryz.func193 rfl Tryz.ntmps193 rfl rfl ?_
 repeat'(first|(apply Zai Zab;exact Z))
 refine ZaC (fun k tm bx fr=>∃ l:List UInt8,k=l.length/\l.length<=b.length/\ZaD l=V/\tm=[(0,byE l),(2,.bool false)]/\bx=[]/\fr=[]) (b.length+1) (Lands.mk' (m:=b.length) (Nat.lt_succ_self _) ⟨b,rfl,Nat.le_refl _,hV,rfl,rfl,rfl⟩ ?_ rfl rfl rfl rfl rfl rfl) ?_
 ·exact .cons rfl (.cons rfl .nil)
 rintro k tm bx fr ⟨l,rfl,hl,hV,rfl,rfl,rfl⟩
 rcases l with _|⟨c,r⟩
 ·have hV:true=V:=hV
  subst hV
  repeat'(first|(apply Zaj Zab;exact Z)|(apply Zai Zab;exact Z)|(apply Zay Zab;exact Z)|(apply Zae;exact Z;exact Go.Zqn)|(apply Zal Zab;(iterate 4 exact Z)))
  all_goals(apply Zax [];(apply Zad Zab;exact Z);(iterate 4 exact Z))
  all_goals rfl
 ·have t1:decide ((((c::r).map E.byte).length:Int)>0)=true:=decide_eq_true (by rw[List.length_map,List.length_cons];omega)
  have hP:=Zma c r
  have hle:=Zpe (c::r)
  rw[Zbo]at hV
  cases hp:pt (c::r) with
  | zero=>
   rw[hp]at hP hV
   dsimp only at hV
   subst hV
   repeat'(first|(apply Zaa (hP);kernel_rfl;(iterate 4 exact Z))|(apply Zaj Zab;exact Z)|(apply Zai Zab;exact Z)|(apply Zay Zab;exact Z)|(apply Zac;exact Z;exact Go.Zqn)|refine ZbI ?_|(apply Zal Zab;(iterate 4 exact Z)))
   all_goals(apply Zax [];(apply Zad Zab;exact Z);(iterate 4 exact Z))
   all_goals rfl
  | succ q=>
   rw[hp]at hP hV hle
   dsimp only at hV
   have t2:(((q+1:Nat):Int)==0)=false:=by simp;omega
   have hdr:(c::r).drop (Int.toNat ((q+1:Nat):Int))=r.drop q:=by rw[Int.toNat_natCast,List.drop_succ_cons]
   have hdl:(r.drop q).length=r.length-q:=List.length_drop ..
   generalize r.drop q=r2 at hV hdr hdl
   repeat'(first|(apply Zaa (hP);kernel_rfl;(iterate 4 exact Z))|(apply ZcC Zab;(iterate 8 exact Z);exact Go.Zqo;(first|with_reducible assumption|decide|(simp only[List.length_cons,List.length_drop,List.length_take,List.length_append,Int.toNat_natCast]at *;omega));(first|with_reducible assumption|exact Z))|(apply Zaj Zab;exact Z)|(apply Zai Zab;exact Z)|(apply Zay Zab;exact Z)|(apply Zac;exact Z;exact Go.Zqn)|(apply Zae;exact Z;exact Go.Zqn)|(apply Zal Zab;(iterate 4 exact Z)))
   refine Lands.mk' (m:=r2.length) (by rw[List.length_cons];omega) ⟨r2,rfl,by simp at hl ⊢;omega,hV,rfl,rfl,rfl⟩ ?_ rfl rfl rfl rfl rfl rfl
   exact .cons rfl (.cons rfl .nil)
end Go.Proofs.YtakblclkflnnpaaGreatDoor
end
section
open Go.RowKit Go.Pl Go.Av
namespace Go.Proofs.YtakblclkflnnpaaGreatDoor
set_option maxHeartbeats 4000000
mutual
def Za3:It->Nat->Int->Int
 | .mk k n b l,d,m=>if 9<d then -1 else if 3000<b.length then -1 else Zbg l (d+1) (m-1)
def Zbg:List It->Nat->Int->Int
 | [],_,m=>m
 | x::l,d,m=>if m<0 then m else Zbg l d (Za3 x d m)
end
mutual
theorem ZcZ:∀(x:It) (d:Nat) (m:Int),0<=m->Za3 x d m<m /\ -1<=Za3 x d m
 | .mk k n b l,d,m,h=>by
  rw[Za3]
  split
  ·omega
  ·split
   ·omega
   ·have:=Zc0 l (d+1) (m-1) (by omega);omega
theorem Zc0:∀(l:List It) (d:Nat) (m:Int),-1<=m->Zbg l d m<=m /\ -1<=Zbg l d m
 | [],_,m,h=>by rw[Zbg];omega
 | x::l,d,m,h=>by
  rw[Zbg]
  split
  ·omega
  ·have h1:=ZcZ x d m (by omega)
   have h2:=Zc0 l d (Za3 x d m) (by omega)
   omega
end
mutual
def nI:It->Prop
 | .mk _ n _ l=>n<18446744073709551616/\nIs l
def nIs:List It->Prop
 | []=>True
 | x::l=>nI x/\nIs l
end
mutual
def Zbr:It->Nat->Bool
 | .mk _ _ _ l,d=>match d with
  | 0=>false
  | d+1=>ZbQ l d
def ZbQ:List It->Nat->Bool
 | [],_=>true
 | x::l,d=>Zbr x d&&ZbQ l d
end
mutual
theorem ZeU:∀(x:It) (d:Nat) (m:Int),m<=400->0<=Za3 x d m->nI x->wfI x/\(Za1 x).length<=3009*(m-Za3 x d m)/\m-Za3 x d m ≥ 1/\Zbr x (10-d)=true
 | .mk k n b l,d,m,hm,h,hn=>by
  rw[Za3]at h ⊢
  split at h
  ·omega
  split at h
  ·omega
  rename_i h1 h2
  rw[if_neg h1,if_neg h2]
  obtain⟨q1,q2,q3,q4⟩:=Zfl l (d+1) (m-1) (by omega) h hn.2
  refine⟨⟨hn.1,by omega,by omega,q1⟩,?_,by omega,?_⟩
  ·rw[Za1]
   have hw:(if Zbh (k,(It.mk k n b l).hn,false) then ZaV (k,(It.mk k n b l).hn,false) else []).length<=9:=by
    split
    ·rename_i hr;rw[Zcq _ hr];exact Zl7 _
    ·exact Nat.zero_le _
   rw[List.length_append,List.length_append]
   omega
  ·obtain⟨e,he⟩:∃ e,10-d=e+1:=⟨9-d,by omega⟩
   rw[he,Zbr]
   rw[show 10-(d+1)=e by omega]at q4
   exact q4
theorem Zfl:∀(l:List It) (d:Nat) (m:Int),m<=400->0<=Zbg l d m->nIs l->wfs l/\(Za0 l).length<=3009*(m-Zbg l d m)/\m-Zbg l d m ≥ l.length/\ZbQ l (10-d)=true
 | [],_,m,_,h,hn=>by simp[wfs,Za0,Zbg,ZbQ]
 | x::l,d,m,hm,h,hn=>by
  rw[Zbg]at h ⊢
  split at h
  ·omega
  rename_i h1
  rw[if_neg h1]
  have h0:0<=Za3 x d m:=by
   rcases Int.lt_or_le (Za3 x d m) 0 with hlt|hge
   ·have:=Zc0 l d (Za3 x d m) (by have:=ZcZ x d m (by omega);omega);omega
   ·exact hge
  obtain⟨q1,q2,q3,q4⟩:=ZeU x d m hm h0 hn.1
  obtain⟨r1,r2,r3,r4⟩:=Zfl l d _ (by have:=ZcZ x d m (by omega);omega) h hn.2
  refine⟨⟨q1,r1⟩,?_,?_,?_⟩
  ·rw[Za0,List.length_append];omega
  ·rw[List.length_cons];omega
  ·rw[ZbQ,q4,r4];rfl
end
theorem Zmb [Known]:∀(x:It) (d:Nat) (m:Int),d<=10->0<=m->m<=400->AP Tryz.prog 13 [itD x,.int .i64 (d:Int),.int .i64 m] (.int .i64 (Za3 x d m)) []:=by
 refine It.ind fun k n b l ih d m hd hm hm'=>?_
 have hlen:=Zan l
 have hbl:(b.map E.byte).length=b.length:=List.length_map ..
 show AP Tryz.prog _ [.agg (itC k n b l),_,_] _ _
 rw[Za3]
 have em:0<=m->IntKind.i64.wrap (m-1)=m-1:=fun h=>by rw[IntWalk.i64_in _ (by omega)]
 have ed:IntKind.i64.wrap ((d:Int)+1)=((d+1:Nat):Int):=by rw[IntWalk.i64_in _ (by omega)];omega
 by_cases hd9:9<d
 ·rw[if_pos hd9]
  have t1:decide ((d:Int)>9)=true:=by simp;omega
  refine AP.ofA ?_
  refine Zap Tryz.func13 rfl Tryz.ntmps13 rfl rfl ?_
  repeat'(first|(apply Zaj Zab;exact Z)|(apply Zai Zab;exact Z)|(apply Zay Zab;exact Z)|(apply Zao;(iterate 3 exact Z);exact Go.Zqn)|(apply Zak;exact Z;exact Go.Zqn;exact Z;exact Z)|(apply Zac;exact Z;exact Go.Zqn))
  all_goals(apply Zax [];(apply Zad Zab;exact Z);(iterate 4 exact Z))
  all_goals rfl
 have t1:decide ((d:Int)>9)=false:=by simp;omega
 rw[if_neg hd9]
 by_cases hb:3000<b.length
 ·rw[if_pos hb]
  have t2:decide ((((b.map E.byte).length:Nat):Int)>3000)=true:=by rw[hbl];simp;omega
  refine AP.ofA ?_
  refine Zap Tryz.func13 rfl Tryz.ntmps13 rfl rfl ?_
  repeat'(first|(apply Zaj Zab;exact Z)|(apply Zai Zab;exact Z)|(apply Zay Zab;exact Z)|(apply Zaf;(iterate 3 exact Z);exact Go.Zqn)|(apply Zah;exact Z;exact Go.Zqn;exact Z;exact Z)|(apply Zac;exact Z;exact Go.Zqn)|(apply Zal Zab;(iterate 4 exact Z)))
  all_goals(apply Zax [];(apply Zad Zab;exact Z);(iterate 4 exact Z))
  all_goals rfl
 have t2:decide ((((b.map E.byte).length:Nat):Int)>3000)=false:=by rw[hbl];simp;omega
 rw[if_neg hb]
 generalize hfin:Zbg l (d+1) (m-1)=fin
 have em:=em hm
 refine AP.ofA ?_
 refine Zap Tryz.func13 rfl Tryz.ntmps13 rfl rfl ?_
 repeat'(first|rw[em]|(apply Zaj Zab;exact Z)|(apply Zai Zab;exact Z)|(apply Zay Zab;exact Z)|(apply Zaf;(iterate 3 exact Z);exact Go.Zqn)|(apply Zah;exact Z;exact Go.Zqn;exact Z;exact Z)|(apply Zae;exact Z;exact Go.Zqn)|(apply Zal Zab;(iterate 4 exact Z)))
 refine ZaC (fun f tm bx fr=>∃(i:Nat) (m':Int),f+i=l.length /\ -1<=m'/\m'+i<=399/\Zbg (l.drop i) (d+1) m'=fin/\tm=[(1,.int .i64 (d:Int)),(2,.int .i64 m'),(3,.ptr 0 0),(7,.int .i64 (i:Int)),(6,.int .i64 0)]/\bx=[itC k n b l]/\fr=[]) (l.length+1) (Lands.mk' (m:=l.length) (Nat.lt_succ_self _) ⟨0,m-1,rfl,by omega,by omega,hfin,rfl,rfl,rfl⟩ ?_ rfl rfl rfl rfl rfl rfl) ?_
 ·exact .cons rfl (.cons rfl (.cons rfl (.cons rfl (.cons rfl .nil))))
 rintro f tm bx fr ⟨i,m',hf,hm1,hm2,hfin,rfl,rfl,rfl⟩
 have hU:=ZbG l
 rcases Nat.lt_or_ge i l.length with hlt|hge
 ·have hdl:decide ((i:Int)<((Zas l).length:Int))=true:=decide_eq_true (by omega)
  obtain⟨⟨k1,n1,b1,l1⟩,hy⟩:∃ y,l[i]?=some y:=⟨_,List.getElem?_eq_getElem hlt⟩
  have hv:(Zas l)[((i:Nat):Int).toNat]?=some (.agg [.int .i64 k1,.int .u64 (n1:Int),.sl (b1.map E.byte),.sl (Zas l1)]):=by
   rw[Int.toNat_natCast,ZaB,List.getElem?_map,hy];rfl
  have hdr:l.drop i=It.mk k1 n1 b1 l1::l.drop (i+1):=by
   rw[List.drop_eq_getElem_cons hlt];congr 1
   have:=(List.getElem?_eq_some_iff.1 hy).2;exact this
  rw[hdr,Zbg]at hfin
  rcases Int.lt_or_le m' 0 with hml|hmg
  ·have hdm:decide (m' ≥ 0)=false:=decide_eq_false (by omega)
   rw[if_pos hml]at hfin
   subst hfin
   repeat'(first|(apply Zaj Zab;exact Z)|(apply Zai Zab;exact Z)|(apply Zay Zab;exact Z)|(apply Zaf;(iterate 3 exact Z);exact Go.Zqn)|(apply Zak;exact Z;exact Go.Zqn;exact Z;exact Z)|(apply Zae;exact Z;exact Go.Zqn)|(apply Zal Zab;(iterate 4 exact Z)))
   all_goals(apply Zax [];(apply Zad Zab;exact Z);(iterate 4 exact Z))
   all_goals rfl
  ·have hdm:decide (m' ≥ 0)=true:=decide_eq_true (by omega)
   rw[if_neg (by omega)]at hfin
   have hmem:=List.mem_of_getElem? hy
   have hc:=ih _ hmem (d+1) m' (by omega) hmg (by omega)
   have ei:IntKind.i64.wrap ((i:Int)+1)=((i+1:Nat):Int):=by rw[IntWalk.i64_in _ (by omega)];omega
   have hgl:=ZcZ (.mk k1 n1 b1 l1) (d+1) m' hmg
   generalize hgr:Za3 (.mk k1 n1 b1 l1) (d+1) m'=r at hc hfin hgl
   repeat'(first|rw[ed]|rw[ei]|(apply Zaa (hc);kernel_rfl;(iterate 4 exact Z))|(apply Zaj Zab;exact Z)|(apply Zai Zab;exact Z)|(apply Zay Zab;exact Z)|(apply Zaf;(iterate 3 exact Z);exact Go.Zqn)|(apply Zak;exact Z;exact Go.Zqn;exact Z;exact Z)|(apply Zac;exact Z;exact Go.Zqn)|(apply Zal Zab;(iterate 4 exact Z))|(apply Zat Zab;(iterate 6 exact Z);(first|exact Go.Zqn|rotate_left);(first|with_reducible assumption|decide +kernel|exact Z);(first|exact Zag rfl|with_reducible assumption|decide +kernel|rotate_left)))
   refine Lands.mk' (m:=f-1) (by omega) ⟨i+1,r,by omega,by omega,by omega,hfin,rfl,rfl,rfl⟩ ?_ rfl rfl rfl rfl rfl rfl
   exact .cons rfl (.cons rfl (.cons rfl (.cons rfl (.cons rfl .nil))))
 ·have hdl:decide ((i:Int)<((Zas l).length:Int))=false:=decide_eq_false (by omega)
  have hdr:l.drop i=[]:=List.drop_eq_nil_of_le hge
  rw[hdr,Zbg]at hfin
  subst hfin
  repeat'(first|(apply Zaj Zab;exact Z)|(apply Zai Zab;exact Z)|(apply Zay Zab;exact Z)|(apply Zau;(iterate 3 exact Z);exact Go.Zqn)|(apply Zah;exact Z;exact Go.Zqn;exact Z;exact Z)|(apply Zae;exact Z;exact Go.Zqn)|(apply Zal Zab;(iterate 4 exact Z)))
  all_goals(apply Zax [];(apply Zad Zab;exact Z);(iterate 4 exact Z))
  all_goals rfl
end Go.Proofs.YtakblclkflnnpaaGreatDoor
end
section
open Go.RowKit Go.Pl Go.Av
namespace Go.Proofs.YtakblclkflnnpaaGreatDoor
mutual
def Zbt:It->Nat
 | .mk _ _ _ l=>1+Za9 l
def Za9:List It->Nat
 | []=>0
 | x::l=>Zbt x+Za9 l
end
mutual
def ZbB:It->Bool
 | .mk k n b l=>ZdF k n b l&&Zce l
def Zce:List It->Bool
 | []=>true
 | x::l=>ZbB x&&Zce l
end
mutual
theorem ZiU:∀(x:It) (d m:Nat),ZcT x d m=if Zbr x (7-d)=true/\Zbt x<=m/\ZbB x=true then some (m-Zbt x) else none
 | .mk k n b l,d,m=>by
  rw[ZcT]
  split
  ·rename_i h
   rw[if_neg]
   rintro⟨h1,_⟩
   rw[show 7-d=0 by omega,Zbr]at h1
   cases h1
  rename_i hd
  rw[show 7-d=(7-(d+1))+1 by omega,Zbr,Zbt,ZbB]
  split
  ·rename_i h
   rw[if_neg]
   rintro⟨_,h1,_⟩
   omega
  rename_i hm
  cases ho:ZdF k n b l with
  | false=>
   dsimp only
   rw[if_neg]
   rintro⟨_,_,h1⟩
   simp at h1
  | true=>
   dsimp only
   rw[Zhg l (d+1) (m-1),Bool.true_and]
   by_cases h:ZbQ l (7-(d+1))=true/\Za9 l<=m-1/\Zce l=true
   ·rw[if_pos h,if_pos ⟨h.1,by omega,h.2.2⟩]
    congr 1;omega
   ·rw[if_neg h,if_neg]
    exact fun⟨a,b,c⟩=>h ⟨a,by omega,c⟩
theorem Zhg:∀(l:List It) (d m:Nat),Zcl l d m=if ZbQ l (7-d)=true/\Za9 l<=m/\Zce l=true then some (m-Za9 l) else none
 | [],d,m=>by rw[Zcl,if_pos ⟨by rw[ZbQ],by rw[Za9];omega,by rw[Zce]⟩,Za9];rfl
 | x::l,d,m=>by
  rw[Zcl,ZiU x d m,ZbQ,Za9,Zce]
  by_cases h:Zbr x (7-d)=true/\Zbt x<=m/\ZbB x=true
  ·rw[if_pos h]
   dsimp only
   rw[Zhg l d (m-Zbt x),h.1,h.2.2,Bool.true_and,Bool.true_and]
   by_cases h2:ZbQ l (7-d)=true/\Za9 l<=m-Zbt x/\Zce l=true
   ·rw[if_pos h2,if_pos ⟨h2.1,by omega,h2.2.2⟩]
    congr 1;omega
   ·rw[if_neg h2,if_neg]
    exact fun⟨a,b,c⟩=>h2 ⟨a,by omega,c⟩
  ·rw[if_neg h]
   dsimp only
   rw[if_neg]
   rintro⟨a,b,c⟩
   rw[Bool.and_eq_true]at a c
   exact h ⟨a.1,by omega,c.1⟩
end
theorem ZbR (x:It):Zaw x=(Zbr x 6&&(decide (Zbt x<=256)&&ZbB x)):=by
 unfold Zaw
 rw[ZiU]
 split
 ·rename_i h
  obtain⟨a,b,c⟩:=h
  rw[show 7-1=6 from rfl]at a
  simp[a,b,c]
 ·rename_i h
  rw[show 7-1=6 from rfl]at h
  show false=_
  cases h2:(Zbr x 6&&(decide (Zbt x<=256)&&ZbB x)) with
  | false=>rfl
  | true=>
   simp only[Bool.and_eq_true,decide_eq_true_eq]at h2
   exact absurd ⟨h2.1,h2.2.1,h2.2.2⟩ h
mutual
theorem ZdH:∀(x:It) (d e:Nat),Zbr x d=true->d<=e->Zbr x e=true
 | .mk k n b l,0,e,h,_=>by rw[Zbr]at h;cases h
 | .mk k n b l,d+1,0,h,hle=>by omega
 | .mk k n b l,d+1,e+1,h,hle=>by
  rw[Zbr]at h ⊢
  exact ZfY l d e h (by omega)
theorem ZfY:∀(l:List It) (d e:Nat),ZbQ l d=true->d<=e->ZbQ l e=true
 | [],_,_,_,_=>by rw[ZbQ]
 | x::l,d,e,h,hle=>by
  rw[ZbQ,Bool.and_eq_true]at h ⊢
  exact⟨ZdH x d e h.1 hle,ZfY l d e h.2 hle⟩
end
mutual
theorem ZjD:∀(x:It) (d:Nat) (m:Int),0<=Za3 x d m->(Zbt x:Int)=m-Za3 x d m
 | .mk k n b l,d,m,h=>by
  rw[Za3]at h ⊢
  split at h
  ·omega
  split at h
  ·omega
  rename_i h1 h2
  rw[if_neg h1,if_neg h2,Zbt]
  have:=Zfm l (d+1) (m-1) h
  omega
theorem Zfm:∀(l:List It) (d:Nat) (m:Int),0<=Zbg l d m->(Za9 l:Int)=m-Zbg l d m
 | [],d,m,h=>by rw[Zbg,Za9];omega
 | x::l,d,m,h=>by
  rw[Zbg]at h ⊢
  split at h
  ·omega
  rename_i h1
  rw[if_neg h1,Za9]
  have h0:0<=Za3 x d m:=by
   rcases Int.lt_or_le (Za3 x d m) 0 with hlt|hge
   ·have:=Zc0 l d (Za3 x d m) (by have:=ZcZ x d m (by omega);omega);omega
   ·exact hge
  have a:=ZjD x d m h0
  have b:=Zfm l d _ h
  omega
end
end Go.Proofs.YtakblclkflnnpaaGreatDoor
end
