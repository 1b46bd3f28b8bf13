/- The document's texts: which bytes are UTF-8. -/
import Derived.Test.YtakblclkflnnpaaGreatDoorK15
import Derived.Test.YtakblclkflnnpaaGreatDoorK09
import Derived.Test.YtakblclkflnnpaaGreatDoorK16
set_option linter.unusedVariables false
set_option linter.unusedSimpArgs false
section
open Go.RowKit Go.Pl Go.Av
namespace Go.Proofs.YtakblclkflnnpaaGreatDoor
set_option maxHeartbeats 4000000
theorem Zcg [Known](c lo hi:Nat):AP Tryz.prog 218 [.int .u8 (c:Int),.int .u8 (lo:Int),.int .u8 (hi:Int)] (.bool (inB c lo hi)) []:=by
 have e:inB c lo hi=(decide (lo<=c)&&decide (c<=hi)):=rfl
 rw[e]
 by_cases h1:lo<=c
 ·have t1:decide ((c:Int) ≥ (lo:Int))=true:=decide_eq_true (by omega)
  have t2:decide ((c:Int)<=(hi:Int))=decide (c<=hi):=by rw[decide_eq_decide];omega
  rw[decide_eq_true h1,Bool.true_and]
  refine AP.ofA ?_
  refine Zan Tryz.func218 rfl Tryz.ntmps218 rfl rfl ?_
  repeat'(first|rw[t2]|(apply Zaj Zab;exact Z)|(apply Zah Zab;exact Z)|(apply Zae;(iterate 3 exact Z);exact Go.ZrJ)|(apply Zak;exact Z;exact Go.ZrJ;exact Z;exact Z))
  all_goals(apply Zaw [];(apply Zad Zab;exact Z);(iterate 4 exact Z))
  all_goals rfl
 ·have t1:decide ((c:Int) ≥ (lo:Int))=false:=decide_eq_false (by omega)
  rw[decide_eq_false h1,Bool.false_and]
  refine AP.ofA ?_
  refine Zan Tryz.func218 rfl Tryz.ntmps218 rfl rfl ?_
  repeat'(first|(apply Zaj Zab;exact Z)|(apply Zah Zab;exact Z)|(apply Zas;(iterate 3 exact Z);exact Go.ZrJ)|(apply Zag;exact Z;exact Go.ZrJ;exact Z;exact Z))
  all_goals(apply Zaw [];(apply Zad Zab;exact Z);(iterate 4 exact Z))
  all_goals rfl
theorem Zpx (c:Nat)(h:128<=c):(inB c 194 223=true/\ptN c=2)
  \/ (inB c 194 223=false/\inB c 224 239=true/\ptN c=3)
  \/ (inB c 194 223=false/\inB c 224 239=false/\inB c 240 244=true/\ptN c=4)
  \/ (inB c 194 223=false/\inB c 224 239=false/\inB c 240 244=false/\ptN c=0):=by
 have f:∀ lo hi:Nat,inB c lo hi=decide (lo<=c/\c<=hi):=fun lo hi=>by unfold inB;rw[Bool.decide_and]
 unfold ptN
 rw[f,f,f]
 simp only[decide_eq_true_eq,decide_eq_false_iff_not]
 (repeat' split)<;>omega
theorem eqB (c k:Nat):((c:Int)==(k:Int))=decide (c=k):=by rw[Bool.eq_iff_iff,beq_iff_eq,decide_eq_true_eq];omega
theorem Zqk (c:Nat):(Zcy c:Int)=if((c:Int)==224)=true then 160 else if((c:Int)==237)=true then 128 else if((c:Int)==240)=true then 144 else 128:=by
 have e1:((c:Int)==224)=decide (c=224):=eqB c 224
 have e2:((c:Int)==237)=decide (c=237):=eqB c 237
 have e3:((c:Int)==240)=decide (c=240):=eqB c 240
 rw[e1,e2,e3]
 unfold Zcy
 simp only[decide_eq_true_eq]
 (repeat' split)<;>omega
theorem Zql (c:Nat):(Zcz c:Int)=if((c:Int)==224)=true then 191 else if((c:Int)==237)=true then 159 else if((c:Int)==240)=true then 191 else if((c:Int)==244)=true then 143 else 191:=by
 have e1:((c:Int)==224)=decide (c=224):=eqB c 224
 have e2:((c:Int)==237)=decide (c=237):=eqB c 237
 have e3:((c:Int)==240)=decide (c=240):=eqB c 240
 have e4:((c:Int)==244)=decide (c=244):=eqB c 244
 rw[e1,e2,e3,e4]
 unfold Zcz
 simp only[decide_eq_true_eq]
 (repeat' split)<;>omega
theorem Zo1 {α:Type}{f:α->E}{b:List α}{n:Nat}(h:b.length<n):decide (((b.map f).length:Int)<(n:Int))=true:=decide_eq_true (by rw[List.length_map];omega)
theorem Zqm {α:Type}{f:α->E}{b:List α}{n:Nat}(h:n<=b.length):decide (((b.map f).length:Int)<(n:Int))=false:=decide_eq_false (by rw[List.length_map];omega)
theorem ZmS [Known](c:UInt8)(r:List UInt8):AP Tryz.prog 208 [byE (c::r)] (.int .i64 (pt (c::r):Int)) []:=by
 have hU:=Zbm (c::r)
 have hv0:((c::r).map E.byte)[Int.toNat 0]?=some (.int .u8 (c.toNat:Int)):=rfl
 by_cases h1:c.toNat<128
 ·have t1:decide ((c.toNat:Int)<128)=true:=decide_eq_true (by omega)
  have e:pt (c::r)=1:=by simp[pt,ptN,h1]
  rw[e]
  refine AP.ofA ?_
  refine Zan Tryz.func208 rfl Tryz.ntmps208 rfl rfl ?_
  repeat'(first|(apply Zaj Zab;exact Z)|(apply Zah Zab;exact Z)|(apply Zav Zab;exact Z)|(apply Zac;exact Z;exact Go.ZrJ)|(apply Zau Zab;(iterate 6 exact Z);(first|exact Go.ZrJ|rotate_left);(first|with_reducible assumption|decide +kernel|exact Z);(first|exact Zai rfl|with_reducible assumption|decide +kernel|rotate_left)))
  all_goals(apply Zaw [];(apply Zad Zab;exact Z);(iterate 4 exact Z))
  all_goals rfl
 have t1:decide ((c.toNat:Int)<128)=false:=decide_eq_false (by omega)
 have w1:=Zcg c.toNat 194 223
 have w2:=Zcg c.toNat 224 239
 have w3:=Zcg c.toNat 240 244
 have hF:=Zpx c.toNat (by omega)
 have hlo:=Zqk c.toNat
 have hhi:=Zql c.toNat
 generalize hp:pt (c::r)=p
 refine AP.ofA ?_
 refine Zan Tryz.func208 rfl Tryz.ntmps208 rfl rfl ?_
 rcases hF with⟨i1,hn⟩ | ⟨i1,i2,hn⟩ | ⟨i1,i2,i3,hn⟩ | ⟨i1,i2,i3,hn⟩
 all_goals
  repeat'(first|(apply Zaa (w1);kernel_rfl;(iterate 4 exact Z))|(apply Zaa (w2);kernel_rfl;(iterate 4 exact Z))|(apply Zaa (w3);kernel_rfl;(iterate 4 exact Z))|refine ZmG 1 (fun tm bx fr=>tm=[(0,byE (c::r)),(4,.int .i64 (ptN c.toNat:Int)),(5,.int .u8 (Zcy c.toNat:Int)),(6,.int .u8 (Zcz c.toNat:Int))]/\bx=[]/\fr=[]) ?_ ?_|(apply Zaj Zab;exact Z)|(apply Zah Zab;exact Z)|(apply Zav Zab;exact Z)|(apply Zac;exact Z;exact Go.ZrJ)|(apply Zaf;exact Z;exact Go.ZrJ)|(apply Zbw;exact Z;all_goals intro hb)|refine Zbi ?_|(apply Zau Zab;(iterate 6 exact Z);(first|exact Go.ZrJ|rotate_left);(first|with_reducible assumption|decide +kernel|exact Z);(first|exact Zai rfl|with_reducible assumption|decide +kernel|rotate_left)))
  all_goals first
   | (refine Lands.mk' (m:=0) (by decide) ⟨rfl,rfl,rfl⟩ ?_ rfl rfl rfl rfl rfl rfl
      exact .cons rfl (.cons (by rw[hn];rfl) (.cons (by simp only[hlo, *];rfl) (.cons (by simp only[hhi, *];rfl) .nil))))
   | skip
 all_goals
  rintro tm bx fr ⟨rfl,rfl,rfl⟩
  rw[hn]
  clear hlo hhi t1 w1 w2 w3 h1
  try clear i1
  try clear i2
  try clear i3
 ·rcases r with _|⟨c1,r⟩
  ·have t2:decide ((([c].map E.byte).length:Int)<((2:Nat):Int))=true:=Zo1 (n:=2) (by simp)
   obtain rfl:0=p:=by rw[<- hp];simp[pt,hn]
   repeat'(first|(apply Zaj Zab;exact Z)|(apply Zah Zab;exact Z)|(apply Zav Zab;exact Z)|(apply Zae;(iterate 3 exact Z);exact Go.ZrJ)|(apply Zal;(iterate 3 exact Z);exact Go.ZrJ)|(apply Zak;exact Z;exact Go.ZrJ;exact Z;exact Z)|(apply Zag;exact Z;exact Go.ZrJ;exact Z;exact Z)|(apply Zac;exact Z;exact Go.ZrJ)|(apply Zam Zab;(iterate 4 exact Z)))
   all_goals(apply Zaw [];(apply Zad Zab;exact Z);(iterate 4 exact Z))
   all_goals rfl
  ·have t2:decide ((((c::c1::r).map E.byte).length:Int)<((2:Nat):Int))=false:=Zqm (n:=2) (by simp)
   have hv1:((c::c1::r).map E.byte)[Int.toNat 1]?=some (.int .u8 (c1.toNat:Int)):=rfl
   have w1:=Zcg c1.toNat (Zcy c.toNat) (Zcz c.toNat)
   cases hin:inB c1.toNat (Zcy c.toNat) (Zcz c.toNat)
   ·obtain rfl:0=p:=by rw[<- hp];simp[pt,hn,hin]
    rw[hin]at w1
    repeat'(first|(apply Zaa (w1);kernel_rfl;(iterate 4 exact Z))|(apply Zaj Zab;exact Z)|(apply Zah Zab;exact Z)|(apply Zav Zab;exact Z)|(apply Zae;(iterate 3 exact Z);exact Go.ZrJ)|(apply Zag;exact Z;exact Go.ZrJ;exact Z;exact Z)|(apply Zac;exact Z;exact Go.ZrJ)|(apply Zam Zab;(iterate 4 exact Z))|(apply Zau Zab;(iterate 6 exact Z);(first|exact Go.ZrJ|rotate_left);(first|with_reducible assumption|decide +kernel|exact Z);(first|exact Zai rfl|with_reducible assumption|decide +kernel|rotate_left)))
    all_goals(apply Zaw [];(apply Zad Zab;exact Z);(iterate 4 exact Z))
    all_goals rfl
   ·obtain rfl:2=p:=by rw[<- hp];simp[pt,hn,hin]
    rw[hin]at w1
    repeat'(first|(apply Zaa (w1);kernel_rfl;(iterate 4 exact Z))|refine Zbf 70 ?_|refine Zbs ?_|(apply Zaj Zab;exact Z)|(apply Zah Zab;exact Z)|(apply Zav Zab;exact Z)|(apply Zae;(iterate 3 exact Z);exact Go.ZrJ)|(apply Zag;exact Z;exact Go.ZrJ;exact Z;exact Z)|(apply Zaf;exact Z;exact Go.ZrJ)|(apply Zam Zab;(iterate 4 exact Z))|(apply Zau Zab;(iterate 6 exact Z);(first|exact Go.ZrJ|rotate_left);(first|with_reducible assumption|decide +kernel|exact Z);(first|exact Zai rfl|with_reducible assumption|decide +kernel|rotate_left)))
    all_goals(apply Zaw [];(apply Zad Zab;exact Z);(iterate 4 exact Z))
    all_goals rfl
 ·rcases r with _|⟨c1,_|⟨c2,r⟩⟩
  ·have t2:decide ((([c].map E.byte).length:Int)<((3:Nat):Int))=true:=Zo1 (n:=3) (by simp)
   obtain rfl:0=p:=by rw[<- hp];simp[pt,hn]
   repeat'(first|(apply Zaj Zab;exact Z)|(apply Zah Zab;exact Z)|(apply Zav Zab;exact Z)|(apply Zae;(iterate 3 exact Z);exact Go.ZrJ)|(apply Zal;(iterate 3 exact Z);exact Go.ZrJ)|(apply Zak;exact Z;exact Go.ZrJ;exact Z;exact Z)|(apply Zag;exact Z;exact Go.ZrJ;exact Z;exact Z)|(apply Zac;exact Z;exact Go.ZrJ)|(apply Zam Zab;(iterate 4 exact Z)))
   all_goals(apply Zaw [];(apply Zad Zab;exact Z);(iterate 4 exact Z))
   all_goals rfl
  ·have t2:decide ((([c,c1].map E.byte).length:Int)<((3:Nat):Int))=true:=Zo1 (n:=3) (by simp)
   obtain rfl:0=p:=by rw[<- hp];simp[pt,hn]
   repeat'(first|(apply Zaj Zab;exact Z)|(apply Zah Zab;exact Z)|(apply Zav Zab;exact Z)|(apply Zae;(iterate 3 exact Z);exact Go.ZrJ)|(apply Zal;(iterate 3 exact Z);exact Go.ZrJ)|(apply Zak;exact Z;exact Go.ZrJ;exact Z;exact Z)|(apply Zag;exact Z;exact Go.ZrJ;exact Z;exact Z)|(apply Zac;exact Z;exact Go.ZrJ)|(apply Zam Zab;(iterate 4 exact Z)))
   all_goals(apply Zaw [];(apply Zad Zab;exact Z);(iterate 4 exact Z))
   all_goals rfl
  ·have t2:decide ((((c::c1::c2::r).map E.byte).length:Int)<((3:Nat):Int))=false:=Zqm (n:=3) (by simp)
   have hv1:((c::c1::c2::r).map E.byte)[Int.toNat 1]?=some (.int .u8 (c1.toNat:Int)):=rfl
   have w1:=Zcg c1.toNat (Zcy c.toNat) (Zcz c.toNat)
   have w2:=Zcg c2.toNat 128 191
   cases hin:inB c1.toNat (Zcy c.toNat) (Zcz c.toNat)
   ·obtain rfl:0=p:=by rw[<- hp];simp[pt,hn,hin]
    rw[hin]at w1
    repeat'(first|(apply Zaa (w1);kernel_rfl;(iterate 4 exact Z))|(apply Zaj Zab;exact Z)|(apply Zah Zab;exact Z)|(apply Zav Zab;exact Z)|(apply Zae;(iterate 3 exact Z);exact Go.ZrJ)|(apply Zag;exact Z;exact Go.ZrJ;exact Z;exact Z)|(apply Zac;exact Z;exact Go.ZrJ)|(apply Zam Zab;(iterate 4 exact Z))|(apply Zau Zab;(iterate 6 exact Z);(first|exact Go.ZrJ|rotate_left);(first|with_reducible assumption|decide +kernel|exact Z);(first|exact Zai rfl|with_reducible assumption|decide +kernel|rotate_left)))
    all_goals(apply Zaw [];(apply Zad Zab;exact Z);(iterate 4 exact Z))
    all_goals rfl
   ·cases hi2:inB c2.toNat 128 191
    all_goals
     rw[hin]at w1
     rw[hi2]at w2
    ·obtain rfl:0=p:=by rw[<- hp];simp[pt,hn,hin,hi2]
     repeat'(first|(apply Zaa (w1);kernel_rfl;(iterate 4 exact Z))|(apply Zaa (w2);kernel_rfl;(iterate 4 exact Z))|refine Zbf 70 ?_|refine Zbs ?_|(apply Zaj Zab;exact Z)|(apply Zah Zab;exact Z)|(apply Zav Zab;exact Z)|(apply Zae;(iterate 3 exact Z);exact Go.ZrJ)|(apply Zag;exact Z;exact Go.ZrJ;exact Z;exact Z)|(apply Zac;exact Z;exact Go.ZrJ)|(apply Zaf;exact Z;exact Go.ZrJ)|refine Zbj ?_|(apply Zam Zab;(iterate 4 exact Z))|(apply Zau Zab;(iterate 6 exact Z);(first|exact Go.ZrJ|rotate_left);(first|with_reducible assumption|decide +kernel|exact Z);(first|exact Zai rfl|with_reducible assumption|decide +kernel|rotate_left)))
     all_goals(apply Zaw [];(apply Zad Zab;exact Z);(iterate 4 exact Z))
     all_goals rfl
    ·obtain rfl:3=p:=by rw[<- hp];simp[pt,hn,hin,hi2]
     repeat'(first|(apply Zaa (w1);kernel_rfl;(iterate 4 exact Z))|(apply Zaa (w2);kernel_rfl;(iterate 4 exact Z))|refine Zbf 70 ?_|refine Zbs ?_|(apply Zaj Zab;exact Z)|(apply Zah Zab;exact Z)|(apply Zav Zab;exact Z)|(apply Zae;(iterate 3 exact Z);exact Go.ZrJ)|(apply Zag;exact Z;exact Go.ZrJ;exact Z;exact Z)|(apply Zac;exact Z;exact Go.ZrJ)|(apply Zaf;exact Z;exact Go.ZrJ)|(apply Zam Zab;(iterate 4 exact Z))|(apply Zau Zab;(iterate 6 exact Z);(first|exact Go.ZrJ|rotate_left);(first|with_reducible assumption|decide +kernel|exact Z);(first|exact Zai rfl|with_reducible assumption|decide +kernel|rotate_left)))
     all_goals(apply Zaw [];(apply Zad Zab;exact Z);(iterate 4 exact Z))
     all_goals rfl
 ·rcases r with _|⟨c1,_|⟨c2,_|⟨c3,r⟩⟩⟩
  ·have t2:decide ((([c].map E.byte).length:Int)<((4:Nat):Int))=true:=Zo1 (n:=4) (by simp)
   obtain rfl:0=p:=by rw[<- hp];simp[pt,hn]
   repeat'(first|(apply Zaj Zab;exact Z)|(apply Zah Zab;exact Z)|(apply Zav Zab;exact Z)|(apply Zae;(iterate 3 exact Z);exact Go.ZrJ)|(apply Zal;(iterate 3 exact Z);exact Go.ZrJ)|(apply Zak;exact Z;exact Go.ZrJ;exact Z;exact Z)|(apply Zag;exact Z;exact Go.ZrJ;exact Z;exact Z)|(apply Zac;exact Z;exact Go.ZrJ)|(apply Zam Zab;(iterate 4 exact Z)))
   all_goals(apply Zaw [];(apply Zad Zab;exact Z);(iterate 4 exact Z))
   all_goals rfl
  ·have t2:decide ((([c,c1].map E.byte).length:Int)<((4:Nat):Int))=true:=Zo1 (n:=4) (by simp)
   obtain rfl:0=p:=by rw[<- hp];simp[pt,hn]
   repeat'(first|(apply Zaj Zab;exact Z)|(apply Zah Zab;exact Z)|(apply Zav Zab;exact Z)|(apply Zae;(iterate 3 exact Z);exact Go.ZrJ)|(apply Zal;(iterate 3 exact Z);exact Go.ZrJ)|(apply Zak;exact Z;exact Go.ZrJ;exact Z;exact Z)|(apply Zag;exact Z;exact Go.ZrJ;exact Z;exact Z)|(apply Zac;exact Z;exact Go.ZrJ)|(apply Zam Zab;(iterate 4 exact Z)))
   all_goals(apply Zaw [];(apply Zad Zab;exact Z);(iterate 4 exact Z))
   all_goals rfl
  ·have t2:decide ((([c,c1,c2].map E.byte).length:Int)<((4:Nat):Int))=true:=Zo1 (n:=4) (by simp)
   obtain rfl:0=p:=by rw[<- hp];simp[pt,hn]
   repeat'(first|(apply Zaj Zab;exact Z)|(apply Zah Zab;exact Z)|(apply Zav Zab;exact Z)|(apply Zae;(iterate 3 exact Z);exact Go.ZrJ)|(apply Zal;(iterate 3 exact Z);exact Go.ZrJ)|(apply Zak;exact Z;exact Go.ZrJ;exact Z;exact Z)|(apply Zag;exact Z;exact Go.ZrJ;exact Z;exact Z)|(apply Zac;exact Z;exact Go.ZrJ)|(apply Zam Zab;(iterate 4 exact Z)))
   all_goals(apply Zaw [];(apply Zad Zab;exact Z);(iterate 4 exact Z))
   all_goals rfl
  ·have t2:decide ((((c::c1::c2::c3::r).map E.byte).length:Int)<((4:Nat):Int))=false:=Zqm (n:=4) (by simp)
   have hv1:((c::c1::c2::c3::r).map E.byte)[Int.toNat 1]?=some (.int .u8 (c1.toNat:Int)):=rfl
   have w1:=Zcg c1.toNat (Zcy c.toNat) (Zcz c.toNat)
   have w2:=Zcg c2.toNat 128 191
   have w3:=Zcg c3.toNat 128 191
   cases hin:inB c1.toNat (Zcy c.toNat) (Zcz c.toNat)
   ·obtain rfl:0=p:=by rw[<- hp];simp[pt,hn,hin]
    rw[hin]at w1
    repeat'(first|(apply Zaa (w1);kernel_rfl;(iterate 4 exact Z))|(apply Zaj Zab;exact Z)|(apply Zah Zab;exact Z)|(apply Zav Zab;exact Z)|(apply Zae;(iterate 3 exact Z);exact Go.ZrJ)|(apply Zag;exact Z;exact Go.ZrJ;exact Z;exact Z)|(apply Zac;exact Z;exact Go.ZrJ)|(apply Zam Zab;(iterate 4 exact Z))|(apply Zau Zab;(iterate 6 exact Z);(first|exact Go.ZrJ|rotate_left);(first|with_reducible assumption|decide +kernel|exact Z);(first|exact Zai rfl|with_reducible assumption|decide +kernel|rotate_left)))
    all_goals(apply Zaw [];(apply Zad Zab;exact Z);(iterate 4 exact Z))
    all_goals rfl
   ·rw[hin]at w1
    cases hi2:inB c2.toNat 128 191
    ·obtain rfl:0=p:=by rw[<- hp];simp[pt,hn,hin,hi2]
     rw[hi2]at w2
     repeat'(first|(apply Zaa (w1);kernel_rfl;(iterate 4 exact Z))|(apply Zaa (w2);kernel_rfl;(iterate 4 exact Z))|refine Zbf 70 ?_|refine Zbs ?_|(apply Zaj Zab;exact Z)|(apply Zah Zab;exact Z)|(apply Zav Zab;exact Z)|(apply Zae;(iterate 3 exact Z);exact Go.ZrJ)|(apply Zag;exact Z;exact Go.ZrJ;exact Z;exact Z)|(apply Zac;exact Z;exact Go.ZrJ)|(apply Zaf;exact Z;exact Go.ZrJ)|refine Zbj ?_|(apply Zam Zab;(iterate 4 exact Z))|(apply Zau Zab;(iterate 6 exact Z);(first|exact Go.ZrJ|rotate_left);(first|with_reducible assumption|decide +kernel|exact Z);(first|exact Zai rfl|with_reducible assumption|decide +kernel|rotate_left)))
     all_goals(apply Zaw [];(apply Zad Zab;exact Z);(iterate 4 exact Z))
     all_goals rfl
    ·rw[hi2]at w2
     cases hi3:inB c3.toNat 128 191
     ·obtain rfl:0=p:=by rw[<- hp];simp[pt,hn,hin,hi2,hi3]
      rw[hi3]at w3
      repeat'(first|(apply Zaa (w1);kernel_rfl;(iterate 4 exact Z))|(apply Zaa (w2);kernel_rfl;(iterate 4 exact Z))|(apply Zaa (w3);kernel_rfl;(iterate 4 exact Z))|refine Zbf 70 ?_|refine Zbs ?_|(apply Zaj Zab;exact Z)|(apply Zah Zab;exact Z)|(apply Zav Zab;exact Z)|(apply Zae;(iterate 3 exact Z);exact Go.ZrJ)|(apply Zag;exact Z;exact Go.ZrJ;exact Z;exact Z)|(apply Zac;exact Z;exact Go.ZrJ)|(apply Zaf;exact Z;exact Go.ZrJ)|refine Zbj ?_|(apply Zam Zab;(iterate 4 exact Z))|(apply Zau Zab;(iterate 6 exact Z);(first|exact Go.ZrJ|rotate_left);(first|with_reducible assumption|decide +kernel|exact Z);(first|exact Zai rfl|with_reducible assumption|decide +kernel|rotate_left)))
      all_goals(apply Zaw [];(apply Zad Zab;exact Z);(iterate 4 exact Z))
      all_goals rfl
     ·obtain rfl:4=p:=by rw[<- hp];simp[pt,hn,hin,hi2,hi3]
      rw[hi3]at w3
      repeat'(first|(apply Zaa (w1);kernel_rfl;(iterate 4 exact Z))|(apply Zaa (w2);kernel_rfl;(iterate 4 exact Z))|(apply Zaa (w3);kernel_rfl;(iterate 4 exact Z))|refine Zbf 70 ?_|refine Zbs ?_|(apply Zaj Zab;exact Z)|(apply Zah Zab;exact Z)|(apply Zav Zab;exact Z)|(apply Zae;(iterate 3 exact Z);exact Go.ZrJ)|(apply Zag;exact Z;exact Go.ZrJ;exact Z;exact Z)|(apply Zac;exact Z;exact Go.ZrJ)|(apply Zaf;exact Z;exact Go.ZrJ)|(apply Zam Zab;(iterate 4 exact Z))|(apply Zau Zab;(iterate 6 exact Z);(first|exact Go.ZrJ|rotate_left);(first|with_reducible assumption|decide +kernel|exact Z);(first|exact Zai rfl|with_reducible assumption|decide +kernel|rotate_left)))
      all_goals(apply Zaw [];(apply Zad Zab;exact Z);(iterate 4 exact Z))
      all_goals rfl
 ·obtain rfl:0=p:=by rw[<- hp];simp[pt,hn]
  repeat'(first|(apply Zaj Zab;exact Z)|(apply Zah Zab;exact Z)|(apply Zav Zab;exact Z)|(apply Zal;(iterate 3 exact Z);exact Go.ZrJ)|(apply Zak;exact Z;exact Go.ZrJ;exact Z;exact Z)|(apply Zac;exact Z;exact Go.ZrJ))
  all_goals(apply Zaw [];(apply Zad Zab;exact Z);(iterate 4 exact Z))
  all_goals rfl
theorem ZfI [Known](b:List UInt8)(hb:b.length<=140737488351232):AP Tryz.prog 193 [byE b] (.bool (ZaF b)) []:=by
 generalize hV:ZaF b=V
 refine AP.ofA ?_
 refine Zan Tryz.func193 rfl Tryz.ntmps193 rfl rfl ?_
 repeat'(first|(apply Zah Zab;exact Z))
 refine ZaE (fun k tm bx fr=>∃ l:List UInt8,k=l.length/\l.length<=b.length/\ZaF l=V/\tm=[(0,byE l),(2,.bool false)]/\bx=[]/\fr=[]) (b.length+1) (Lands.mk' (m:=b.length) (Nat.lt_succ_self _) ⟨b,rfl,Nat.le_refl _,hV,rfl,rfl,rfl⟩ ?_ rfl rfl rfl rfl rfl rfl) ?_
 ·exact .cons rfl (.cons rfl .nil)
 rintro k tm bx fr ⟨l,rfl,hl,hV,rfl,rfl,rfl⟩
 rcases l with _|⟨c,r⟩
 ·have hV:true=V:=hV
  subst hV
  repeat'(first|(apply Zaj Zab;exact Z)|(apply Zah Zab;exact Z)|(apply Zav Zab;exact Z)|(apply Zaf;exact Z;exact Go.ZrJ)|(apply Zam Zab;(iterate 4 exact Z)))
  all_goals(apply Zaw [];(apply Zad Zab;exact Z);(iterate 4 exact Z))
  all_goals rfl
 ·have t1:decide ((((c::r).map E.byte).length:Int)>0)=true:=decide_eq_true (by rw[List.length_map,List.length_cons];omega)
  have hP:=ZmS c r
  have hle:=Zpo (c::r)
  rw[Zbn]at hV
  cases hp:pt (c::r) with
  | zero=>
   rw[hp]at hP hV
   dsimp only at hV
   subst hV
   repeat'(first|(apply Zaa (hP);kernel_rfl;(iterate 4 exact Z))|(apply Zaj Zab;exact Z)|(apply Zah Zab;exact Z)|(apply Zav Zab;exact Z)|(apply Zac;exact Z;exact Go.ZrJ)|refine Zbj ?_|(apply Zam Zab;(iterate 4 exact Z)))
   all_goals(apply Zaw [];(apply Zad Zab;exact Z);(iterate 4 exact Z))
   all_goals rfl
  | succ q=>
   rw[hp]at hP hV hle
   dsimp only at hV
   have t2:(((q+1:Nat):Int)==0)=false:=by simp;omega
   have hdr:(c::r).drop (Int.toNat ((q+1:Nat):Int))=r.drop q:=by rw[Int.toNat_natCast,List.drop_succ_cons]
   have hdl:(r.drop q).length=r.length-q:=List.length_drop ..
   generalize r.drop q=r2 at hV hdr hdl
   repeat'(first|(apply Zaa (hP);kernel_rfl;(iterate 4 exact Z))|(apply ZcF Zab;(iterate 8 exact Z);exact Go.ZrK;(first|with_reducible assumption|decide|(simp only[List.length_cons,List.length_drop,List.length_take,List.length_append,Int.toNat_natCast]at *;omega));(first|with_reducible assumption|exact Z))|(apply Zaj Zab;exact Z)|(apply Zah Zab;exact Z)|(apply Zav Zab;exact Z)|(apply Zac;exact Z;exact Go.ZrJ)|(apply Zaf;exact Z;exact Go.ZrJ)|(apply Zam Zab;(iterate 4 exact Z)))
   refine Lands.mk' (m:=r2.length) (by rw[List.length_cons];omega) ⟨r2,rfl,by simp at hl ⊢;omega,hV,rfl,rfl,rfl⟩ ?_ rfl rfl rfl rfl rfl rfl
   exact .cons rfl (.cons rfl .nil)
theorem Ziv [Known](h:Hd):AP Tryz.prog 209 [hd h] (.bool (ZaZ h)) []:=by
 obtain⟨m,n,o⟩:=h
 refine Zan Tryz.func209 rfl Tryz.ntmps209 rfl rfl ?_
 repeat'(first|(apply Zaj Zab;exact Z)|(apply Zah Zab;exact Z)|(apply Zae;(iterate 3 exact Z);(first|with_reducible assumption|(solve|simp only[bn])))|(apply Zas;(iterate 3 exact Z);(first|with_reducible assumption|(solve|simp only[bn])))|(apply Zal;(iterate 3 exact Z);(first|with_reducible assumption|(solve|simp only[bn])))|(apply Zfp;(iterate 3 exact Z))|(apply Zbo;exact Z;exact Z;all_goals intro hb)|(apply Zak;exact Z;(first|with_reducible assumption|(solve|simp only[bn]));exact Z;exact Z)|(apply Zag;exact Z;(first|with_reducible assumption|(solve|simp only[bn]));exact Z;exact Z)|(apply Zbw;exact Z;all_goals intro hb))
 all_goals(apply Zfk (ts:=[]);(apply Zad Zab;exact Z);exact ZaA _;exact Z;rotate_left;exact Z)
 all_goals congr 1
 all_goals(rw[Bool.eq_iff_iff];simp_all [ZaZ,Zid];try omega)
set_option maxRecDepth 20000 in
theorem Zgr [Known](b:List UInt8)(p:Int)(hb:b.length<=4611686018427387904):AP Tryz.prog 195 [byE b,.int .i64 p] (rdD (Ze2 b p)) []:=by
 have HB:=hid hb
 clear hb
 have HU:=Zbm b
 refine Zan Tryz.func195 rfl Tryz.ntmps195 rfl rfl ?_
 repeat'(first|(apply Zaj Zab;exact Z)|(apply Zah Zab;exact Z)|(apply Zav Zab;exact Z)|(apply Zae;(iterate 3 exact Z);(first|with_reducible assumption|(solve|simp only[bn])))|(apply Zal;(iterate 3 exact Z);(first|with_reducible assumption|(solve|simp only[bn])))|(apply Zbo;exact Z;exact Z;all_goals intro hb)|(apply Zak;exact Z;(first|with_reducible assumption|(solve|simp only[bn]));exact Z;exact Z)|(apply Zag;exact Z;(first|with_reducible assumption|(solve|simp only[bn]));exact Z;exact Z)|(apply Zac;exact Z;(first|with_reducible assumption|(solve|simp only[bn])))|(apply Zbw;exact Z;all_goals intro hb)|(apply Zam Zab;(iterate 4 exact Z)))
 ·(apply Zfk (ts:=[]);(apply Zad Zab;exact Z);exact ZaA _;exact Z;rotate_left;exact Z)
  have:p<0:=of_decide_eq_true hb
  rw[show Ze2 b p=_ from if_pos (.inl this)];rfl
 ·(apply Zfk (ts:=[]);(apply Zad Zab;exact Z);exact ZaA _;exact Z;rotate_left;exact Z)
  have:p>((b.map E.byte).length:Int):=of_decide_eq_true hb
  rw[List.length_map]at this
  rw[show Ze2 b p=_ from if_pos (.inr this)];rfl
 ·(apply Zfk (ts:=[]);(apply Zad Zab;exact Z);exact ZaA _;exact Z;rotate_left;exact Z)
  have:p=((b.map E.byte).length:Int):=by simpa using hb
  rw[List.length_map]at this
  have hd:b.drop p.toNat=[]:=by rw[List.drop_eq_nil_iff];omega
  rw[show Ze2 b p=ZbO b p.toNat from if_neg (by omega)]
  unfold ZbO
  rw[hd];rfl
 rename_i g1 g2
 have h0:0<=p:=by have:=of_decide_eq_false g1;omega
 have h1:p<(b.length:Int):=by
  have a1:=of_decide_eq_false g2
  rw[List.length_map]at a1 hb
  have a2:p ≠ (b.length:Int):=by simpa using hb
  omega
 obtain⟨c,r,hd,hl,hv,hr⟩:=Zjs b p h0 h1
 have HH:=hid (show Ze2 b p=ZbO b p.toNat from if_neg (by omega))
 have HD:=hid hd
 have HL:=hid hl
 have HR:=hid hr
 have hc:=c.toNat_lt
 have e1:IntKind.i64.wrap ((c.toNat:Nat):Int)=((c.toNat:Nat):Int):=IntWalk.i64_in _ (by omega)
 have e4:IntKind.i64.wrap (((c.toNat:Nat):Int).tdiv 32)=((c.toNat/32:Nat):Int):=by
  rw[Int.tdiv_eq_ediv_of_nonneg (Int.natCast_nonneg _),IntWalk.i64_in _ (by omega)];omega
 have e5:((c.toNat:Nat):Int).tmod 32=((c.toNat % 32:Nat):Int):=by
  rw[Int.tmod_eq_emod_of_nonneg (Int.natCast_nonneg _)];omega
 have e2:IntKind.u64.wrap ((c.toNat % 32:Nat):Int)=((c.toNat % 32:Nat):Int):=by rw[IntKind.wrap_u64];omega
 have e3:IntKind.i64.wrap (p+1)=((p.toNat+1:Nat):Int):=by have:=HB.out;rw[IntWalk.i64_in _ (by omega)];omega
 clear hb g1 g2 hd hl hr hc
 have hv4:¬ c.toNat % 32<24->¬ 27<c.toNat % 32->[E.int .i64 1,E.int .i64 2,E.int .i64 4,E.int .i64 8][(IntKind.i64.wrap (((c.toNat % 32:Nat):Int)-24)).toNat]?=some (E.int .i64 ((2 ^ (c.toNat % 32-24):Nat):Int))/\0<=IntKind.i64.wrap (((c.toNat % 32:Nat):Int)-24):=by
  generalize c.toNat % 32=v
  intro g1 g2
  obtain rfl|rfl|rfl|rfl:v=24\/v=25\/v=26\/v=27:=by omega
  all_goals exact⟨rfl,by decide⟩
 repeat'(first|rw[e1]|rw[e2]|rw[e3]|rw[e4]|rw[e5]|(apply ZcM (Ziv (((c.toNat/32:Nat):Int),0,true));kernel_rfl;(iterate 4 exact Z))|(apply Zaj Zab;exact Z)|(apply Zah Zab;exact Z)|(apply Zav Zab;exact Z)|(apply Zbw;exact Z;all_goals intro hb)|(apply Zfw Zab;(iterate 12 exact Z))|(apply Zau Zab;(iterate 6 exact Z);(first|exact Go.ZrK|rotate_left);(first|with_reducible assumption|exact Z);(first|exact Zai rfl|with_reducible assumption|rotate_left))|(apply Zd2;exact Z;exact Z;(first|exact Go.ZrK|rotate_left);exact Z)|(apply Zd3;exact Z;exact Z;(first|exact Go.ZrK|rotate_left);exact Z))
 ·(apply Zfk (ts:=[]);(apply Zad Zab;exact Z);exact ZaA _;exact Z;rotate_left;exact Z)
  rw[HH.out,ZeV HD.out (by have:=of_decide_eq_true hb;omega)];rfl
 ·(apply Zfk (ts:=[]);(apply Zad Zab;exact Z);exact ZaA _;exact Z;rotate_left;exact Z)
  have g31 : c.toNat % 32 = 31 := by have : ((c.toNat % 32 : Nat) : Int) = 31 := by simpa using (‹(((c.toNat % 32 : Nat) : Int) == 31) = true›)
                                     omega
  have gm:Zid ((c.toNat/32:Nat):Int)=false:=by simpa[ZaZ]using hb
  rw[HH.out,ZfE HD.out (by omega) (fun _=>gm)];rfl
 ·(apply Zfk (ts:=[]);(apply Zad Zab;exact Z);exact ZaA _;exact Z;rotate_left;exact Z)
  have g31 : c.toNat % 32 = 31 := by have : ((c.toNat % 32 : Nat) : Int) = 31 := by simpa using (‹(((c.toNat % 32 : Nat) : Int) == 31) = true›)
                                     omega
  have gm:Zid ((c.toNat/32:Nat):Int)=true:=by simpa[ZaZ]using hb
  rw[HH.out,Zgo HD.out g31 gm];rfl
 ·(apply Zfk (ts:=[]);(apply Zad Zab;exact Z);exact ZaA _;exact Z;rotate_left;exact Z)
  have g31 : c.toNat % 32 ≠ 31 := by have : ((c.toNat % 32 : Nat) : Int) ≠ 31 := by simpa using (‹(((c.toNat % 32 : Nat) : Int) == 31) = false›)
                                     omega
  rw[HH.out,ZfE HD.out (by have:=of_decide_eq_true hb;omega) (fun e=>(g31 e).elim)];rfl
 have g2:=of_decide_eq_false hb
 have g3:=of_decide_eq_false (‹decide (((c.toNat % 32:Nat):Int)<24)=false›)
 have q1:=Zln (c.toNat % 32) (by omega) (by omega)
 have q2:=hv4 (by omega) (by omega)
 have hvi:=q2.1
 have hvp:=q2.2
 have g5:=HL.out
 have g6:=HB.out
 have q3:∀ h:r.length<2 ^ (c.toNat % 32-24),_:=fun h=>HH.out.trans (ZfF HD.out (by omega) (by omega) h)
 have q4:∀ h:¬ r.length<2 ^ (c.toNat % 32-24),_:=fun h=>HH.out.trans (Zgp HD.out (by omega) (by omega) h)
 have q5:=q1.2
 generalize 2 ^ (c.toNat % 32-24)=m at hvi q3 q4 q5 ⊢
 have Q3:=hid q3
 have Q4:=hid q4
 clear q3 q4 q1 q2 hv4
 repeat'(first|(apply Zaj Zab;exact Z)|(apply Zah Zab;exact Z)|(apply Zav Zab;exact Z)|(apply Zbw;exact Z;all_goals intro hb)|(apply Zam Zab;(iterate 4 exact Z))|(apply Zau Zab;(iterate 6 exact Z);(first|exact Go.ZrK|rotate_left);(first|with_reducible assumption|exact Z);(first|exact Zai rfl|with_reducible assumption|rotate_left)))
 ·(apply Zfk (ts:=[]);(apply Zad Zab;exact Z);exact ZaA _;exact Z;rotate_left;exact Z)
  have g1:=of_decide_eq_true hb
  rw[List.length_map,IntWalk.i64_in ((b.length:Int)-p) (by omega),IntWalk.i64_in _ (by omega)]at g1
  rw[Q3.out (by omega)];rfl
 have g1:=of_decide_eq_false hb
 rw[List.length_map,IntWalk.i64_in ((b.length:Int)-p) (by omega),IntWalk.i64_in _ (by omega)]at g1
 have G7:=hid (Q4.out (by omega))
 clear hb g2 g3
 refine ZaE (fun k tm bx fr=>∃ i,k+i=m/\tm=[(10,.int .i64 (i:Int)),(9,.int .i64 (m:Int)),(7,.ptr 1 0),(1,.int .i64 p),(0,byE b),(4,.ptr 0 0)]/\bx=[[.int .i64 0,.int .u64 0,.bool false],[.int .i64 ((c.toNat/32:Nat):Int),.int .u64 (Zcu (r.take i):Nat),.bool false]]/\fr=[]) (m+1) (Lands.mk' (m:=m) (Nat.lt_succ_self _) ⟨0,rfl,rfl,rfl,rfl⟩ ?_ rfl rfl rfl rfl rfl rfl) ?_
 ·repeat'(first|exact Av.Sub.nil|refine Av.Sub.cons rfl ?_)
 rintro k tm bx fr ⟨i,hk,rfl,rfl,rfl⟩
 rcases Nat.lt_or_ge i m with hlt|hge
 ·have hd:decide ((i:Int)<(m:Int))=true:=by simp;omega
  have hir:i<r.length:=by omega
  have hv':(b.map E.byte)[((p.toNat+1+i:Nat):Int).toNat]?=some (E.byte r[i]):=by
   rw[Int.toNat_natCast,HR.out i hir];simp[hir]
  have e4:IntKind.i64.wrap (((p.toNat+1:Nat):Int)+(i:Int))=((p.toNat+1+i:Nat):Int):=by rw[IntWalk.i64_in _ (by omega)];omega
  have e7:IntKind.i64.wrap ((i:Int)+1)=((i+1:Nat):Int):=by rw[IntWalk.i64_in _ (by omega)];omega
  have e6:IntKind.u64.wrap ((r[i].toNat:Nat):Int)=((r[i].toNat:Nat):Int):=by have:=r[i].toNat_lt;rw[IntKind.wrap_u64];omega
  have e5:IntKind.u64.wrap (IntKind.u64.wrap (256*((Zcu (r.take i):Nat):Int))+((r[i].toNat:Nat):Int))=((Zcu (r.take (i+1)):Nat):Int):=by
   have h9:=Zed r i (by omega)
   have h8:=r[i].toNat_lt
   rw[Zhr r i hir,IntKind.wrap_u64,IntKind.wrap_u64]
   omega
  repeat'(first|rw[e3]|rw[e4]|rw[e5]|rw[e6]|rw[e7]|(apply Zaj Zab;exact Z)|(apply Zah Zab;exact Z)|(apply Zac;exact Z;(first|with_reducible assumption|(solve|simp only[bn])))|(apply ZaP 11 ZaL;decide +kernel;kernel_rfl;kernel_rfl;exact Z;exact Z)|(apply Za0;(iterate 3 exact Z))|refine AD.nil _|exact ZbC rfl|(apply Zau Zab;(iterate 6 exact Z);(first|exact Go.ZrK|rotate_left);(first|with_reducible assumption|exact Z);(first|exact Zai rfl|with_reducible assumption|rotate_left)))
  refine Lands.mk' (m:=k-1) (by omega) ⟨i+1,by omega,rfl,rfl,rfl⟩ ?_ rfl rfl rfl rfl rfl rfl
  repeat'(first|exact Av.Sub.nil|refine Av.Sub.cons rfl ?_)
 ·have hd:decide ((i:Int)<(m:Int))=false:=by simp;omega
  repeat'(first|rw[e3]|(apply Zah Zab;exact Z)|(apply Zaf;exact Z;(first|with_reducible assumption|(solve|simp only[bn]))))
  (apply Zfk (ts:=[]);(apply Zad Zab;exact Z);exact ZaA _;exact Z;rotate_left;exact Z)
  have h9:i=m:=by omega
  subst h9
  rw[G7.out,IntWalk.i64_in _ (by omega)]
  rfl
abbrev pcD (b:List UInt8)(r:Res (List UInt8 × List UInt8)):D:=match r with
 | .error e=>.tup [.sl .ext [],.int .i64 0,.int .i64 (e:Int)]
 | .ok (c,r)=>.tup [byE c,.int .i64 ((b.length-r.length:Nat):Int),.int .i64 0]
theorem ZhB [Known](h:Hd)(b:List UInt8)(p:Nat)(hb:b.length<=1099511627776)(hp:p<=b.length)(hn:h.2.1<18446744073709551616):AP Tryz.prog 210 [byE b,.int .i64 (p:Int),hd h] (pcD b (ZbW h (b.drop p))) []:=by
 obtain⟨k,n,o⟩:=h
 dsimp only at hn
 show AP Tryz.prog _ [byE b,.int .i64 (p:Int),.agg [.int .i64 k,.int .u64 (n:Int),.bool o]] _ _
 have e1:IntKind.i64.wrap (((b.map E.byte).length:Int)-(p:Int))=((b.length-p:Nat):Int):=by rw[List.length_map,IntWalk.i64_in _ (by omega)];omega
 have e2:IntKind.u64.wrap ((b.length-p:Nat):Int)=((b.length-p:Nat):Int):=by rw[IntKind.wrap_u64];omega
 unfold ZbW
 dsimp only
 have hl:(b.drop p).length=b.length-p:=List.length_drop ..
 rw[hl]
 by_cases hle:n<=b.length-p
 ·rw[if_pos hle]
  have d1:decide ((n:Int)>((b.length-p:Nat):Int))=false:=decide_eq_false (by omega)
  have e3:IntKind.i64.wrap (n:Int)=(n:Int):=IntWalk.i64_in _ (by omega)
  have e4:IntKind.i64.wrap ((p:Int)+(n:Int))=((p+n:Nat):Int):=by rw[IntWalk.i64_in _ (by omega)];omega
  have hs:(b.take (((p+n:Nat):Int)).toNat).drop ((p:Nat):Int).toNat=(b.drop p).take n:=by
   rw[Int.toNat_natCast,Int.toNat_natCast,List.drop_take];congr 1;omega
  have hij:((p:Nat):Int)<=((p+n:Nat):Int):=by omega
  have hj:(((p+n:Nat):Int)).toNat<=b.length:=by omega
  have hcl:((b.drop p).take n).length<=140737488351232:=by rw[List.length_take,hl];omega
  have hU:=Zbm b
  have c2:=ZfI _ hcl
  have eR:b.length-((b.drop p).drop n).length=p+n:=by rw[List.length_drop,hl];omega
  by_cases h3:k=3
  ·subst h3
   cases hv:ZaF ((b.drop p).take n) with
   | true=>
    rw[hv]at c2
    rw[if_neg (by simp)]
    dsimp only[pcD]
    rw[eR]
    refine AP.ofA ?_
    refine Zan Tryz.func210 rfl Tryz.ntmps210 rfl rfl ?_
    repeat'(first|rw[d1]|rw[e1]|rw[e2]|rw[e3]|rw[e4]|(apply Zaa (c2);kernel_rfl;(iterate 4 exact Z))|(apply Zey Zab;(iterate 9 exact Z);exact Go.ZrK;(first|with_reducible assumption|decide|(simp only[List.length_cons,List.length_drop,List.length_take,List.length_append,Int.toNat_natCast]at *;omega));(first|with_reducible assumption|decide|(simp only[List.length_cons,List.length_drop,List.length_take,List.length_append,Int.toNat_natCast]at *;omega));(first|with_reducible assumption|exact Z))|(apply Zaj Zab;exact Z)|(apply Zah Zab;exact Z)|(apply Zav Zab;exact Z)|refine Zbq ?_|(apply Zae;(iterate 3 exact Z);exact Go.ZrJ)|(apply Zak;exact Z;exact Go.ZrJ;exact Z;exact Z)|(apply Zaf;exact Z;exact Go.ZrJ)|(apply Zam Zab;(iterate 4 exact Z)))
    all_goals(apply Zaw [];(apply Zad Zab;exact Z);(iterate 4 exact Z))
    all_goals rfl
   | false=>
    rw[hv]at c2
    rw[if_pos ⟨rfl,rfl⟩]
    dsimp only[pcD]
    refine AP.ofA ?_
    refine Zan Tryz.func210 rfl Tryz.ntmps210 rfl rfl ?_
    repeat'(first|rw[d1]|rw[e1]|rw[e2]|rw[e3]|rw[e4]|(apply Zaa (c2);kernel_rfl;(iterate 4 exact Z))|(apply Zey Zab;(iterate 9 exact Z);exact Go.ZrK;(first|with_reducible assumption|decide|(simp only[List.length_cons,List.length_drop,List.length_take,List.length_append,Int.toNat_natCast]at *;omega));(first|with_reducible assumption|decide|(simp only[List.length_cons,List.length_drop,List.length_take,List.length_append,Int.toNat_natCast]at *;omega));(first|with_reducible assumption|exact Z))|(apply Zaj Zab;exact Z)|(apply Zah Zab;exact Z)|(apply Zav Zab;exact Z)|refine Zbq ?_|(apply Zae;(iterate 3 exact Z);exact Go.ZrJ)|(apply Zak;exact Z;exact Go.ZrJ;exact Z;exact Z)|(apply Zac;exact Z;exact Go.ZrJ)|(apply Zaf;exact Z;exact Go.ZrJ)|(apply Zam Zab;(iterate 4 exact Z)))
    all_goals(apply Zaw [];(apply Zad Zab;exact Z);(iterate 4 exact Z))
    all_goals rfl
  ·have k3:(k==3)=false:=by simpa using h3
   rw[if_neg (by rintro⟨h,_⟩;exact h3 h)]
   dsimp only[pcD]
   rw[eR]
   refine AP.ofA ?_
   refine Zan Tryz.func210 rfl Tryz.ntmps210 rfl rfl ?_
   repeat'(first|rw[d1]|rw[e1]|rw[e2]|rw[e3]|rw[e4]|(apply Zey Zab;(iterate 9 exact Z);exact Go.ZrK;(first|with_reducible assumption|decide|(simp only[List.length_cons,List.length_drop,List.length_take,List.length_append,Int.toNat_natCast]at *;omega));(first|with_reducible assumption|decide|(simp only[List.length_cons,List.length_drop,List.length_take,List.length_append,Int.toNat_natCast]at *;omega));(first|with_reducible assumption|exact Z))|(apply Zaj Zab;exact Z)|(apply Zah Zab;exact Z)|(apply Zav Zab;exact Z)|refine Zbq ?_|(apply Zas;(iterate 3 exact Z);exact Go.ZrJ)|(apply Zag;exact Z;exact Go.ZrJ;exact Z;exact Z)|(apply Zaf;exact Z;exact Go.ZrJ)|(apply Zam Zab;(iterate 4 exact Z)))
   all_goals(apply Zaw [];(apply Zad Zab;exact Z);(iterate 4 exact Z))
   all_goals rfl
 ·rw[if_neg hle]
  dsimp only[pcD]
  have d1:decide ((n:Int)>((b.length-p:Nat):Int))=true:=decide_eq_true (by omega)
  refine AP.ofA ?_
  refine Zan Tryz.func210 rfl Tryz.ntmps210 rfl rfl ?_
  repeat'(first|rw[d1]|rw[e1]|rw[e2]|(apply Zaj Zab;exact Z)|(apply Zah Zab;exact Z)|(apply Zav Zab;exact Z)|(apply Zac;exact Z;exact Go.ZrJ)|(apply Zam Zab;(iterate 4 exact Z)))
  all_goals(apply Zaw [];(apply Zad Zab;exact Z);(iterate 4 exact Z))
  all_goals rfl
end Go.Proofs.YtakblclkflnnpaaGreatDoor
end
