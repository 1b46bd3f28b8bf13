/- The document's items: which may be, their bytes. -/
import Derived.Test.YtakblclkflnnpaaDoorG19
import Derived.Test.YtakblclkflnnpaaDoorG14
import Derived.Test.YtakblclkflnnpaaDoorG16
import Derived.Test.YtakblclkflnnpaaDoorG18
set_option linter.unusedVariables false
set_option linter.unusedSimpArgs false
section
open Go.RowKit Go.Pl Go.Av
namespace Go.Proofs.YtakblclkflnnpaaDoor
set_option maxHeartbeats 4000000
theorem Zer:∀ {l:List It},Zcd l=true->∀ y ∈ l,Zbw y=true
 | x::l,h,y,hy=>by
  rw[Zcd,Bool.and_eq_true]at h
  rcases List.mem_cons.1 hy with rfl|hy
  ·exact h.1
  ·exact Zer h.2 y hy
theorem n0' (n:Nat):((n:Int) != 0) = !decide (n=0):=by rw[bne,n0]
theorem ZmW {α:Type}{f:α->E}(b:List α):(((b.map f).length:Int) != 0) = !b.isEmpty:=by rw[bne,ZmQ]
theorem Zlr [Known]:∀(x:It),wfI x->AP Tryd.prog 70 [itD x] (.bool (Zbw x)) []:=by
 refine It.ind fun k n b l ih hw=>?_
 obtain⟨_,hb,hl,hws⟩:=hw
 have e1:=ZmQ (f:=E.byte) b
 have e2:=Zmd l
 have e3:=n0 n
 have hv:=ZgF b hb
 have hlen:=Zal l
 have hE:∀ P:Bool,(P&&l.isEmpty&&Zcd l)=(P&&l.isEmpty):=fun P=>by
  cases l with
  | nil=>rw[Zcd,Bool.and_true]
  | cons x l=>simp
 by_cases k0:k=0
 ·subst k0
  have e:Zbw (.mk 0 n b l)=(b.isEmpty&&l.isEmpty):=by rw[Zbw];exact hE _
  rw[e]
  cases hbe:b.isEmpty<;>cases hle:l.isEmpty
  all_goals
   rw[hbe]at e1
   rw[hle]at e2
   refine AP.ofA ?_
   refine Zao Tryd.func70 rfl Tryd.ntmps70 rfl rfl ?_
   repeat'(first|rw[e1]|rw[e2]|(apply Zaj Zab;exact Z)|(apply Zah Zab;exact Z)|(apply Zaf;(iterate 3 exact Z);exact Qt)|(apply Zav;(iterate 3 exact Z);exact Qt)|(apply Zam;exact Z;exact Qt;exact Z;exact Z)|(apply Zai;exact Z;exact Qt;exact Z;exact Z)|(apply Zac;exact Z;exact Qt)|(apply Zak Zab;(iterate 4 exact Z)))
   all_goals(apply Zaz [];(apply Zad Zab;exact Z);(iterate 4 exact Z))
   all_goals rfl
 by_cases k2:k=2
 ·subst k2
  have e:Zbw (.mk 2 n b l)=(decide (n=0)&&l.isEmpty):=by rw[Zbw];exact hE _
  rw[e]
  cases hbe:decide (n=0)<;>cases hle:l.isEmpty
  all_goals
   rw[hbe]at e3
   rw[hle]at e2
   refine AP.ofA ?_
   refine Zao Tryd.func70 rfl Tryd.ntmps70 rfl rfl ?_
   repeat'(first|rw[e2]|rw[e3]|(apply Zaj Zab;exact Z)|(apply Zah Zab;exact Z)|(apply Zaf;(iterate 3 exact Z);exact Qt)|(apply Zav;(iterate 3 exact Z);exact Qt)|(apply Zam;exact Z;exact Qt;exact Z;exact Z)|(apply Zai;exact Z;exact Qt;exact Z;exact Z)|(apply Zac;exact Z;exact Qt)|(apply Zae;exact Z;exact Qt)|(apply Zak Zab;(iterate 4 exact Z)))
   all_goals(apply Zaz [];(apply Zad Zab;exact Z);(iterate 4 exact Z))
   all_goals rfl
 by_cases k3:k=3
 ·subst k3
  have e:Zbw (.mk 3 n b l)=(decide (n=0)&&l.isEmpty&&ZaD b):=by
   rw[Zbw]
   have e:Zeh 3 n b l=(decide (n=0)&&(l.isEmpty&&ZaD b)):=rfl
   rw[e]
   cases l with
   | nil=>rw[Zcd];simp
   | cons x l=>simp
  rw[e]
  cases hbe:decide (n=0)<;>cases hle:l.isEmpty
  all_goals
   rw[hbe]at e3
   rw[hle]at e2
   refine AP.ofA ?_
   refine Zao Tryd.func70 rfl Tryd.ntmps70 rfl rfl ?_
   repeat'(first|rw[e2]|rw[e3]|(apply Zaa (hv);kernel_rfl;(iterate 4 exact Z))|(apply Zaj Zab;exact Z)|(apply Zah Zab;exact Z)|(apply Zaf;(iterate 3 exact Z);exact Qt)|(apply Zav;(iterate 3 exact Z);exact Qt)|(apply Zam;exact Z;exact Qt;exact Z;exact Z)|(apply Zai;exact Z;exact Qt;exact Z;exact Z)|(apply Zac;exact Z;exact Qt)|(apply Zae;exact Z;exact Qt)|(apply Zak Zab;(iterate 4 exact Z)))
   all_goals(apply Zaz [];(apply Zad Zab;exact Z);(iterate 4 exact Z))
   all_goals rfl
 by_cases k4:k=4
 ·subst k4
  have e:Zbw (.mk 4 n b l)=((decide (n=0)&&b.isEmpty)&&Zcd l):=by rw[Zbw];rfl
  rw[e]
  have f1:=n0' n
  have f2:=ZmW (f:=E.byte) b
  cases hbe:decide (n=0) with
  | false=>
   rw[hbe]at f1
   replace f1:((n:Int) != 0)=true:=f1
   refine AP.ofA ?_
   refine Zao Tryd.func70 rfl Tryd.ntmps70 rfl rfl ?_
   repeat'(first|(apply Zaj Zab;exact Z)|(apply Zah Zab;exact Z)|(apply Zay Zab;exact Z)|(apply Zaq;(iterate 3 exact Z);exact Qt)|(apply Zam;exact Z;exact Qt;exact Z;exact Z)|(apply Zac;exact Z;exact Qt)|(apply Zae;exact Z;exact Qt))
   all_goals(apply Zaz [];(apply Zad Zab;exact Z);(iterate 4 exact Z))
   all_goals rfl
  | true=>
   rw[hbe]at f1
   replace f1:((n:Int) != 0)=false:=f1
   cases hle:b.isEmpty with
   | false=>
    rw[hle]at f2
    replace f2:(((b.map E.byte).length:Int) != 0)=true:=f2
    refine AP.ofA ?_
    refine Zao Tryd.func70 rfl Tryd.ntmps70 rfl rfl ?_
    repeat'(first|(apply Zaj Zab;exact Z)|(apply Zah Zab;exact Z)|(apply Zay Zab;exact Z)|(apply Zaf;(iterate 3 exact Z);exact Qt)|(apply Zai;exact Z;exact Qt;exact Z;exact Z)|(apply Zac;exact Z;exact Qt)|(apply Zae;exact Z;exact Qt)|(apply Zak Zab;(iterate 4 exact Z)))
    all_goals(apply Zaz [];(apply Zad Zab;exact Z);(iterate 4 exact Z))
    all_goals rfl
   | true=>
    rw[hle]at f2
    replace f2:(((b.map E.byte).length:Int) != 0)=false:=f2
    rw[Bool.true_and,Bool.true_and]
    generalize hfin:Zcd l=fin
    refine AP.ofA ?_
    refine Zao Tryd.func70 rfl Tryd.ntmps70 rfl rfl ?_
    repeat'(first|(apply Zaj Zab;exact Z)|(apply Zah Zab;exact Z)|(apply Zay Zab;exact Z)|(apply Zaf;(iterate 3 exact Z);exact Qt)|(apply Zai;exact Z;exact Qt;exact Z;exact Z)|(apply Zac;exact Z;exact Qt)|(apply Zae;exact Z;exact Qt)|(apply Zak Zab;(iterate 4 exact Z)))
    refine ZaC (fun f tm bx fr=>∃ i:Nat,f+i=l.length/\Zcd (l.drop i)=fin/\tm=[(1,.ptr 0 0),(3,.int .i64 (i:Int))]/\bx=[itC 4 n b l]/\fr=[]) (l.length+1) (Lands.mk' (m:=l.length) (Nat.lt_succ_self _) ⟨0,rfl,hfin,rfl,rfl,rfl⟩ ?_ rfl rfl rfl rfl rfl rfl) ?_
    ·exact .cons rfl (.cons rfl .nil)
    rintro f tm bx fr ⟨i,hf,hfin,rfl,rfl,rfl⟩
    have hU:=Zbs l
    rcases Nat.lt_or_ge i l.length with hlt|hge
    ·have hdl:decide ((i:Int)<((Zan l).length:Int))=true:=decide_eq_true (by omega)
     obtain⟨⟨k1,n1,b1,l1⟩,hy⟩:∃ y,l[i]?=some y:=⟨_,List.getElem?_eq_getElem hlt⟩
     have hv:(Zan l)[((i:Nat):Int).toNat]?=some (.agg [.int .i64 k1,.int .u64 (n1:Int),.sl (b1.map E.byte),.sl (Zan l1)]):=by
      rw[Int.toNat_natCast,Zax,List.getElem?_map,hy];rfl
     have hmem:=List.mem_of_getElem? hy
     have hc:=ih _ hmem (ZaM hws _ hmem)
     have hdr:l.drop i=It.mk k1 n1 b1 l1::l.drop (i+1):=by
      rw[List.drop_eq_getElem_cons hlt];congr 1
      exact(List.getElem?_eq_some_iff.1 hy).2
     rw[hdr,Zcd]at hfin
     have ei:IntKind.i64.wrap ((i:Int)+1)=((i+1:Nat):Int):=by rw[IntWalk.i64_in _ (by omega)];omega
     cases hq:Zbw (.mk k1 n1 b1 l1) with
     | false=>
      rw[hq]at hc hfin
      rw[Bool.false_and]at hfin
      subst hfin
      repeat'(first|(apply Zaa (hc);kernel_rfl;(iterate 4 exact Z))|(apply Zaj Zab;exact Z)|(apply Zah Zab;exact Z)|(apply Zay Zab;exact Z)|(apply Zac;exact Z;exact Qt)|refine ZbE ?_|(apply Zak Zab;(iterate 4 exact Z))|(apply Zat Zab;(iterate 6 exact Z);(first|exact Qt|rotate_left);(first|with_reducible assumption|decide +kernel|exact Z);(first|exact Zag rfl|with_reducible assumption|decide +kernel|rotate_left)))
      all_goals(apply Zaz [];(apply Zad Zab;exact Z);(iterate 4 exact Z))
      all_goals rfl
     | true=>
      rw[hq]at hc hfin
      rw[Bool.true_and]at hfin
      repeat'(first|rw[ei]|(apply Zaa (hc);kernel_rfl;(iterate 4 exact Z))|(apply Zaj Zab;exact Z)|(apply Zah Zab;exact Z)|(apply Zay Zab;exact Z)|(apply Zac;exact Z;exact Qt)|(apply Zae;exact Z;exact Qt)|(apply Zak Zab;(iterate 4 exact Z))|(apply Zat Zab;(iterate 6 exact Z);(first|exact Qt|rotate_left);(first|with_reducible assumption|decide +kernel|exact Z);(first|exact Zag rfl|with_reducible assumption|decide +kernel|rotate_left)))
      refine Lands.mk' (m:=f-1) (by omega) ⟨i+1,by omega,hfin,rfl,rfl,rfl⟩ ?_ rfl rfl rfl rfl rfl rfl
      exact .cons rfl (.cons rfl .nil)
    ·have hdl:decide ((i:Int)<((Zan l).length:Int))=false:=decide_eq_false (by omega)
     rw[List.drop_eq_nil_of_le hge]at hfin
     have hfin:true=fin:=hfin
     subst hfin
     repeat'(first|(apply Zaj Zab;exact Z)|(apply Zah Zab;exact Z)|(apply Zay Zab;exact Z)|(apply Zae;exact Z;exact Qt)|(apply Zak Zab;(iterate 4 exact Z)))
     all_goals(apply Zaz [];(apply Zad Zab;exact Z);(iterate 4 exact Z))
     all_goals rfl
 ·have t0:(k==0)=false:=by simpa using k0
  have t2:(k==2)=false:=by simpa using k2
  have t3:(k==3)=false:=by simpa using k3
  have t4:(k==4)=false:=by simpa using k4
  have e:Zbw (.mk k n b l)=false:=by rw[Zbw];simp[Zeh,k0,k2,k3,k4]
  rw[e]
  refine AP.ofA ?_
  refine Zao Tryd.func70 rfl Tryd.ntmps70 rfl rfl ?_
  repeat'(first|(apply Zah Zab;exact Z)|(apply Zae;exact Z;exact Qt))
  all_goals(apply Zaz [];(apply Zad Zab;exact Z);(iterate 4 exact Z))
  all_goals rfl
theorem ZcV [Known](x:It)(hw:wfI x)(hs:Zbq x<=1000):AP Tryd.prog 39 [itD x] (.bool (Zaw x)) []:=by
 have h1:=Zlq x hw 7 (by omega)
 have h2:=Zlp 257 (by omega) x hs
 have h3:=Zlr x hw
 replace h1:AP Tryd.prog _ [itD x,.int .i64 7] (.int .i64 (Zfy x 7:Int)) []:=h1
 replace h2:AP Tryd.prog _ [itD x,.int .i64 257] (.int .i64 (Zcn x 257:Int)) []:=h2
 rw[<- Zja]
 have e1:decide ((Zfy x 7:Int)<=6)=decide (Zfy x 7<=6):=by rw[decide_eq_decide];omega
 have e2:decide ((Zcn x 257:Int)<=256)=decide (Zcn x 257<=256):=by rw[decide_eq_decide];omega
 generalize decide (Zfy x 7<=6)=p at *
 generalize decide (Zcn x 257<=256)=q at *
 generalize Zbw x=r at *
 obtain⟨k,n,b,l⟩:=x
 cases p<;>cases q
 all_goals
  refine AP.ofA ?_
  refine Zao Tryd.func39 rfl Tryd.ntmps39 rfl rfl ?_
  repeat'(first|(apply Zaa (h1);kernel_rfl;(iterate 4 exact Z))|(apply Zaa (h2);kernel_rfl;(iterate 4 exact Z))|(apply Zaa (h3);kernel_rfl;(iterate 4 exact Z))|(apply Zaj Zab;exact Z)|(apply Zah Zab;exact Z)|(apply Zaf;(iterate 3 exact Z);exact Qt)|(apply Zav;(iterate 3 exact Z);exact Qt)|(apply Zam;exact Z;exact Qt;exact Z;exact Z)|(apply Zai;exact Z;exact Qt;exact Z;exact Z))
  all_goals(apply Zaz [];(apply Zad Zab;exact Z);(iterate 4 exact Z))
  all_goals rfl
theorem ZhV (h:Hd):∃ c t,ZaR h=c::t:=by
 unfold ZaR
 split
 ·exact⟨_,_,rfl⟩
 ·exact⟨_,_,rfl⟩
theorem Zjb [Known]:∀(x:It),wfI x->Zbw x=true->(ZaX x).length<=1099511627776->AP Tryd.prog 64 [itD x] (byE (ZaX x)) []:=by
 refine It.ind fun k n b l ih hw hfi hlim=>?_
 obtain⟨hn,hb,hl,hws⟩:=hw
 rw[Zbw,Bool.and_eq_true]at hfi
 obtain⟨ho,hfs⟩:=hfi
 have hlen:=Zal l
 have hk7:=Zej ho
 have hr:Za8 (k,(It.mk k n b l).hn,false)=true:=by simp[Za8];exact hk7
 have hhn:(It.mk k n b l).hn<18446744073709551616:=by simp only[It.hn];(repeat' split)<;>omega
 have hput:ZaX (.mk k n b l)=ZaR (k,(It.mk k n b l).hn,false)++(b++ZaW l):=by rw[ZaX,if_pos hr]
 have hW:=Zf4 (k,(It.mk k n b l).hn,false) hr hhn
 obtain⟨c0,t0,hcw⟩:=ZhV (k,(It.mk k n b l).hn,false)
 rw[hput]at hlim ⊢
 rw[hcw]at hW hlim ⊢
 have hU0:=Zbg (c0::t0)
 have hU1:=Zbg b
 clear hr hhn hcw hput
 have eb:IntKind.u64.wrap (((b.map E.byte).length:Nat):Int)=((b.length:Nat):Int):=by rw[List.length_map,IntKind.wrap_u64];omega
 have el:IntKind.u64.wrap (((Zan l).length:Nat):Int)=((l.length:Nat):Int):=by rw[hlen,IntKind.wrap_u64];omega
 rcases ZeR ho with⟨rfl,rfl,rfl⟩ | ⟨rfl,rfl,rfl⟩ | ⟨rfl,rfl,rfl,_⟩ | ⟨rfl,rfl,rfl⟩
 ·replace hW:AT Tryd.prog _ [.agg [.int .i64 0,.int .u64 (n:Int),.bool false]] [] [] _ [] _:=hW
  refine AP.ofA ?_
  refine Zao Tryd.func64 rfl Tryd.ntmps64 rfl rfl ?_
  repeat'(first|(apply ZaO [] [] (hW);kernel_rfl;(iterate 10 exact Z))|refine Za9 70 ?_|refine Zbk ?_|(apply Zaj Zab;exact Z)|(apply Zah Zab;exact Z)|(apply Zay Zab;exact Z)|(apply Zae;exact Z;exact Qt)|(apply Zak Zab;(iterate 4 exact Z))|(apply ZaE Zab;(iterate 6 exact Z)))
  all_goals(apply Zaz [];(apply Zad Zab;exact Z);(iterate 4 exact Z))
  ·rw[ZaW,List.append_nil,List.append_nil]
  ·rfl
 ·replace hW:AT Tryd.prog _ [.agg [.int .i64 2,.int .u64 (b.length:Int),.bool false]] [] [] _ [] _:=hW
  rcases b with _|⟨c1,b⟩
  ·refine AP.ofA ?_
   refine Zao Tryd.func64 rfl Tryd.ntmps64 rfl rfl ?_
   repeat'(first|rw[eb]|(apply ZaO [] [] (hW);kernel_rfl;(iterate 10 exact Z))|refine Za9 70 ?_|refine Zbk ?_|(apply Zaj Zab;exact Z)|(apply Zah Zab;exact Z)|(apply Zay Zab;exact Z)|(apply Zac;exact Z;exact Qt)|(apply Zae;exact Z;exact Qt)|(apply Zak Zab;(iterate 4 exact Z))|(apply ZaE Zab;(iterate 6 exact Z)))
   all_goals(apply Zaz [];(apply Zad Zab;exact Z);(iterate 4 exact Z))
   ·rw[ZaW,List.append_nil,List.append_nil]
   ·rfl
  ·refine AP.ofA ?_
   refine Zao Tryd.func64 rfl Tryd.ntmps64 rfl rfl ?_
   repeat'(first|rw[eb]|(apply ZaO [] [] (hW);kernel_rfl;(iterate 10 exact Z))|refine Za9 70 ?_|refine Zbk ?_|(apply Zaj Zab;exact Z)|(apply Zah Zab;exact Z)|(apply Zay Zab;exact Z)|(apply Zac;exact Z;exact Qt)|(apply Zae;exact Z;exact Qt)|(apply Zak Zab;(iterate 4 exact Z))|(apply ZaI Zab;(iterate 6 exact Z);(first|with_reducible assumption|decide +kernel|exact Z|rotate_left);exact Z;exact Z;(first|exact Zag rfl|with_reducible assumption|decide +kernel|rotate_left);(first|exact Zag rfl|with_reducible assumption|decide +kernel|rotate_left);(first|exact Qt|rotate_left);(first|exact Qt|rotate_left);(first|exact Qt|rotate_left);exact Z;exact Z))
   all_goals first|(apply Zaz [];(apply Zad Zab;exact Z);(iterate 4 exact Z))|(first|rfl|(simp only[List.length_append,List.length_cons,List.length_nil,List.length_map,Zal];done)|(simp only[List.length_append,List.length_cons,List.length_nil,List.length_map,Zal]at *;(try unfold maxLen);(try simp only[Nat.add_mul]);omega))
   ·rw[ZaW,List.append_nil];exact congrArg (D.sl .ext) (List.map_append (f:=E.byte) (l₁:=c0::t0) (l₂:=c1::b)).symm
   ·rfl
 ·replace hW:AT Tryd.prog _ [.agg [.int .i64 3,.int .u64 (b.length:Int),.bool false]] [] [] _ [] _:=hW
  rcases b with _|⟨c1,b⟩
  ·refine AP.ofA ?_
   refine Zao Tryd.func64 rfl Tryd.ntmps64 rfl rfl ?_
   repeat'(first|rw[eb]|(apply ZaO [] [] (hW);kernel_rfl;(iterate 10 exact Z))|refine Za9 70 ?_|refine Zbk ?_|(apply Zaj Zab;exact Z)|(apply Zah Zab;exact Z)|(apply Zay Zab;exact Z)|(apply Zac;exact Z;exact Qt)|(apply Zae;exact Z;exact Qt)|(apply Zak Zab;(iterate 4 exact Z))|(apply ZaE Zab;(iterate 6 exact Z)))
   all_goals(apply Zaz [];(apply Zad Zab;exact Z);(iterate 4 exact Z))
   ·rw[ZaW,List.append_nil,List.append_nil]
   ·rfl
  ·refine AP.ofA ?_
   refine Zao Tryd.func64 rfl Tryd.ntmps64 rfl rfl ?_
   repeat'(first|rw[eb]|(apply ZaO [] [] (hW);kernel_rfl;(iterate 10 exact Z))|refine Za9 70 ?_|refine Zbk ?_|(apply Zaj Zab;exact Z)|(apply Zah Zab;exact Z)|(apply Zay Zab;exact Z)|(apply Zac;exact Z;exact Qt)|(apply Zae;exact Z;exact Qt)|(apply Zak Zab;(iterate 4 exact Z))|(apply ZaI Zab;(iterate 6 exact Z);(first|with_reducible assumption|decide +kernel|exact Z|rotate_left);exact Z;exact Z;(first|exact Zag rfl|with_reducible assumption|decide +kernel|rotate_left);(first|exact Zag rfl|with_reducible assumption|decide +kernel|rotate_left);(first|exact Qt|rotate_left);(first|exact Qt|rotate_left);(first|exact Qt|rotate_left);exact Z;exact Z))
   all_goals first|(apply Zaz [];(apply Zad Zab;exact Z);(iterate 4 exact Z))|(first|rfl|(simp only[List.length_append,List.length_cons,List.length_nil,List.length_map,Zal];done)|(simp only[List.length_append,List.length_cons,List.length_nil,List.length_map,Zal]at *;(try unfold maxLen);(try simp only[Nat.add_mul]);omega))
   ·rw[ZaW,List.append_nil];exact congrArg (D.sl .ext) (List.map_append (f:=E.byte) (l₁:=c0::t0) (l₂:=c1::b)).symm
   ·rfl
 ·replace hW:AT Tryd.prog _ [.agg [.int .i64 4,.int .u64 (l.length:Int),.bool false]] [] [] _ [] _:=hW
  refine AP.ofA ?_
  refine Zao Tryd.func64 rfl Tryd.ntmps64 rfl rfl ?_
  repeat'(first|rw[el]|(apply ZaO [] [] (hW);kernel_rfl;(iterate 10 exact Z))|(apply Zaj Zab;exact Z)|(apply Zah Zab;exact Z)|(apply Zac;exact Z;exact Qt)|(apply Zak Zab;(iterate 4 exact Z))|(apply ZaE Zab;(iterate 6 exact Z)))
  refine ZaC (fun f tm bx fr=>∃(i c:Nat) (M:List E),f+i=l.length/\c=M.length/\M=((c0::t0)++ZaW (l.take i)).map E.byte/\tm=[(1,.ptr 0 0),(4,.sl (.own 0) M),(5,.int .i64 (i:Int))]/\bx=[itC 4 0 [] l,[.int .i64 4,.int .u64 (l.length:Int),.bool false]]/\fr=[⟨c,1,5⟩]) (l.length+1) (Lands.mk' (m:=l.length) (Nat.lt_succ_self _) ⟨0,(c0::t0).length,(c0::t0).map E.byte,rfl,by rw[List.length_map],by rw[List.take_zero,ZaW,List.append_nil],rfl,rfl,rfl⟩ ?_ rfl rfl rfl rfl rfl rfl) ?_
  ·exact .cons rfl (.cons rfl (.cons rfl .nil))
  rintro f tm bx fr ⟨i,c,M,hf,hc,hM,rfl,rfl,rfl⟩
  subst hc
  have hU:=Zbs l
  have hUM:Uni 1 M:=by rw[hM];exact Zbg _
  have hMl:M.length=(c0::t0).length+(ZaW (l.take i)).length:=by rw[hM,List.length_map,List.length_append]
  rcases Nat.lt_or_ge i l.length with hlt|hge
  ·have hdl:decide ((i:Int)<((Zan l).length:Int))=true:=decide_eq_true (by omega)
   obtain⟨⟨k1,n1,b2,l1⟩,hy⟩:∃ y,l[i]?=some y:=⟨_,List.getElem?_eq_getElem hlt⟩
   have hv:(Zan l)[((i:Nat):Int).toNat]?=some (.agg [.int .i64 k1,.int .u64 (n1:Int),.sl (b2.map E.byte),.sl (Zan l1)]):=by
    rw[Int.toNat_natCast,Zax,List.getElem?_map,hy];rfl
   have hmem:=List.mem_of_getElem? hy
   have hps:=ZaF hy
   have hpl:=ZaG l (i+1)
   have hps2:=congrArg List.length hps
   rw[List.length_append]at hps2
   rw[List.length_append,List.nil_append]at hlim
   have hfy:=Zer hfs _ hmem
   have hc:=ih _ hmem (ZaM hws _ hmem) hfy (by omega)
   rw[Zbw,Bool.and_eq_true]at hfy
   have hk1:=Zej hfy.1
   have hpos:=Zg6 (x:=.mk k1 n1 b2 l1) hk1
   generalize ZaX (.mk k1 n1 b2 l1)=Q at hc hps hps2 hpos
   obtain⟨q0,Q,rfl⟩:∃ q0 Q',Q=q0::Q':=by
    cases Q with
    | nil=>simp at hpos
    | cons q Q=>exact⟨q,Q,rfl⟩
   have hUQ:=Zbg (q0::Q)
   have ei:IntKind.i64.wrap ((i:Int)+1)=((i+1:Nat):Int):=by rw[IntWalk.i64_in _ (by omega)];omega
   repeat'(first|rw[ei]|(apply Zaa (hc);kernel_rfl;(iterate 4 exact Z))|(apply Zaj Zab;exact Z)|(apply Zah Zab;exact Z)|(apply Zay Zab;exact Z)|(apply Zac;exact Z;exact Qt)|(apply Zak Zab;(iterate 4 exact Z))|(apply ZaI Zab;(iterate 6 exact Z);(first|with_reducible assumption|decide +kernel|exact Z|rotate_left);exact Z;exact Z;(first|exact Zag rfl|with_reducible assumption|decide +kernel|rotate_left);(first|exact Zag rfl|with_reducible assumption|decide +kernel|rotate_left);(first|exact Qt|rotate_left);(first|exact Qt|rotate_left);(first|exact Qt|rotate_left);exact Z;exact Z)|(apply Zat Zab;(iterate 6 exact Z);(first|exact Qt|rotate_left);(first|with_reducible assumption|decide +kernel|exact Z);(first|exact Zag rfl|with_reducible assumption|decide +kernel|rotate_left)))
   all_goals first|(first|rfl|(simp only[List.length_append,List.length_cons,List.length_nil,List.length_map,Zal];done)|(simp only[List.length_append,List.length_cons,List.length_nil,List.length_map,Zal]at *;(try unfold maxLen);(try simp only[Nat.add_mul]);omega))|skip
   refine Lands.mk' (m:=f-1) (by omega) ⟨i+1,M.length+((q0::Q).map E.byte).length,M++(q0::Q).map E.byte,by omega,by rw[List.length_append],by rw[hM,hps,<- List.map_append,List.append_assoc],rfl,rfl,rfl⟩ ?_ rfl rfl rfl rfl rfl rfl
   exact .cons rfl (.cons rfl (.cons rfl .nil))
  ·have hdl:decide ((i:Int)<((Zan l).length:Int))=false:=decide_eq_false (by omega)
   rw[List.take_of_length_le hge]at hM
   repeat'(first|(apply Zaj Zab;exact Z)|(apply Zah Zab;exact Z)|(apply Zay Zab;exact Z)|(apply Zae;exact Z;exact Qt)|(apply Zak Zab;(iterate 4 exact Z)))
   all_goals(apply Zaz [];(apply Zad Zab;exact Z);(iterate 4 exact Z))
   ·rw[hM];rfl
   ·rfl
theorem Zca:∀ {l:List It} {d:Nat},ZbA l d=true->∀ y ∈ l,Zbp y d=true
 | x::l,d,h,y,hy=>by
  rw[ZbA,Bool.and_eq_true]at h
  rcases List.mem_cons.1 hy with rfl|hy
  ·exact h.1
  ·exact Zca h.2 y hy
theorem Zes {x:It}{d:Nat}(h:Zbp x d=true):0<d:=by
 obtain⟨k,n,b,l⟩:=x
 cases d with
 | zero=>rw[Zbp]at h;cases h
 | succ d=>omega
theorem Zkd [Known]:∀(x:It),wfI x->∀ d:Nat,Zbp x (d+1)=true->d<=100->AP Tryd.prog 13 [itD x,.int .i64 (d:Int)] (itD x) []:=by
 refine It.ind fun k n b l ih hw d hd hd'=>?_
 obtain⟨hn,hb,hl,hws⟩:=hw
 rw[Zbp]at hd
 have ih':∀ y ∈ l,AP Tryd.prog 13 [itD y,.int .i64 ((d-1:Nat):Int)] (itD y) []:=fun y hy=>by
  have h1:=Zca hd y hy
  have h2:=Zes h1
  exact ih y hy (ZaM hws y hy) (d-1) (by rw[show d-1+1=d by omega];exact h1) (by omega)
 clear ih
 have hlen:=Zal l
 refine AP.ofA ?_
 refine Zao Tryd.func13 rfl Tryd.ntmps13 rfl rfl ?_
 repeat'(first|(apply Zah Zab;exact Z))
 refine ZaC (fun k' tm bx fr=>∃(i c:Nat) (L:List E),k'+i=l.length/\c=L.length/\L=Zan (l.take i)/\tm=[(1,.int .i64 (d:Int)),(2,.ptr 0 0),(4,.ptr 1 0),(5,.ptr 2 0),(6,.int .i64 (i:Int))] /\
  ((i=0/\bx=[itC k n b l,[.int .i64 0,.int .u64 0,.sl .nil [],.sl .nil []],[.int .i64 k,.int .u64 (n:Int),byE b,.sl .nil []]]/\fr=[]) \/
  (bx=[itC k n b l,[.int .i64 0,.int .u64 0,.sl .nil [],.sl .nil []],[.int .i64 k,.int .u64 (n:Int),byE b,.sl (.own 0) L]]/\fr=[⟨c,4,34⟩]))) (l.length+1) (Lands.mk' (m:=l.length) (Nat.lt_succ_self _) ⟨0,0,[],rfl,rfl,rfl,rfl,.inl ⟨rfl,rfl,rfl⟩⟩ ?_ rfl rfl rfl rfl rfl rfl) ?_
 ·exact .cons rfl (.cons rfl (.cons rfl (.cons rfl (.cons rfl .nil))))
 rintro k' tm bx fr ⟨i,c,L,hi,hc,hL,rfl,⟨rfl,rfl,rfl⟩ | ⟨rfl,rfl⟩⟩
 ·cases l with
  | nil=>
   repeat'(first|(apply Zaj Zab;exact Z)|(apply Zah Zab;exact Z)|(apply Zay Zab;exact Z)|(apply Zav;(iterate 3 exact Z);exact Qt)|(apply Zai;exact Z;exact Qt;exact Z;exact Z)|(apply Zae;exact Z;exact Qt)|(apply Zak Zab;(iterate 4 exact Z)))
   all_goals(apply Zaz [];(apply Zad Zab;exact Z);(iterate 4 exact Z))
   all_goals rfl
  | cons y l=>
   have hc:=ih' y (List.mem_cons_self ..)
   have hU:=Zbs (y::l)
   have hd1:decide (((0:Nat):Int)<((Zan (y::l)).length:Int))=true:=decide_eq_true (by rw[Zan];simp)
   have hp:=Zes (Zca hd y (List.mem_cons_self ..))
   have hd2:decide ((d:Int)>0)=true:=decide_eq_true (by omega)
   have ed:IntKind.i64.wrap ((d:Int)-1)=((d-1:Nat):Int):=by rw[IntWalk.i64_in _ (by omega)];omega
   obtain⟨k1,n1,b1,l1⟩:=y
   repeat'(first|(apply Zaa (hc);kernel_rfl;(iterate 4 exact Z))|rw[ed]|(apply Za7 Zab;(iterate 6 exact Z);exact Zag rfl;exact List.cons_ne_nil _ _;exact Z;decide +kernel;decide +kernel;(iterate 3 exact Z))|(apply Zaj Zab;exact Z)|(apply Zah Zab;exact Z)|(apply Zay Zab;exact Z)|(apply Zaf;(iterate 3 exact Z);exact Qt)|(apply Zam;exact Z;exact Qt;exact Z;exact Z)|(apply Zac;exact Z;exact Qt)|(apply Zak Zab;(iterate 4 exact Z))|(apply Za0 Zab;(iterate 12 exact Z))|(apply Zap 11 ZaY;decide +kernel;kernel_rfl;kernel_rfl;kernel_rfl;exact Z;exact Z)|(apply Zas;(iterate 4 exact Z))|exact AE.nil _ _ _ _|(apply Zau;exact Z)|(apply ZaA;exact Z;exact Z;decide +kernel;exact Z)|(apply ZaB;exact Z)|exact AO.nil _ _ _|(apply Zar;(decide +kernel))|exact AOs.nil|exact ZaN rfl rfl|exact Zc9 rfl rfl rfl rfl rfl|(apply Zat Zab;(iterate 6 exact Z);(first|exact Qt|rotate_left);(first|with_reducible assumption|decide +kernel|exact Z);(first|exact Zag rfl|with_reducible assumption|decide +kernel|rotate_left)))
   refine Lands.mk' (m:=k'-1) (by simp at hi;omega) ⟨1,1,Zan [It.mk k1 n1 b1 l1],by simp at hi ⊢;omega,rfl,rfl,rfl,.inr ⟨rfl,rfl⟩⟩ ?_ rfl rfl rfl rfl rfl rfl
   exact .cons rfl (.cons rfl (.cons rfl (.cons rfl (.cons rfl .nil))))
 ·have hU:=Zbs l
  have hU2:Uni 4 L:=hL ▸ Zbs (l.take i)
  have el:=Zal (l.take i)
  rw[<- hL]at el
  subst hc
  rcases Nat.lt_or_ge i l.length with hlt|hge
  ·have hd1:decide ((i:Int)<((Zan l).length:Int))=true:=decide_eq_true (by omega)
   obtain⟨⟨k1,n1,b1,l1⟩,hy⟩:∃ y,l[i]?=some y:=⟨_,List.getElem?_eq_getElem hlt⟩
   have hv:(Zan l)[((i:Nat):Int).toNat]?=some (.agg [.int .i64 k1,.int .u64 (n1:Int),.sl (b1.map E.byte),.sl (Zan l1)]):=by
    rw[Int.toNat_natCast,Zax,List.getElem?_map,hy];rfl
   have hc:=ih' _ (List.mem_of_getElem? hy)
   have hp:=Zes (Zca hd _ (List.mem_of_getElem? hy))
   have hd2:decide ((d:Int)>0)=true:=decide_eq_true (by omega)
   have ed:IntKind.i64.wrap ((d:Int)-1)=((d-1:Nat):Int):=by rw[IntWalk.i64_in _ (by omega)];omega
   have ei:IntKind.i64.wrap ((i:Int)+1)=((i+1:Nat):Int):=by rw[IntWalk.i64_in _ (by omega)];omega
   have hs:L++[E.agg [.int .i64 k1,.int .u64 (n1:Int),.sl (b1.map E.byte),.sl (Zan l1)]]=Zan (l.take (i+1)):=by
    rw[hL,List.take_add_one,hy];exact(Zbz _ [It.mk k1 n1 b1 l1]).symm
   rw[List.length_take]at el
   repeat'(first|(apply Zaa (hc);kernel_rfl;(iterate 4 exact Z))|rw[ei]|rw[ed]|(apply Zaj Zab;exact Z)|(apply Zah Zab;exact Z)|(apply Zay Zab;exact Z)|(apply Zaf;(iterate 3 exact Z);exact Qt)|(apply Zam;exact Z;exact Qt;exact Z;exact Z)|(apply Zac;exact Z;exact Qt)|(apply Zak Zab;(iterate 4 exact Z))|(apply Za0 Zab;(iterate 12 exact Z))|(apply Zap 11 ZaY;decide +kernel;kernel_rfl;kernel_rfl;kernel_rfl;exact Z;exact Z)|(apply Zas;(iterate 4 exact Z))|exact AE.nil _ _ _ _|(apply Zau;exact Z)|(apply ZaA;exact Z;exact Z;decide +kernel;exact Z)|(apply ZaB;exact Z)|exact AO.nil _ _ _|(apply Zar;(decide +kernel))|exact AOs.nil|exact ZaN rfl rfl|exact Zc9 rfl rfl rfl rfl rfl|(apply ZaI Zab;(iterate 6 exact Z);(first|with_reducible assumption|decide +kernel|exact Z|rotate_left);exact Z;exact Z;(first|exact Zag rfl|with_reducible assumption|decide +kernel|rotate_left);(first|exact Zag rfl|with_reducible assumption|decide +kernel|rotate_left);(first|exact Qt|rotate_left);(first|exact Qt|rotate_left);(first|exact Qt|rotate_left);exact Z;exact Z)|(apply Zat Zab;(iterate 6 exact Z);(first|exact Qt|rotate_left);(first|with_reducible assumption|decide +kernel|exact Z);(first|exact Zag rfl|with_reducible assumption|decide +kernel|rotate_left)))
   ·refine Lands.mk' (m:=k'-1) (by omega) ⟨i+1,L.length+1,_,by omega,by rw[List.length_append];rfl,hs,rfl,.inr ⟨rfl,rfl⟩⟩ ?_ rfl rfl rfl rfl rfl rfl
    exact .cons rfl (.cons rfl (.cons rfl (.cons rfl (.cons rfl .nil))))
   all_goals(first|rfl|(simp only[List.length_append,List.length_cons,List.length_nil,List.length_map,Zal];done)|(simp only[List.length_append,List.length_cons,List.length_nil,List.length_map,Zal]at *;(try unfold maxLen);(try simp only[Nat.add_mul]);omega))
  ·have hd1:decide ((i:Int)<((Zan l).length:Int))=false:=decide_eq_false (by omega)
   rw[List.take_of_length_le hge]at hL
   subst hL
   repeat'(first|(apply Zaj Zab;exact Z)|(apply Zah Zab;exact Z)|(apply Zay Zab;exact Z)|(apply Zav;(iterate 3 exact Z);exact Qt)|(apply Zai;exact Z;exact Qt;exact Z;exact Z)|(apply Zae;exact Z;exact Qt)|(apply Zak Zab;(iterate 4 exact Z)))
   all_goals(apply Zaz [];(apply Zad Zab;exact Z);(iterate 4 exact Z))
   all_goals rfl
theorem Zls {l l':List It}(h:l.length ≠ l'.length):It.beqs l l'=false:=by
 rw[<- Bool.not_eq_true]
 intro e
 exact h (congrArg List.length (It.beqs_iff.1 e))
theorem Zb2 [Known]:∀(x:It),wfI x->∀ y:It,wfI y->AP Tryd.prog 14 [itD x,itD y] (.bool (It.beq x y)) []:=by
 refine It.ind fun k n b l ih hw y hw'=>?_
 obtain⟨k',n',b',l'⟩:=y
 obtain⟨_,_,hl,hws⟩:=hw
 obtain⟨_,_,hl',hws'⟩:=hw'
 have e1:=Zal l
 have e2:=Zal l'
 rw[It.beq]
 by_cases h1:k=k'
 case neg=>
  have t1:(k != k')=true:=by simpa using h1
  have tt:((k==k')&&((n==n')&&((b==b')&&It.beqs l l')))=false:=by simp[h1]
  rw[tt]
  refine AP.ofA ?_
  refine Zao Tryd.func14 rfl Tryd.ntmps14 rfl rfl ?_
  repeat'(first|(apply Zaj Zab;exact Z)|(apply Zah Zab;exact Z)|(apply Zay Zab;exact Z)|(apply Zaq;(iterate 3 exact Z);exact Qt)|(apply Zam;exact Z;exact Qt;exact Z;exact Z)|(apply Zac;exact Z;exact Qt))
  all_goals(apply Zaz [];(apply Zad Zab;exact Z);(iterate 4 exact Z))
  all_goals rfl
 have t1:(k != k')=false:=by simpa using h1
 by_cases h2:n=n'
 case neg=>
  have t2:((n:Int) != (n':Int))=true:=by simp;omega
  have tt:((k==k')&&((n==n')&&((b==b')&&It.beqs l l')))=false:=by simp[h2]
  rw[tt]
  refine AP.ofA ?_
  refine Zao Tryd.func14 rfl Tryd.ntmps14 rfl rfl ?_
  repeat'(first|(apply Zaj Zab;exact Z)|(apply Zah Zab;exact Z)|(apply Zay Zab;exact Z)|(apply Zaf;(iterate 3 exact Z);exact Qt)|(apply Zaq;(iterate 3 exact Z);exact Qt)|(apply Zam;exact Z;exact Qt;exact Z;exact Z)|(apply Zai;exact Z;exact Qt;exact Z;exact Z)|(apply Zac;exact Z;exact Qt))
  all_goals(apply Zaz [];(apply Zad Zab;exact Z);(iterate 4 exact Z))
  all_goals rfl
 have t2:((n:Int) != (n':Int))=false:=by simp;omega
 by_cases h3:b=b'
 case neg=>
  have t3:(b != b')=true:=by simpa using h3
  have tt:((k==k')&&((n==n')&&((b==b')&&It.beqs l l')))=false:=by simp[h3]
  rw[tt]
  refine AP.ofA ?_
  refine Zao Tryd.func14 rfl Tryd.ntmps14 rfl rfl ?_
  repeat'(first|(apply Zaj Zab;exact Z)|(apply Zah Zab;exact Z)|(apply Zay Zab;exact Z)|(apply Zaf;(iterate 3 exact Z);exact Qt)|(apply Zaq;(iterate 3 exact Z);exact Qt)|(apply Zam;exact Z;exact Qt;exact Z;exact Z)|(apply Zai;exact Z;exact Qt;exact Z;exact Z)|(apply Zac;exact Z;exact Qt)|(apply ZfJ Zab;(iterate 9 exact Z)))
  all_goals(apply Zaz [];(apply Zad Zab;exact Z);(iterate 4 exact Z))
  all_goals rfl
 have t3:(b != b')=false:=by simpa using h3
 have e:((k==k')&&((n==n')&&((b==b')&&It.beqs l l')))=It.beqs l l':=by simp[h1,h2,h3]
 rw[e]
 by_cases hne:l.length=l'.length
 case neg=>
  have t4:(((Zan l).length:Int) != ((Zan l').length:Int))=true:=by rw[e1,e2];simp;omega
  rw[Zls hne]
  refine AP.ofA ?_
  refine Zao Tryd.func14 rfl Tryd.ntmps14 rfl rfl ?_
  repeat'(first|(apply Zaj Zab;exact Z)|(apply Zah Zab;exact Z)|(apply Zay Zab;exact Z)|(apply Zaf;(iterate 3 exact Z);exact Qt)|(apply Zai;exact Z;exact Qt;exact Z;exact Z)|(apply Zac;exact Z;exact Qt)|(apply Zak Zab;(iterate 4 exact Z))|(apply ZfJ Zab;(iterate 9 exact Z)))
  all_goals(apply Zaz [];(apply Zad Zab;exact Z);(iterate 4 exact Z))
  all_goals rfl
 have t4:(((Zan l).length:Int) != ((Zan l').length:Int))=false:=by rw[e1,e2,hne];simp
 generalize hfin:It.beqs l l'=fin
 have ih':∀ y ∈ l,∀ y' ∈ l',AP Tryd.prog 14 [itD y,itD y'] (.bool (It.beq y y')) []:=fun y hy y' hy'=>ih y hy (ZaM hws y hy) y' (ZaM hws' y' hy')
 clear ih e h1 h2 h3
 refine AP.ofA ?_
 refine Zao Tryd.func14 rfl Tryd.ntmps14 rfl rfl ?_
 repeat'(first|(apply Zaj Zab;exact Z)|(apply Zah Zab;exact Z)|(apply Zay Zab;exact Z)|(apply Zaf;(iterate 3 exact Z);exact Qt)|(apply Zai;exact Z;exact Qt;exact Z;exact Z)|(apply Zae;exact Z;exact Qt)|(apply Zak Zab;(iterate 4 exact Z))|(apply ZfJ Zab;(iterate 9 exact Z)))
 refine ZaC (fun f tm bx fr=>∃ i:Nat,f+i=l.length/\It.beqs (l.drop i) (l'.drop i)=fin/\tm=[(2,.ptr 0 0),(3,.ptr 1 0),(5,.int .i64 (i:Int)),(4,.bool false)]/\bx=[itC k n b l,itC k' n' b' l']/\fr=[]) (l.length+1) (Lands.mk' (m:=l.length) (Nat.lt_succ_self _) ⟨0,rfl,hfin,rfl,rfl,rfl⟩ ?_ rfl rfl rfl rfl rfl rfl) ?_
 ·exact .cons rfl (.cons rfl (.cons rfl (.cons rfl .nil)))
 rintro f tm bx fr ⟨i,hf,hfin,rfl,rfl,rfl⟩
 have hU:=Zbs l
 have hU':=Zbs l'
 rcases Nat.lt_or_ge i l.length with hlt|hge
 ·have hdl:decide ((i:Int)<((Zan l).length:Int))=true:=decide_eq_true (by omega)
  obtain⟨⟨k1,n1,b1,l1⟩,hy⟩:∃ y,l[i]?=some y:=⟨_,List.getElem?_eq_getElem hlt⟩
  obtain⟨⟨k2,n2,b2,l2⟩,hy'⟩:∃ y,l'[i]?=some y:=⟨_,List.getElem?_eq_getElem (by omega)⟩
  have hv:(Zan l)[((i:Nat):Int).toNat]?=some (.agg [.int .i64 k1,.int .u64 (n1:Int),.sl (b1.map E.byte),.sl (Zan l1)]):=by
   rw[Int.toNat_natCast,Zax,List.getElem?_map,hy];rfl
  have hv':(Zan l')[((i:Nat):Int).toNat]?=some (.agg [.int .i64 k2,.int .u64 (n2:Int),.sl (b2.map E.byte),.sl (Zan l2)]):=by
   rw[Int.toNat_natCast,Zax,List.getElem?_map,hy'];rfl
  have hc:=ih' _ (List.mem_of_getElem? hy) _ (List.mem_of_getElem? hy')
  have hdr:l.drop i=It.mk k1 n1 b1 l1::l.drop (i+1):=by
   rw[List.drop_eq_getElem_cons hlt];congr 1
   exact(List.getElem?_eq_some_iff.1 hy).2
  have hdr':l'.drop i=It.mk k2 n2 b2 l2::l'.drop (i+1):=by
   rw[List.drop_eq_getElem_cons (by omega)];congr 1
   exact(List.getElem?_eq_some_iff.1 hy').2
  rw[hdr,hdr',It.beqs]at hfin
  have ei:IntKind.i64.wrap ((i:Int)+1)=((i+1:Nat):Int):=by rw[IntWalk.i64_in _ (by omega)];omega
  cases hb:It.beq (.mk k1 n1 b1 l1) (.mk k2 n2 b2 l2) with
  | false=>
   rw[hb]at hfin hc
   subst hfin
   repeat'(first|(apply Zaa (hc);kernel_rfl;(iterate 4 exact Z))|(apply Zaj Zab;exact Z)|(apply Zah Zab;exact Z)|(apply Zay Zab;exact Z)|(apply Zac;exact Z;exact Qt)|refine ZbE ?_|(apply Zak Zab;(iterate 4 exact Z))|(apply ZaL 10 ZaY;decide +kernel;kernel_rfl;kernel_rfl;exact Z;exact Z)|(apply ZaV;(iterate 3 exact Z))|refine AD.nil _|exact Zbv rfl|(apply Zat Zab;(iterate 6 exact Z);(first|exact Qt|rotate_left);(first|with_reducible assumption|decide +kernel|exact Z);(first|exact Zag rfl|with_reducible assumption|decide +kernel|rotate_left)))
   all_goals(apply Zaz [];(apply Zad Zab;exact Z);(iterate 4 exact Z))
   all_goals rfl
  | true=>
   rw[hb]at hfin hc
   repeat'(first|rw[ei]|(apply Zaa (hc);kernel_rfl;(iterate 4 exact Z))|(apply Zaj Zab;exact Z)|(apply Zah Zab;exact Z)|(apply Zay Zab;exact Z)|(apply Zac;exact Z;exact Qt)|(apply Zae;exact Z;exact Qt)|(apply Zak Zab;(iterate 4 exact Z))|(apply ZaL 10 ZaY;decide +kernel;kernel_rfl;kernel_rfl;exact Z;exact Z)|(apply ZaV;(iterate 3 exact Z))|refine AD.nil _|exact Zbv rfl|(apply Zat Zab;(iterate 6 exact Z);(first|exact Qt|rotate_left);(first|with_reducible assumption|decide +kernel|exact Z);(first|exact Zag rfl|with_reducible assumption|decide +kernel|rotate_left)))
   refine Lands.mk' (m:=f-1) (by omega) ⟨i+1,by omega,hfin,rfl,rfl,rfl⟩ ?_ rfl rfl rfl rfl rfl rfl
   exact .cons rfl (.cons rfl (.cons rfl (.cons rfl .nil)))
 ·have hdl:decide ((i:Int)<((Zan l).length:Int))=false:=decide_eq_false (by omega)
  rw[List.drop_eq_nil_of_le hge,List.drop_eq_nil_of_le (by omega)]at hfin
  have hfin:true=fin:=hfin
  subst hfin
  repeat'(first|(apply Zaj Zab;exact Z)|(apply Zah Zab;exact Z)|(apply Zay Zab;exact Z)|(apply Zae;exact Z;exact Qt)|(apply Zak Zab;(iterate 4 exact Z)))
  all_goals(apply Zaz [];(apply Zad Zab;exact Z);(iterate 4 exact Z))
  all_goals rfl
end Go.Proofs.YtakblclkflnnpaaDoor
end
