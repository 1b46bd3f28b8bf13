/- The document's items: which may be, their bytes. -/
import Derived.Test.YtakblclkflnnpaaGreatDoorK24
import Derived.Test.YtakblclkflnnpaaGreatDoorK23
import Derived.Test.YtakblclkflnnpaaGreatDoorK21
import Derived.Test.YtakblclkflnnpaaGreatDoorK20
import Derived.Test.YtakblclkflnnpaaGreatDoorK10
import Derived.Test.YtakblclkflnnpaaGreatDoorK07
import Derived.Laws.RangeAny
import Derived.LoopTactic
set_option linter.unusedVariables false
set_option linter.unusedSimpArgs false
section
open Go.RowKit Go.Pl Go.Av
namespace Go.Proofs.YtakblclkflnnpaaGreatDoor
set_option maxHeartbeats 4000000
theorem ZfM:∀ {l:List It},Zco l=true->∀ y ∈ l,ZbQ y=true
 | x::l,h,y,hy=>by
  rw[Zco,Bool.and_eq_true]at h
  rcases List.mem_cons.1 hy with rfl|hy
  ·exact h.1
  ·exact ZfM h.2 y hy
theorem n0' (n:Nat):((n:Int) != 0) = !decide (n=0):=by rw[bne,n0]
theorem Zqq {α:Type}{f:α->E}(b:List α):(((b.map f).length:Int) != 0) = !b.isEmpty:=by rw[bne,Zqp]
theorem ZoA [Known]:∀(x:It),wfI x->AP Tryz.prog 175 [itD x] (.bool (ZbQ x)) []:=by
 refine It.ind fun k n b l ih hw=>?_
 obtain⟨_,hb,hl,hws⟩:=hw
 have e1:=Zqp (f:=E.byte) b
 have e2:=Zpz l
 have e3:=n0 n
 have hv:=ZfI b hb
 have hlen:=Zar l
 have hE:∀ P:Bool,(P&&l.isEmpty&&Zco l)=(P&&l.isEmpty):=fun P=>by
  cases l with
  | nil=>rw[Zco,Bool.and_true]
  | cons x l=>simp
 by_cases k0:k=0
 ·subst k0
  have e:ZbQ (.mk 0 n b l)=(b.isEmpty&&l.isEmpty):=by rw[ZbQ];exact hE _
  rw[e]
  cases hbe:b.isEmpty<;>cases hle:l.isEmpty
  all_goals
   rw[hbe]at e1
   rw[hle]at e2
   refine AP.ofA ?_
   refine Zan Tryz.func175 rfl Tryz.ntmps175 rfl rfl ?_
   repeat'(first|rw[e1]|rw[e2]|(apply Zaj Zab;exact Z)|(apply Zah Zab;exact Z)|(apply Zae;(iterate 3 exact Z);exact Go.ZrJ)|(apply Zas;(iterate 3 exact Z);exact Go.ZrJ)|(apply Zak;exact Z;exact Go.ZrJ;exact Z;exact Z)|(apply Zag;exact Z;exact Go.ZrJ;exact Z;exact Z)|(apply Zac;exact Z;exact Go.ZrJ)|(apply Zam Zab;(iterate 4 exact Z)))
   all_goals(apply Zaw [];(apply Zad Zab;exact Z);(iterate 4 exact Z))
   all_goals rfl
 by_cases k2:k=2
 ·subst k2
  have e:ZbQ (.mk 2 n b l)=(decide (n=0)&&l.isEmpty):=by rw[ZbQ];exact hE _
  rw[e]
  cases hbe:decide (n=0)<;>cases hle:l.isEmpty
  all_goals
   rw[hbe]at e3
   rw[hle]at e2
   refine AP.ofA ?_
   refine Zan Tryz.func175 rfl Tryz.ntmps175 rfl rfl ?_
   repeat'(first|rw[e2]|rw[e3]|(apply Zaj Zab;exact Z)|(apply Zah Zab;exact Z)|(apply Zae;(iterate 3 exact Z);exact Go.ZrJ)|(apply Zas;(iterate 3 exact Z);exact Go.ZrJ)|(apply Zak;exact Z;exact Go.ZrJ;exact Z;exact Z)|(apply Zag;exact Z;exact Go.ZrJ;exact Z;exact Z)|(apply Zac;exact Z;exact Go.ZrJ)|(apply Zaf;exact Z;exact Go.ZrJ)|(apply Zam Zab;(iterate 4 exact Z)))
   all_goals(apply Zaw [];(apply Zad Zab;exact Z);(iterate 4 exact Z))
   all_goals rfl
 by_cases k3:k=3
 ·subst k3
  have e:ZbQ (.mk 3 n b l)=(decide (n=0)&&l.isEmpty&&ZaF b):=by
   rw[ZbQ]
   have e:Zc2 3 n b l=(decide (n=0)&&(l.isEmpty&&ZaF b)):=rfl
   rw[e]
   cases l with
   | nil=>rw[Zco];simp
   | cons x l=>simp
  rw[e]
  cases hbe:decide (n=0)<;>cases hle:l.isEmpty
  all_goals
   rw[hbe]at e3
   rw[hle]at e2
   refine AP.ofA ?_
   refine Zan Tryz.func175 rfl Tryz.ntmps175 rfl rfl ?_
   repeat'(first|rw[e2]|rw[e3]|(apply Zaa (hv);kernel_rfl;(iterate 4 exact Z))|(apply Zaj Zab;exact Z)|(apply Zah Zab;exact Z)|(apply Zae;(iterate 3 exact Z);exact Go.ZrJ)|(apply Zas;(iterate 3 exact Z);exact Go.ZrJ)|(apply Zak;exact Z;exact Go.ZrJ;exact Z;exact Z)|(apply Zag;exact Z;exact Go.ZrJ;exact Z;exact Z)|(apply Zac;exact Z;exact Go.ZrJ)|(apply Zaf;exact Z;exact Go.ZrJ)|(apply Zam Zab;(iterate 4 exact Z)))
   all_goals(apply Zaw [];(apply Zad Zab;exact Z);(iterate 4 exact Z))
   all_goals rfl
 by_cases k4:k=4
 ·subst k4
  have e:ZbQ (.mk 4 n b l)=((decide (n=0)&&b.isEmpty)&&Zco l):=by rw[ZbQ];rfl
  rw[e]
  have f1:=n0' n
  have f2:=Zqq (f:=E.byte) b
  cases hbe:decide (n=0) with
  | false=>
   rw[hbe]at f1
   replace f1:((n:Int) != 0)=true:=f1
   refine AP.ofA ?_
   refine Zan Tryz.func175 rfl Tryz.ntmps175 rfl rfl ?_
   repeat'(first|(apply Zaj Zab;exact Z)|(apply Zah Zab;exact Z)|(apply Zav Zab;exact Z)|(apply Zal;(iterate 3 exact Z);exact Go.ZrJ)|(apply Zak;exact Z;exact Go.ZrJ;exact Z;exact Z)|(apply Zac;exact Z;exact Go.ZrJ)|(apply Zaf;exact Z;exact Go.ZrJ))
   all_goals(apply Zaw [];(apply Zad Zab;exact Z);(iterate 4 exact Z))
   all_goals rfl
  | true=>
   rw[hbe]at f1
   replace f1:((n:Int) != 0)=false:=f1
   cases hle:b.isEmpty with
   | false=>
    rw[hle]at f2
    replace f2:(((b.map E.byte).length:Int) != 0)=true:=f2
    refine AP.ofA ?_
    refine Zan Tryz.func175 rfl Tryz.ntmps175 rfl rfl ?_
    repeat'(first|(apply Zaj Zab;exact Z)|(apply Zah Zab;exact Z)|(apply Zav Zab;exact Z)|(apply Zae;(iterate 3 exact Z);exact Go.ZrJ)|(apply Zag;exact Z;exact Go.ZrJ;exact Z;exact Z)|(apply Zac;exact Z;exact Go.ZrJ)|(apply Zaf;exact Z;exact Go.ZrJ)|(apply Zam Zab;(iterate 4 exact Z)))
    all_goals(apply Zaw [];(apply Zad Zab;exact Z);(iterate 4 exact Z))
    all_goals rfl
   | true=>
    rw[hle]at f2
    replace f2:(((b.map E.byte).length:Int) != 0)=false:=f2
    rw[Bool.true_and,Bool.true_and]
    generalize hfin:Zco l=fin
    refine AP.ofA ?_
    refine Zan Tryz.func175 rfl Tryz.ntmps175 rfl rfl ?_
    repeat'(first|(apply Zaj Zab;exact Z)|(apply Zah Zab;exact Z)|(apply Zav Zab;exact Z)|(apply Zae;(iterate 3 exact Z);exact Go.ZrJ)|(apply Zag;exact Z;exact Go.ZrJ;exact Z;exact Z)|(apply Zac;exact Z;exact Go.ZrJ)|(apply Zaf;exact Z;exact Go.ZrJ)|(apply Zam Zab;(iterate 4 exact Z)))
    refine ZaE (fun f tm bx fr=>∃ i:Nat,f+i=l.length/\Zco (l.drop i)=fin/\tm=[(1,.ptr 0 0),(3,.int .i64 (i:Int))]/\bx=[itC 4 n b l]/\fr=[]) (l.length+1) (Lands.mk' (m:=l.length) (Nat.lt_succ_self _) ⟨0,rfl,hfin,rfl,rfl,rfl⟩ ?_ rfl rfl rfl rfl rfl rfl) ?_
    ·exact .cons rfl (.cons rfl .nil)
    rintro f tm bx fr ⟨i,hf,hfin,rfl,rfl,rfl⟩
    have hU:=Zb8 l
    rcases Nat.lt_or_ge i l.length with hlt|hge
    ·have hdl:decide ((i:Int)<((Zax l).length:Int))=true:=decide_eq_true (by omega)
     obtain⟨⟨k1,n1,b1,l1⟩,hy⟩:∃ y,l[i]?=some y:=⟨_,List.getElem?_eq_getElem hlt⟩
     have hv:(Zax l)[((i:Nat):Int).toNat]?=some (.agg [.int .i64 k1,.int .u64 (n1:Int),.sl (b1.map E.byte),.sl (Zax l1)]):=by
      rw[Int.toNat_natCast,ZaI,List.getElem?_map,hy];rfl
     have hmem:=List.mem_of_getElem? hy
     have hc:=ih _ hmem (ZaY hws _ hmem)
     have hdr:l.drop i=It.mk k1 n1 b1 l1::l.drop (i+1):=by
      rw[List.drop_eq_getElem_cons hlt];congr 1
      exact(List.getElem?_eq_some_iff.1 hy).2
     rw[hdr,Zco]at hfin
     have ei:IntKind.i64.wrap ((i:Int)+1)=((i+1:Nat):Int):=by rw[IntWalk.i64_in _ (by omega)];omega
     cases hq:ZbQ (.mk k1 n1 b1 l1) with
     | false=>
      rw[hq]at hc hfin
      rw[Bool.false_and]at hfin
      subst hfin
      repeat'(first|(apply Zaa (hc);kernel_rfl;(iterate 4 exact Z))|(apply Zaj Zab;exact Z)|(apply Zah Zab;exact Z)|(apply Zav Zab;exact Z)|(apply Zac;exact Z;exact Go.ZrJ)|refine Zbj ?_|(apply Zam Zab;(iterate 4 exact Z))|(apply Zau Zab;(iterate 6 exact Z);(first|exact Go.ZrJ|rotate_left);(first|with_reducible assumption|decide +kernel|exact Z);(first|exact Zai rfl|with_reducible assumption|decide +kernel|rotate_left)))
      all_goals(apply Zaw [];(apply Zad Zab;exact Z);(iterate 4 exact Z))
      all_goals rfl
     | true=>
      rw[hq]at hc hfin
      rw[Bool.true_and]at hfin
      repeat'(first|rw[ei]|(apply Zaa (hc);kernel_rfl;(iterate 4 exact Z))|(apply Zaj Zab;exact Z)|(apply Zah Zab;exact Z)|(apply Zav Zab;exact Z)|(apply Zac;exact Z;exact Go.ZrJ)|(apply Zaf;exact Z;exact Go.ZrJ)|(apply Zam Zab;(iterate 4 exact Z))|(apply Zau Zab;(iterate 6 exact Z);(first|exact Go.ZrJ|rotate_left);(first|with_reducible assumption|decide +kernel|exact Z);(first|exact Zai rfl|with_reducible assumption|decide +kernel|rotate_left)))
      refine Lands.mk' (m:=f-1) (by omega) ⟨i+1,by omega,hfin,rfl,rfl,rfl⟩ ?_ rfl rfl rfl rfl rfl rfl
      exact .cons rfl (.cons rfl .nil)
    ·have hdl:decide ((i:Int)<((Zax l).length:Int))=false:=decide_eq_false (by omega)
     rw[List.drop_eq_nil_of_le hge]at hfin
     have hfin:true=fin:=hfin
     subst hfin
     repeat'(first|(apply Zaj Zab;exact Z)|(apply Zah Zab;exact Z)|(apply Zav Zab;exact Z)|(apply Zaf;exact Z;exact Go.ZrJ)|(apply Zam Zab;(iterate 4 exact Z)))
     all_goals(apply Zaw [];(apply Zad Zab;exact Z);(iterate 4 exact Z))
     all_goals rfl
 ·have t0:(k==0)=false:=by simpa using k0
  have t2:(k==2)=false:=by simpa using k2
  have t3:(k==3)=false:=by simpa using k3
  have t4:(k==4)=false:=by simpa using k4
  have e:ZbQ (.mk k n b l)=false:=by rw[ZbQ];simp[Zc2,k0,k2,k3,k4]
  rw[e]
  refine AP.ofA ?_
  refine Zan Tryz.func175 rfl Tryz.ntmps175 rfl rfl ?_
  repeat'(first|(apply Zah Zab;exact Z)|(apply Zaf;exact Z;exact Go.ZrJ))
  all_goals(apply Zaw [];(apply Zad Zab;exact Z);(iterate 4 exact Z))
  all_goals rfl
theorem ZdB [Known](x:It)(hw:wfI x)(hs:ZbL x<=1000):AP Tryz.prog 147 [itD x] (.bool (ZaC x)) []:=by
 have h1:=Zoz x hw 7 (by omega)
 have h2:=Zoy 257 (by omega) x hs
 have h3:=ZoA x hw
 replace h1:AP Tryz.prog _ [itD x,.int .i64 7] (.int .i64 (Zg7 x 7:Int)) []:=h1
 replace h2:AP Tryz.prog _ [itD x,.int .i64 257] (.int .i64 (ZcW x 257:Int)) []:=h2
 rw[<- ZlG]
 have e1:decide ((Zg7 x 7:Int)<=6)=decide (Zg7 x 7<=6):=by rw[decide_eq_decide];omega
 have e2:decide ((ZcW x 257:Int)<=256)=decide (ZcW x 257<=256):=by rw[decide_eq_decide];omega
 generalize decide (Zg7 x 7<=6)=p at *
 generalize decide (ZcW x 257<=256)=q at *
 generalize ZbQ x=r at *
 obtain⟨k,n,b,l⟩:=x
 cases p<;>cases q
 all_goals
  refine AP.ofA ?_
  refine Zan Tryz.func147 rfl Tryz.ntmps147 rfl rfl ?_
  repeat'(first|(apply Zaa (h1);kernel_rfl;(iterate 4 exact Z))|(apply Zaa (h2);kernel_rfl;(iterate 4 exact Z))|(apply Zaa (h3);kernel_rfl;(iterate 4 exact Z))|(apply Zaj Zab;exact Z)|(apply Zah Zab;exact Z)|(apply Zae;(iterate 3 exact Z);exact Go.ZrJ)|(apply Zas;(iterate 3 exact Z);exact Go.ZrJ)|(apply Zak;exact Z;exact Go.ZrJ;exact Z;exact Z)|(apply Zag;exact Z;exact Go.ZrJ;exact Z;exact Z))
  all_goals(apply Zaw [];(apply Zad Zab;exact Z);(iterate 4 exact Z))
  all_goals rfl
theorem Zkm (h:Hd):∃ c t,ZaN h=c::t:=by
 unfold ZaN
 split
 ·exact⟨_,_,rfl⟩
 ·exact⟨_,_,rfl⟩
theorem ZhN [Known]:∀(x:It),wfI x->ZbQ x=true->(Za9 x).length<=1099511627776->AP Tryz.prog 110 [itD x] (byE (Za9 x)) []:=by
 refine It.ind fun k n b l ih hw hfi hlim=>?_
 obtain⟨hn,hb,hl,hws⟩:=hw
 rw[ZbQ,Bool.and_eq_true]at hfi
 obtain⟨ho,hfs⟩:=hfi
 have hlen:=Zar l
 have hk7:=ZeB ho
 have hr:ZaZ (k,(It.mk k n b l).hn,false)=true:=by simp[ZaZ];exact hk7
 have hhn:(It.mk k n b l).hn<18446744073709551616:=by simp only[It.hn];(repeat' split)<;>omega
 have hput:Za9 (.mk k n b l)=ZaN (k,(It.mk k n b l).hn,false)++(b++Zba l):=by rw[Za9,if_pos hr]
 have hW:=ZhI (k,(It.mk k n b l).hn,false) hr hhn
 obtain⟨c0,t0,hcw⟩:=Zkm (k,(It.mk k n b l).hn,false)
 rw[hput]at hlim ⊢
 rw[hcw]at hW hlim ⊢
 have hU0:=Zbm (c0::t0)
 have hU1:=Zbm b
 clear hr hhn hcw hput
 have eb:IntKind.u64.wrap (((b.map E.byte).length:Nat):Int)=((b.length:Nat):Int):=by rw[List.length_map,IntKind.wrap_u64];omega
 have el:IntKind.u64.wrap (((Zax l).length:Nat):Int)=((l.length:Nat):Int):=by rw[hlen,IntKind.wrap_u64];omega
 rcases Zgn ho with⟨rfl,rfl,rfl⟩ | ⟨rfl,rfl,rfl⟩ | ⟨rfl,rfl,rfl,_⟩ | ⟨rfl,rfl,rfl⟩
 ·replace hW:AT Tryz.prog _ [.agg [.int .i64 0,.int .u64 (n:Int),.bool false]] [] [] _ [] _:=hW
  refine AP.ofA ?_
  refine Zan Tryz.func110 rfl Tryz.ntmps110 rfl rfl ?_
  repeat'(first|(apply ZaS [] [] (hW);kernel_rfl;(iterate 10 exact Z))|refine Zbf 70 ?_|refine Zbs ?_|(apply Zaj Zab;exact Z)|(apply Zah Zab;exact Z)|(apply Zav Zab;exact Z)|(apply Zaf;exact Z;exact Go.ZrJ)|(apply Zam Zab;(iterate 4 exact Z))|(apply ZaG Zab;(iterate 6 exact Z)))
  all_goals(apply Zaw [];(apply Zad Zab;exact Z);(iterate 4 exact Z))
  ·rw[Zba,List.append_nil,List.append_nil]
  ·rfl
 ·replace hW:AT Tryz.prog _ [.agg [.int .i64 2,.int .u64 (b.length:Int),.bool false]] [] [] _ [] _:=hW
  rcases b with _|⟨c1,b⟩
  ·refine AP.ofA ?_
   refine Zan Tryz.func110 rfl Tryz.ntmps110 rfl rfl ?_
   repeat'(first|rw[eb]|(apply ZaS [] [] (hW);kernel_rfl;(iterate 10 exact Z))|refine Zbf 70 ?_|refine Zbs ?_|(apply Zaj Zab;exact Z)|(apply Zah Zab;exact Z)|(apply Zav Zab;exact Z)|(apply Zac;exact Z;exact Go.ZrJ)|(apply Zaf;exact Z;exact Go.ZrJ)|(apply Zam Zab;(iterate 4 exact Z))|(apply ZaG Zab;(iterate 6 exact Z)))
   all_goals(apply Zaw [];(apply Zad Zab;exact Z);(iterate 4 exact Z))
   ·rw[Zba,List.append_nil,List.append_nil]
   ·rfl
  ·refine AP.ofA ?_
   refine Zan Tryz.func110 rfl Tryz.ntmps110 rfl rfl ?_
   repeat'(first|rw[eb]|(apply ZaS [] [] (hW);kernel_rfl;(iterate 10 exact Z))|refine Zbf 70 ?_|refine Zbs ?_|(apply Zaj Zab;exact Z)|(apply Zah Zab;exact Z)|(apply Zav Zab;exact Z)|(apply Zac;exact Z;exact Go.ZrJ)|(apply Zaf;exact Z;exact Go.ZrJ)|(apply Zam Zab;(iterate 4 exact Z))|(apply ZaJ Zab;(iterate 6 exact Z);(first|with_reducible assumption|decide +kernel|exact Z|rotate_left);exact Z;exact Z;(first|exact Zai rfl|with_reducible assumption|decide +kernel|rotate_left);(first|exact Zai rfl|with_reducible assumption|decide +kernel|rotate_left);(first|exact Go.ZrJ|rotate_left);(first|exact Go.ZrJ|rotate_left);(first|exact Go.ZrJ|rotate_left);exact Z;exact Z))
   all_goals first|(apply Zaw [];(apply Zad Zab;exact Z);(iterate 4 exact Z))|(first|rfl|(simp only[List.length_append,List.length_cons,List.length_nil,List.length_map,Zar];done)|(simp only[List.length_append,List.length_cons,List.length_nil,List.length_map,Zar]at *;(try unfold maxLen);(try simp only[Nat.add_mul]);omega))
   ·rw[Zba,List.append_nil];exact congrArg (D.sl .ext) (List.map_append (f:=E.byte) (l₁:=c0::t0) (l₂:=c1::b)).symm
   ·rfl
 ·replace hW:AT Tryz.prog _ [.agg [.int .i64 3,.int .u64 (b.length:Int),.bool false]] [] [] _ [] _:=hW
  rcases b with _|⟨c1,b⟩
  ·refine AP.ofA ?_
   refine Zan Tryz.func110 rfl Tryz.ntmps110 rfl rfl ?_
   repeat'(first|rw[eb]|(apply ZaS [] [] (hW);kernel_rfl;(iterate 10 exact Z))|refine Zbf 70 ?_|refine Zbs ?_|(apply Zaj Zab;exact Z)|(apply Zah Zab;exact Z)|(apply Zav Zab;exact Z)|(apply Zac;exact Z;exact Go.ZrJ)|(apply Zaf;exact Z;exact Go.ZrJ)|(apply Zam Zab;(iterate 4 exact Z))|(apply ZaG Zab;(iterate 6 exact Z)))
   all_goals(apply Zaw [];(apply Zad Zab;exact Z);(iterate 4 exact Z))
   ·rw[Zba,List.append_nil,List.append_nil]
   ·rfl
  ·refine AP.ofA ?_
   refine Zan Tryz.func110 rfl Tryz.ntmps110 rfl rfl ?_
   repeat'(first|rw[eb]|(apply ZaS [] [] (hW);kernel_rfl;(iterate 10 exact Z))|refine Zbf 70 ?_|refine Zbs ?_|(apply Zaj Zab;exact Z)|(apply Zah Zab;exact Z)|(apply Zav Zab;exact Z)|(apply Zac;exact Z;exact Go.ZrJ)|(apply Zaf;exact Z;exact Go.ZrJ)|(apply Zam Zab;(iterate 4 exact Z))|(apply ZaJ Zab;(iterate 6 exact Z);(first|with_reducible assumption|decide +kernel|exact Z|rotate_left);exact Z;exact Z;(first|exact Zai rfl|with_reducible assumption|decide +kernel|rotate_left);(first|exact Zai rfl|with_reducible assumption|decide +kernel|rotate_left);(first|exact Go.ZrJ|rotate_left);(first|exact Go.ZrJ|rotate_left);(first|exact Go.ZrJ|rotate_left);exact Z;exact Z))
   all_goals first|(apply Zaw [];(apply Zad Zab;exact Z);(iterate 4 exact Z))|(first|rfl|(simp only[List.length_append,List.length_cons,List.length_nil,List.length_map,Zar];done)|(simp only[List.length_append,List.length_cons,List.length_nil,List.length_map,Zar]at *;(try unfold maxLen);(try simp only[Nat.add_mul]);omega))
   ·rw[Zba,List.append_nil];exact congrArg (D.sl .ext) (List.map_append (f:=E.byte) (l₁:=c0::t0) (l₂:=c1::b)).symm
   ·rfl
 ·replace hW:AT Tryz.prog _ [.agg [.int .i64 4,.int .u64 (l.length:Int),.bool false]] [] [] _ [] _:=hW
  refine AP.ofA ?_
  refine Zan Tryz.func110 rfl Tryz.ntmps110 rfl rfl ?_
  repeat'(first|rw[el]|(apply ZaS [] [] (hW);kernel_rfl;(iterate 10 exact Z))|(apply Zaj Zab;exact Z)|(apply Zah Zab;exact Z)|(apply Zac;exact Z;exact Go.ZrJ)|(apply Zam Zab;(iterate 4 exact Z))|(apply ZaG Zab;(iterate 6 exact Z)))
  refine ZaE (fun f tm bx fr=>∃(i c:Nat) (M:List E),f+i=l.length/\c=M.length/\M=((c0::t0)++Zba (l.take i)).map E.byte/\tm=[(1,.ptr 0 0),(4,.sl (.own 0) M),(5,.int .i64 (i:Int))]/\bx=[itC 4 0 [] l,[.int .i64 4,.int .u64 (l.length:Int),.bool false]]/\fr=[⟨c,1,5⟩]) (l.length+1) (Lands.mk' (m:=l.length) (Nat.lt_succ_self _) ⟨0,(c0::t0).length,(c0::t0).map E.byte,rfl,by rw[List.length_map],by rw[List.take_zero,Zba,List.append_nil],rfl,rfl,rfl⟩ ?_ rfl rfl rfl rfl rfl rfl) ?_
  ·exact .cons rfl (.cons rfl (.cons rfl .nil))
  rintro f tm bx fr ⟨i,c,M,hf,hc,hM,rfl,rfl,rfl⟩
  subst hc
  have hU:=Zb8 l
  have hUM:Uni 1 M:=by rw[hM];exact Zbm _
  have hMl:M.length=(c0::t0).length+(Zba (l.take i)).length:=by rw[hM,List.length_map,List.length_append]
  rcases Nat.lt_or_ge i l.length with hlt|hge
  ·have hdl:decide ((i:Int)<((Zax l).length:Int))=true:=decide_eq_true (by omega)
   obtain⟨⟨k1,n1,b2,l1⟩,hy⟩:∃ y,l[i]?=some y:=⟨_,List.getElem?_eq_getElem hlt⟩
   have hv:(Zax l)[((i:Nat):Int).toNat]?=some (.agg [.int .i64 k1,.int .u64 (n1:Int),.sl (b2.map E.byte),.sl (Zax l1)]):=by
    rw[Int.toNat_natCast,ZaI,List.getElem?_map,hy];rfl
   have hmem:=List.mem_of_getElem? hy
   have hps:=ZaK hy
   have hpl:=ZaO l (i+1)
   have hps2:=congrArg List.length hps
   rw[List.length_append]at hps2
   rw[List.length_append,List.nil_append]at hlim
   have hfy:=ZfM hfs _ hmem
   have hc:=ih _ hmem (ZaY hws _ hmem) hfy (by omega)
   rw[ZbQ,Bool.and_eq_true]at hfy
   have hk1:=ZeB hfy.1
   have hpos:=Zji (x:=.mk k1 n1 b2 l1) hk1
   generalize Za9 (.mk k1 n1 b2 l1)=Q at hc hps hps2 hpos
   obtain⟨q0,Q,rfl⟩:∃ q0 Q',Q=q0::Q':=by
    cases Q with
    | nil=>simp at hpos
    | cons q Q=>exact⟨q,Q,rfl⟩
   have hUQ:=Zbm (q0::Q)
   have ei:IntKind.i64.wrap ((i:Int)+1)=((i+1:Nat):Int):=by rw[IntWalk.i64_in _ (by omega)];omega
   repeat'(first|rw[ei]|(apply Zaa (hc);kernel_rfl;(iterate 4 exact Z))|(apply Zaj Zab;exact Z)|(apply Zah Zab;exact Z)|(apply Zav Zab;exact Z)|(apply Zac;exact Z;exact Go.ZrJ)|(apply Zam Zab;(iterate 4 exact Z))|(apply ZaJ Zab;(iterate 6 exact Z);(first|with_reducible assumption|decide +kernel|exact Z|rotate_left);exact Z;exact Z;(first|exact Zai rfl|with_reducible assumption|decide +kernel|rotate_left);(first|exact Zai rfl|with_reducible assumption|decide +kernel|rotate_left);(first|exact Go.ZrJ|rotate_left);(first|exact Go.ZrJ|rotate_left);(first|exact Go.ZrJ|rotate_left);exact Z;exact Z)|(apply Zau Zab;(iterate 6 exact Z);(first|exact Go.ZrJ|rotate_left);(first|with_reducible assumption|decide +kernel|exact Z);(first|exact Zai rfl|with_reducible assumption|decide +kernel|rotate_left)))
   all_goals first|(first|rfl|(simp only[List.length_append,List.length_cons,List.length_nil,List.length_map,Zar];done)|(simp only[List.length_append,List.length_cons,List.length_nil,List.length_map,Zar]at *;(try unfold maxLen);(try simp only[Nat.add_mul]);omega))|skip
   refine Lands.mk' (m:=f-1) (by omega) ⟨i+1,M.length+((q0::Q).map E.byte).length,M++(q0::Q).map E.byte,by omega,by rw[List.length_append],by rw[hM,hps,<- List.map_append,List.append_assoc],rfl,rfl,rfl⟩ ?_ rfl rfl rfl rfl rfl rfl
   exact .cons rfl (.cons rfl (.cons rfl .nil))
  ·have hdl:decide ((i:Int)<((Zax l).length:Int))=false:=decide_eq_false (by omega)
   rw[List.take_of_length_le hge]at hM
   repeat'(first|(apply Zaj Zab;exact Z)|(apply Zah Zab;exact Z)|(apply Zav Zab;exact Z)|(apply Zaf;exact Z;exact Go.ZrJ)|(apply Zam Zab;(iterate 4 exact Z)))
   all_goals(apply Zaw [];(apply Zad Zab;exact Z);(iterate 4 exact Z))
   ·rw[hM];rfl
   ·rfl
theorem ZlH [Known](l:List It)(hne:l ≠ [])(hl:l.length<=1000000):AT Tryz.prog 168 [.sl .ext (Zax l)] [] [] (.sl (.own 0) (Zax l)) [] [⟨l.length,4,32⟩]:=by
 have hU:=Zb8 l
 have hlen:=Zar l
 rw[<- hlen]
 rw[<- hlen]at hl
 have hE:Zax l ≠ []:=fun h=>hne (by rw[h]at hlen;exact List.length_eq_zero_iff.1 hlen.symm)
 refine Zan Tryz.func168 rfl Tryz.ntmps168 rfl rfl ?_
 repeat'(first|(apply Zin Zab;(iterate 5 exact Z);intro b hbn;(have hbn2:=hbn hE);subst hbn2;clear hbn)|(apply Zaj Zab;exact Z)|(apply Zah Zab;exact Z)|(apply Zav Zab;exact Z)|(apply Zaf;exact Z;(first|with_reducible assumption|(solve|simp only[bn])))|(apply Zfw Zab;(iterate 12 exact Z))|(apply ZaJ Zab;(iterate 6 exact Z);(first|with_reducible assumption|exact Z|rotate_left);exact Z;exact Z;(first|exact Zai rfl|with_reducible assumption|rotate_left);(first|exact Zai rfl|with_reducible assumption|rotate_left);(first|exact Go.ZrK|rotate_left);(first|exact Go.ZrK|rotate_left);(first|exact Go.ZrK|rotate_left);exact Z;exact Z))
 all_goals first|(apply ZeR [] [0];(apply Zad Zab;exact Z);(iterate 7 exact Z))|skip
 all_goals first|rfl|(simp at hl ⊢;(try unfold maxLen);omega)|(simp at hl ⊢;done)
theorem ZmY [Known][KnownU8](x:It)(hw:wfI x):AP Tryz.prog 137 [itD x] (.bool (!ZaC x)) []:=by
 have hR:=Zch x hw
 obtain⟨k,n,b,l⟩:=x
 refine AP.ofA ?_
 refine Zan Tryz.func137 rfl Tryz.ntmps137 rfl rfl ?_
 repeat'(first|(apply Zaa (hR);kernel_rfl;(iterate 4 exact Z))|(apply Zaj Zab;exact Z)|(apply Zah Zab;exact Z))
 all_goals(apply Zaw [];(apply Zad Zab;exact Z);(iterate 4 exact Z))
 all_goals rfl
def fiI:List It->Nat->Int
 | [],_ => -1
 | x::l,i=>match ZaC x with|true=>fiI l (i+1)|false=>(i:Int)
theorem ZnH:∀(l:List It) (i:Nat),decide (fiI l i ≥ 0) = !(l.all ZaC)
 | [],_=>rfl
 | x::l,i=>by
  rw[fiI,List.all_cons]
  cases ZaC x with
  | true=>simpa using ZnH l (i+1)
  | false=>simp
theorem ZoB [Known][KnownU8](l:List It)(hws:wfs l)(hl:l.length<=1000000):AP Tryz.prog 167 [.sl .ext (Zax l),.fn 137 []] (.int .i64 (fiI l 0)) []:=by
 have hlen:=Zar l
 have hU:=Zb8 l
 generalize hfin:fiI l 0=fin
 refine AP.ofA ?_
 refine Zan Tryz.func167 rfl Tryz.ntmps167 rfl rfl ?_
 repeat'(first|(apply Zaj Zab;exact Z)|(apply Zah Zab;exact Z)|(apply Zam Zab;(iterate 4 exact Z)))
 refine ZaE (fun f tm bx fr=>∃(i:Nat),f+i=l.length/\fiI (l.drop i) i=fin/\tm=[(0,.sl .ext (Zax l)),(1,.fn 137 []),(4,.int .i64 0),(7,.int .i64 ((Zax l).length:Int)),(8,.int .i64 (i:Int))]/\bx=[]/\fr=[]) (l.length+1) (Lands.mk' (m:=l.length) (Nat.lt_succ_self _) ⟨0,by omega,hfin,rfl,rfl,rfl⟩ ?_ rfl rfl rfl rfl rfl rfl) ?_
 ·exact .cons rfl (.cons rfl (.cons rfl (.cons rfl (.cons rfl .nil))))
 rintro f tm bx fr ⟨i,hf,hq,rfl,rfl,rfl⟩
 rcases Nat.lt_or_ge i l.length with hlt|hge
 ·have hdl:decide ((i:Int)<((Zax l).length:Int))=true:=decide_eq_true (by omega)
  obtain⟨⟨k1,n1,b1,l1⟩,hy⟩:∃ y,l[i]?=some y:=⟨_,List.getElem?_eq_getElem hlt⟩
  have hv:(Zax l)[((i:Nat):Int).toNat]?=some (.agg [.int .i64 k1,.int .u64 (n1:Int),.sl (b1.map E.byte),.sl (Zax l1)]):=by
   rw[Int.toNat_natCast,ZaI,List.getElem?_map,hy];rfl
  have hc:=ZmY _ (ZaY hws _ (List.mem_of_getElem? hy))
  have hdr:l.drop i=It.mk k1 n1 b1 l1::l.drop (i+1):=by
   rw[List.drop_eq_getElem_cons hlt];congr 1
   exact(List.getElem?_eq_some_iff.1 hy).2
  rw[hdr,fiI]at hq
  have ei:IntKind.i64.wrap ((i:Int)+1)=((i+1:Nat):Int):=by rw[IntWalk.i64_in _ (by omega)];omega
  cases hb:ZaC (.mk k1 n1 b1 l1) with
  | true=>
   rw[hb]at hq hc
   replace hc:AP Tryz.prog _ _ (.bool false) []:=hc
   repeat'(first|rw[ei]|(apply Zc1 (hc);exact Z;kernel_rfl;(iterate 3 exact Z))|(apply Zaj Zab;exact Z)|(apply Zah Zab;exact Z)|(apply Zav Zab;exact Z)|(apply Zac;exact Z;exact Go.ZrJ)|(apply Zaf;exact Z;exact Go.ZrJ)|(apply Zau Zab;(iterate 6 exact Z);(first|exact Go.ZrJ|rotate_left);(first|with_reducible assumption|decide +kernel|exact Z);(first|exact Zai rfl|with_reducible assumption|decide +kernel|rotate_left)))
   refine Lands.mk' (m:=f-1) (by omega) ⟨i+1,by omega,hq,rfl,rfl,rfl⟩ ?_ rfl rfl rfl rfl rfl rfl
   exact .cons rfl (.cons rfl (.cons rfl (.cons rfl (.cons rfl .nil))))
  | false=>
   rw[hb]at hq hc
   replace hc:AP Tryz.prog _ _ (.bool true) []:=hc
   have hq:(i:Int)=fin:=hq
   subst hq
   repeat'(first|(apply Zc1 (hc);exact Z;kernel_rfl;(iterate 3 exact Z))|(apply Zaj Zab;exact Z)|(apply Zah Zab;exact Z)|(apply Zav Zab;exact Z)|(apply Zac;exact Z;exact Go.ZrJ)|refine Zbj ?_|(apply Zau Zab;(iterate 6 exact Z);(first|exact Go.ZrJ|rotate_left);(first|with_reducible assumption|decide +kernel|exact Z);(first|exact Zai rfl|with_reducible assumption|decide +kernel|rotate_left)))
   all_goals(apply Zaw [];(apply Zad Zab;exact Z);(iterate 4 exact Z))
   all_goals rfl
 ·have hdl:decide ((i:Int)<((Zax l).length:Int))=false:=decide_eq_false (by omega)
  rw[List.drop_eq_nil_of_le hge]at hq
  have hq:(-1:Int)=fin:=hq
  subst hq
  repeat'(first|(apply Zah Zab;exact Z)|(apply Zaf;exact Z;exact Go.ZrJ))
  all_goals(apply Zaw [];(apply Zad Zab;exact Z);(iterate 4 exact Z))
  all_goals rfl
theorem ZmZ [Known][KnownU8](l:List It)(hws:wfs l)(hl:l.length<=1000000):AP Tryz.prog 140 [.sl .ext (Zax l),.fn 137 []] (.bool (!(l.all ZaC))) []:=by
 have hI:=ZoB l hws hl
 rw[<- ZnH l 0]
 refine AP.ofA ?_
 refine Zan Tryz.func140 rfl Tryz.ntmps140 rfl rfl ?_
 repeat'(first|(apply Zaa (hI);kernel_rfl;(iterate 4 exact Z))|(apply Zaj Zab;exact Z)|(apply Zah Zab;exact Z))
 all_goals(apply Zaw [];(apply Zad Zab;exact Z);(iterate 4 exact Z))
 all_goals rfl
def ZaQ (l:List It)(a:Int):Int:=if a<0 then -1 else match l[a.toNat]? with
 | none => -1
 | some (.mk k n b r)=>match decide ((n:Int)>2) with
  | true => -1
  | false=>match It.beq (.mk k n b r) (.mk 0 n [] []) with
   | true=>(n:Int)
   | false => -1
theorem ZhO [Known](l:List It)(hws:wfs l)(a:Int):AP Tryz.prog 139 [.sl .ext (Zax l),.int .i64 a] (.int .i64 (ZaQ l a)) []:=by
 have hlen:=Zar l
 have hU:=Zb8 l
 unfold ZaQ
 rcases Int.lt_or_le a 0 with h0|h0
 ·have t1:decide (a<0)=true:=decide_eq_true h0
  rw[if_pos h0]
  refine AP.ofA ?_
  refine Zan Tryz.func139 rfl Tryz.ntmps139 rfl rfl ?_
  repeat'(first|(apply Zaj Zab;exact Z)|(apply Zah Zab;exact Z)|(apply Zav Zab;exact Z)|(apply Zal;(iterate 3 exact Z);exact Go.ZrJ)|(apply Zak;exact Z;exact Go.ZrJ;exact Z;exact Z)|(apply Zac;exact Z;exact Go.ZrJ)|(apply Zao 27 ZaL;decide +kernel;kernel_rfl;kernel_rfl;kernel_rfl;exact Z;exact Z)|(apply Zaq;(iterate 4 exact Z))|exact AE.nil _ _ _ _|(apply Zat;exact Z)|(apply Zay;exact Z;exact Z;decide +kernel;exact Z)|(apply Zaz;exact Z)|exact AO.nil _ _ _|(apply Zap;(decide +kernel))|exact AOs.nil|exact ZaH rfl rfl)
  all_goals(apply Zaw [];(apply Zad Zab;exact Z);(iterate 4 exact Z))
  all_goals rfl
 have t1:decide (a<0)=false:=decide_eq_false (by omega)
 rw[if_neg (by omega)]
 rcases Int.lt_or_le a l.length with h1|h1
 case inr=>
  have t2:decide (a ≥ ((Zax l).length:Int))=true:=decide_eq_true (by omega)
  rw[List.getElem?_eq_none (by omega)]
  refine AP.ofA ?_
  refine Zan Tryz.func139 rfl Tryz.ntmps139 rfl rfl ?_
  repeat'(first|(apply Zaj Zab;exact Z)|(apply Zah Zab;exact Z)|(apply Zav Zab;exact Z)|(apply Zae;(iterate 3 exact Z);exact Go.ZrJ)|(apply Zal;(iterate 3 exact Z);exact Go.ZrJ)|(apply Zak;exact Z;exact Go.ZrJ;exact Z;exact Z)|(apply Zag;exact Z;exact Go.ZrJ;exact Z;exact Z)|(apply Zac;exact Z;exact Go.ZrJ)|(apply Zam Zab;(iterate 4 exact Z))|(apply Zao 27 ZaL;decide +kernel;kernel_rfl;kernel_rfl;kernel_rfl;exact Z;exact Z)|(apply Zaq;(iterate 4 exact Z))|exact AE.nil _ _ _ _|(apply Zat;exact Z)|(apply Zay;exact Z;exact Z;decide +kernel;exact Z)|(apply Zaz;exact Z)|exact AO.nil _ _ _|(apply Zap;(decide +kernel))|exact AOs.nil|exact ZaH rfl rfl)
  all_goals(apply Zaw [];(apply Zad Zab;exact Z);(iterate 4 exact Z))
  all_goals rfl
 have t2:decide (a ≥ ((Zax l).length:Int))=false:=decide_eq_false (by omega)
 obtain⟨⟨k,n,b,l1⟩,hy⟩:∃ y,l[a.toNat]?=some y:=⟨_,List.getElem?_eq_getElem (by omega)⟩
 have hv:(Zax l)[a.toNat]?=some (.agg [.int .i64 k,.int .u64 (n:Int),.sl (b.map E.byte),.sl (Zax l1)]):=by
  rw[ZaI,List.getElem?_map,hy];rfl
 have hw:=ZaY hws _ (List.mem_of_getElem? hy)
 have hS:=ZeE (.mk k n b l1) hw (.mk 0 n [] []) (by obtain⟨h1,_⟩:=hw;exact⟨h1,by simp,by simp,trivial⟩)
 have hN:=ZdS n
 rw[hy]
 dsimp only
 cases t3:decide ((n:Int)>2) with
 | true=>
  refine AP.ofA ?_
  refine Zan Tryz.func139 rfl Tryz.ntmps139 rfl rfl ?_
  repeat'(first|(apply Zaj Zab;exact Z)|(apply Zah Zab;exact Z)|(apply Zav Zab;exact Z)|(apply Zae;(iterate 3 exact Z);exact Go.ZrJ)|(apply Zal;(iterate 3 exact Z);exact Go.ZrJ)|(apply Zak;exact Z;exact Go.ZrJ;exact Z;exact Z)|(apply Zag;exact Z;exact Go.ZrJ;exact Z;exact Z)|(apply Zac;exact Z;exact Go.ZrJ)|(apply Zam Zab;(iterate 4 exact Z))|(apply Zao 27 ZaL;decide +kernel;kernel_rfl;kernel_rfl;kernel_rfl;exact Z;exact Z)|(apply Zaq;(iterate 4 exact Z))|exact AE.nil _ _ _ _|(apply Zat;exact Z)|(apply Zay;exact Z;exact Z;decide +kernel;exact Z)|(apply Zaz;exact Z)|exact AO.nil _ _ _|(apply Zap;(decide +kernel))|exact AOs.nil|exact ZaH rfl rfl|(apply Zau Zab;(iterate 6 exact Z);(first|exact Go.ZrJ|rotate_left);(first|with_reducible assumption|decide +kernel|exact Z);(first|exact Zai rfl|with_reducible assumption|decide +kernel|rotate_left)))
  all_goals(apply Zaw [];(apply Zad Zab;exact Z);(iterate 4 exact Z))
  all_goals rfl
 | false=>
  have en:IntKind.i64.wrap (n:Int)=(n:Int):=IntWalk.i64_in _ (by simp at t3;omega)
  cases t4:It.beq (.mk k n b l1) (.mk 0 n [] []) with
  | true=>
   rw[t4]at hS
   refine AP.ofA ?_
   refine Zan Tryz.func139 rfl Tryz.ntmps139 rfl rfl ?_
   repeat'(first|(apply Zaa (hN);kernel_rfl;(iterate 4 exact Z))|(apply Zaa (hS);kernel_rfl;(iterate 4 exact Z))|rw[en]|(apply Zaj Zab;exact Z)|(apply Zah Zab;exact Z)|(apply Zav Zab;exact Z)|(apply Zae;(iterate 3 exact Z);exact Go.ZrJ)|(apply Zag;exact Z;exact Go.ZrJ;exact Z;exact Z)|(apply Zaf;exact Z;exact Go.ZrJ)|(apply Zam Zab;(iterate 4 exact Z))|(apply Zao 27 ZaL;decide +kernel;kernel_rfl;kernel_rfl;kernel_rfl;exact Z;exact Z)|(apply Zaq;(iterate 4 exact Z))|exact AE.nil _ _ _ _|(apply Zat;exact Z)|(apply Zay;exact Z;exact Z;decide +kernel;exact Z)|(apply Zaz;exact Z)|exact AO.nil _ _ _|(apply Zap;(decide +kernel))|exact AOs.nil|exact ZaH rfl rfl|(apply Zau Zab;(iterate 6 exact Z);(first|exact Go.ZrJ|rotate_left);(first|with_reducible assumption|decide +kernel|exact Z);(first|exact Zai rfl|with_reducible assumption|decide +kernel|rotate_left)))
   all_goals(apply Zaw [];(apply Zad Zab;exact Z);(iterate 4 exact Z))
   all_goals rfl
  | false=>
   rw[t4]at hS
   refine AP.ofA ?_
   refine Zan Tryz.func139 rfl Tryz.ntmps139 rfl rfl ?_
   repeat'(first|(apply Zaa (hN);kernel_rfl;(iterate 4 exact Z))|(apply Zaa (hS);kernel_rfl;(iterate 4 exact Z))|(apply Zaj Zab;exact Z)|(apply Zah Zab;exact Z)|(apply Zav Zab;exact Z)|(apply Zae;(iterate 3 exact Z);exact Go.ZrJ)|(apply Zag;exact Z;exact Go.ZrJ;exact Z;exact Z)|(apply Zac;exact Z;exact Go.ZrJ)|(apply Zam Zab;(iterate 4 exact Z))|(apply Zao 27 ZaL;decide +kernel;kernel_rfl;kernel_rfl;kernel_rfl;exact Z;exact Z)|(apply Zaq;(iterate 4 exact Z))|exact AE.nil _ _ _ _|(apply Zat;exact Z)|(apply Zay;exact Z;exact Z;decide +kernel;exact Z)|(apply Zaz;exact Z)|exact AO.nil _ _ _|(apply Zap;(decide +kernel))|exact AOs.nil|exact ZaH rfl rfl|(apply Zau Zab;(iterate 6 exact Z);(first|exact Go.ZrJ|rotate_left);(first|with_reducible assumption|decide +kernel|exact Z);(first|exact Zai rfl|with_reducible assumption|decide +kernel|rotate_left)))
   all_goals(apply Zaw [];(apply Zad Zab;exact Z);(iterate 4 exact Z))
   all_goals rfl
def okB (m:Nat)(c:UInt8):Bool:=(97<=c.toNat&&c.toNat<=122)||(48<=c.toNat&&c.toNat<=57)||c.toNat==45||c.toNat==m
theorem Zdh {m:Nat}{c:UInt8}:okB m c=true ↔ (97<=(c.toNat:Int)/\(c.toNat:Int)<=122)\/(48<=(c.toNat:Int)/\(c.toNat:Int)<=57)\/(c.toNat:Int)=45\/(c.toNat:Int)=(m:Int):=by
 simp only[okB,Bool.or_eq_true,Bool.and_eq_true,decide_eq_true_eq,beq_iff_eq]
 omega
theorem Zkn (s:ByteArray)(m:Nat)(hm:m<128)(w:World)(B:Bool)(hB:s.data.toList.all (okB m)=B) :
  Calls Tryz.prog 150 #[.string s,.int .i32 (m:Int)] w fun e w'=>e=.returned (.bool B)/\Below w.heap.size w w':=by
 have hT:(∀ j,j<s.size->∀ c,s.data.toList[j]?=some c->okB m c=true)->B=true:=fun h=>by
  rw[<- hB,List.all_eq_true]
  intro x hx
  obtain⟨j,hj⟩:=List.getElem?_of_mem hx
  have hlt:=(List.getElem?_eq_some_iff.1 hj).1
  exact h j (by simpa using hlt) x hj
 have hF:∀(j:Nat) (c:UInt8),s.data.toList[j]?=some c->¬ okB m c=true->B=false:=fun j c hj hc=>by
  rw[<- hB,List.all_eq_false]
  exact⟨c,List.mem_of_getElem? hj,hc⟩
 clear hB
 go_enter Tryz.func150,Tryz.ntmps150
 go_wp2
 go_loopw [] (fun w'=>∃ pos,w'=w.iter s pos/\pos<=s.size/\Hid (∀ j,j<pos->∀ c,s.data.toList[j]?=some c->okB m c=true)) (fun w'=>s.size-w'.iterPos w.heap.size)
 case atStart=>exact⟨0,rfl,Nat.zero_le _,fun j hj=>by omega⟩
 case round=>
  obtain⟨pos,rfl,hps,hall⟩:=hrel
  have hb:∀ p,Below w.heap.size w (w.iter s p):=fun p=>(Below.refl _ _).alloc (Nat.le_refl _) _
  by_cases hp:pos<s.size
  ·have hget:s.data.toList[pos]?=some (s[pos]'hp):=by
    have hlt:pos<s.data.toList.length:=by simpa using hp
    rw[List.getElem?_eq_getElem hlt];rfl
   by_cases ha:(s[pos]'hp).toNat<128
   ·obtain⟨c,hc⟩:∃ c,c=s[pos]'hp:=⟨_,rfl⟩
    have hnx:∀ ty,(Instr.next (.pointer (some ⟨w.heap.size,0,none⟩)) true ty).run Tryz.prog (w.iter s pos)=.ok (.tuple #[.bool true,.int .i64 pos,.int .i32 (c.toNat:Int)]) (w.iter s (pos+1)):=fun ty=>by
     rw[hc];exact run_next_ascii w s pos ty hp ha
    rw[<- hc]at hget ha
    clear hc
    have hbad:=hid (hF pos c hget)
    have hstep:Hid (okB m c=true->∀ j,j<pos+1->∀ c,s.data.toList[j]?=some c->okB m c=true):=fun hc j hj c' hj'=>by
     rcases Nat.lt_or_ge j pos with h|h
     ·exact hall j h c' hj'
     ·have:j=pos:=by omega
      subst this
      rw[hget]at hj'
      injection hj' with hj'
      subst hj'
      exact hc
    clear hT hF hget
    go_wp2
    all_goals first
     | (go_ret
        have hBf:=hbad (fun h=>by rw[Zdh]at h;clear hbad hstep hnx;(try simp only[bne_iff_ne,ne_eq,bne_eq_false_iff_eq]at *);omega)
        subst hBf
        exact⟨rfl,hb _⟩)
     | (refine⟨⟨pos+1,rfl,by omega,hstep ?_⟩,?_⟩
        ·rw[Zdh]
         clear hbad hstep hnx
         try simp only[bne_iff_ne,ne_eq,bne_eq_false_iff_eq]at *
         omega
        ·simp;omega)
   ·obtain⟨hd1,hd2⟩:=decode_high s pos hp (by omega)
    have hle:=decode_le s pos
    have hnx:∀ ty,(Instr.next (.pointer (some ⟨w.heap.size,0,none⟩)) true ty).run Tryz.prog (w.iter s pos)=_:=fun ty=>run_next_any w s pos ty hp
    have hBf:=hF pos _ hget (fun h=>by rw[Zdh]at h;omega)
    clear hT hF hget
    subst hBf
    generalize Utf8.decode s pos=dd at hd1 hd2 hle hnx
    have n1:¬ ((dd.1:Int)<97):=by omega
    have n2:((dd.1:Int)>122):=by omega
    have n3:¬ ((dd.1:Int)<48):=by omega
    have n4:((dd.1:Int)>57):=by omega
    have n5:¬ ((dd.1:Int)=45):=by omega
    have n6:¬ ((dd.1:Int)=(m:Int)):=by omega
    go_wp2
    all_goals first
     | (go_ret;exact⟨rfl,hb _⟩)
     | (exfalso;clear hnx hb hall;(try simp only[bne_iff_ne,ne_eq,bne_eq_false_iff_eq]at *);omega)
  ·have hnx:∀ ty,(Instr.next (.pointer (some ⟨w.heap.size,0,none⟩)) true ty).run Tryz.prog (w.iter s pos)=_:=fun ty=>run_next_end w s pos ty hp
   have hBt:=hT (fun j hj=>hall j (by omega))
   subst hBt
   go_wp2
   go_ret
   exact⟨rfl,hb _⟩
end Go.Proofs.YtakblclkflnnpaaGreatDoor
end
