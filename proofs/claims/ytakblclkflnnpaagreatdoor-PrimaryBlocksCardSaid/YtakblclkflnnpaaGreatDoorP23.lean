/- The document's items: which may be, their bytes. -/
import Derived.Test.YtakblclkflnnpaaGreatDoorP22
import Derived.Test.YtakblclkflnnpaaGreatDoorP15
import Derived.Test.YtakblclkflnnpaaGreatDoorP17
import Derived.Test.YtakblclkflnnpaaGreatDoorP21
set_option linter.unusedVariables false
set_option linter.unusedSimpArgs false
section
open Go.RowKit Go.Pl Go.Av
namespace Go.Proofs.YtakblclkflnnpaaGreatDoor
set_option maxHeartbeats 4000000
theorem Zfs:∀ {l:List It},Zce l=true->∀ y ∈ l,ZbB y=true
 | x::l,h,y,hy=>by
  rw[Zce,Bool.and_eq_true]at h
  rcases List.mem_cons.1 hy with rfl|hy
  ·exact h.1
  ·exact Zfs h.2 y hy
theorem n0' (n:Nat):((n:Int) != 0) = !decide (n=0):=by rw[bne,n0]
theorem Zpr {α:Type}{f:α->E}(b:List α):(((b.map f).length:Int) != 0) = !b.isEmpty:=by rw[bne,Zpk]
theorem ZnM [Known]:∀(x:It),wfI x->AP Tryz.prog 175 [itD x] (.bool (ZbB x)) []:=by
 refine It.ind fun k n b l ih hw=>?_
 obtain⟨_,hb,hl,hws⟩:=hw
 have e1:=Zpk (f:=E.byte) b
 have e2:=Zox l
 have e3:=n0 n
 have hv:=Zh3 b hb
 have hlen:=Zan l
 have hE:∀ P:Bool,(P&&l.isEmpty&&Zce l)=(P&&l.isEmpty):=fun P=>by
  cases l with
  | nil=>rw[Zce,Bool.and_true]
  | cons x l=>simp
 by_cases k0:k=0
 ·subst k0
  have e:ZbB (.mk 0 n b l)=(b.isEmpty&&l.isEmpty):=by rw[ZbB];exact hE _
  rw[e]
  cases hbe:b.isEmpty<;>cases hle:l.isEmpty
  all_goals
   rw[hbe]at e1
   rw[hle]at e2
   refine AP.ofA ?_
   refine Zap Tryz.func175 rfl Tryz.ntmps175 rfl rfl ?_
   repeat'(first|rw[e1]|rw[e2]|(apply Zaj Zab;exact Z)|(apply Zai Zab;exact Z)|(apply Zaf;(iterate 3 exact Z);exact Go.Zqn)|(apply Zau;(iterate 3 exact Z);exact Go.Zqn)|(apply Zak;exact Z;exact Go.Zqn;exact Z;exact Z)|(apply Zah;exact Z;exact Go.Zqn;exact Z;exact Z)|(apply Zac;exact Z;exact Go.Zqn)|(apply Zal Zab;(iterate 4 exact Z)))
   all_goals(apply Zax [];(apply Zad Zab;exact Z);(iterate 4 exact Z))
   all_goals rfl
 by_cases k2:k=2
 ·subst k2
  have e:ZbB (.mk 2 n b l)=(decide (n=0)&&l.isEmpty):=by rw[ZbB];exact hE _
  rw[e]
  cases hbe:decide (n=0)<;>cases hle:l.isEmpty
  all_goals
   rw[hbe]at e3
   rw[hle]at e2
   refine AP.ofA ?_
   refine Zap Tryz.func175 rfl Tryz.ntmps175 rfl rfl ?_
   repeat'(first|rw[e2]|rw[e3]|(apply Zaj Zab;exact Z)|(apply Zai Zab;exact Z)|(apply Zaf;(iterate 3 exact Z);exact Go.Zqn)|(apply Zau;(iterate 3 exact Z);exact Go.Zqn)|(apply Zak;exact Z;exact Go.Zqn;exact Z;exact Z)|(apply Zah;exact Z;exact Go.Zqn;exact Z;exact Z)|(apply Zac;exact Z;exact Go.Zqn)|(apply Zae;exact Z;exact Go.Zqn)|(apply Zal Zab;(iterate 4 exact Z)))
   all_goals(apply Zax [];(apply Zad Zab;exact Z);(iterate 4 exact Z))
   all_goals rfl
 by_cases k3:k=3
 ·subst k3
  have e:ZbB (.mk 3 n b l)=(decide (n=0)&&l.isEmpty&&ZaD b):=by
   rw[ZbB]
   have e:ZdF 3 n b l=(decide (n=0)&&(l.isEmpty&&ZaD b)):=rfl
   rw[e]
   cases l with
   | nil=>rw[Zce];simp
   | cons x l=>simp
  rw[e]
  cases hbe:decide (n=0)<;>cases hle:l.isEmpty
  all_goals
   rw[hbe]at e3
   rw[hle]at e2
   refine AP.ofA ?_
   refine Zap Tryz.func175 rfl Tryz.ntmps175 rfl rfl ?_
   repeat'(first|rw[e2]|rw[e3]|(apply Zaa (hv);kernel_rfl;(iterate 4 exact Z))|(apply Zaj Zab;exact Z)|(apply Zai Zab;exact Z)|(apply Zaf;(iterate 3 exact Z);exact Go.Zqn)|(apply Zau;(iterate 3 exact Z);exact Go.Zqn)|(apply Zak;exact Z;exact Go.Zqn;exact Z;exact Z)|(apply Zah;exact Z;exact Go.Zqn;exact Z;exact Z)|(apply Zac;exact Z;exact Go.Zqn)|(apply Zae;exact Z;exact Go.Zqn)|(apply Zal Zab;(iterate 4 exact Z)))
   all_goals(apply Zax [];(apply Zad Zab;exact Z);(iterate 4 exact Z))
   all_goals rfl
 by_cases k4:k=4
 ·subst k4
  have e:ZbB (.mk 4 n b l)=((decide (n=0)&&b.isEmpty)&&Zce l):=by rw[ZbB];rfl
  rw[e]
  have f1:=n0' n
  have f2:=Zpr (f:=E.byte) b
  cases hbe:decide (n=0) with
  | false=>
   rw[hbe]at f1
   replace f1:((n:Int) != 0)=true:=f1
   refine AP.ofA ?_
   refine Zap Tryz.func175 rfl Tryz.ntmps175 rfl rfl ?_
   repeat'(first|(apply Zaj Zab;exact Z)|(apply Zai Zab;exact Z)|(apply Zay Zab;exact Z)|(apply Zao;(iterate 3 exact Z);exact Go.Zqn)|(apply Zak;exact Z;exact Go.Zqn;exact Z;exact Z)|(apply Zac;exact Z;exact Go.Zqn)|(apply Zae;exact Z;exact Go.Zqn))
   all_goals(apply Zax [];(apply Zad Zab;exact Z);(iterate 4 exact Z))
   all_goals rfl
  | true=>
   rw[hbe]at f1
   replace f1:((n:Int) != 0)=false:=f1
   cases hle:b.isEmpty with
   | false=>
    rw[hle]at f2
    replace f2:(((b.map E.byte).length:Int) != 0)=true:=f2
    refine AP.ofA ?_
    refine Zap Tryz.func175 rfl Tryz.ntmps175 rfl rfl ?_
    repeat'(first|(apply Zaj Zab;exact Z)|(apply Zai Zab;exact Z)|(apply Zay Zab;exact Z)|(apply Zaf;(iterate 3 exact Z);exact Go.Zqn)|(apply Zah;exact Z;exact Go.Zqn;exact Z;exact Z)|(apply Zac;exact Z;exact Go.Zqn)|(apply Zae;exact Z;exact Go.Zqn)|(apply Zal Zab;(iterate 4 exact Z)))
    all_goals(apply Zax [];(apply Zad Zab;exact Z);(iterate 4 exact Z))
    all_goals rfl
   | true=>
    rw[hle]at f2
    replace f2:(((b.map E.byte).length:Int) != 0)=false:=f2
    rw[Bool.true_and,Bool.true_and]
    generalize hfin:Zce l=fin
    refine AP.ofA ?_
    refine Zap Tryz.func175 rfl Tryz.ntmps175 rfl rfl ?_
    repeat'(first|(apply Zaj Zab;exact Z)|(apply Zai Zab;exact Z)|(apply Zay Zab;exact Z)|(apply Zaf;(iterate 3 exact Z);exact Go.Zqn)|(apply Zah;exact Z;exact Go.Zqn;exact Z;exact Z)|(apply Zac;exact Z;exact Go.Zqn)|(apply Zae;exact Z;exact Go.Zqn)|(apply Zal Zab;(iterate 4 exact Z)))
    refine ZaC (fun f tm bx fr=>∃ i:Nat,f+i=l.length/\Zce (l.drop i)=fin/\tm=[(1,.ptr 0 0),(3,.int .i64 (i:Int))]/\bx=[itC 4 n b l]/\fr=[]) (l.length+1) (Lands.mk' (m:=l.length) (Nat.lt_succ_self _) ⟨0,rfl,hfin,rfl,rfl,rfl⟩ ?_ rfl rfl rfl rfl rfl rfl) ?_
    ·exact .cons rfl (.cons rfl .nil)
    rintro f tm bx fr ⟨i,hf,hfin,rfl,rfl,rfl⟩
    have hU:=ZbG l
    rcases Nat.lt_or_ge i l.length with hlt|hge
    ·have hdl:decide ((i:Int)<((Zas l).length:Int))=true:=decide_eq_true (by omega)
     obtain⟨⟨k1,n1,b1,l1⟩,hy⟩:∃ y,l[i]?=some y:=⟨_,List.getElem?_eq_getElem hlt⟩
     have hv:(Zas l)[((i:Nat):Int).toNat]?=some (.agg [.int .i64 k1,.int .u64 (n1:Int),.sl (b1.map E.byte),.sl (Zas l1)]):=by
      rw[Int.toNat_natCast,ZaB,List.getElem?_map,hy];rfl
     have hmem:=List.mem_of_getElem? hy
     have hc:=ih _ hmem (ZaP hws _ hmem)
     have hdr:l.drop i=It.mk k1 n1 b1 l1::l.drop (i+1):=by
      rw[List.drop_eq_getElem_cons hlt];congr 1
      exact(List.getElem?_eq_some_iff.1 hy).2
     rw[hdr,Zce]at hfin
     have ei:IntKind.i64.wrap ((i:Int)+1)=((i+1:Nat):Int):=by rw[IntWalk.i64_in _ (by omega)];omega
     cases hq:ZbB (.mk k1 n1 b1 l1) with
     | false=>
      rw[hq]at hc hfin
      rw[Bool.false_and]at hfin
      subst hfin
      repeat'(first|(apply Zaa (hc);kernel_rfl;(iterate 4 exact Z))|(apply Zaj Zab;exact Z)|(apply Zai Zab;exact Z)|(apply Zay Zab;exact Z)|(apply Zac;exact Z;exact Go.Zqn)|refine ZbI ?_|(apply Zal Zab;(iterate 4 exact Z))|(apply Zat Zab;(iterate 6 exact Z);(first|exact Go.Zqn|rotate_left);(first|with_reducible assumption|decide +kernel|exact Z);(first|exact Zag rfl|with_reducible assumption|decide +kernel|rotate_left)))
      all_goals(apply Zax [];(apply Zad Zab;exact Z);(iterate 4 exact Z))
      all_goals rfl
     | true=>
      rw[hq]at hc hfin
      rw[Bool.true_and]at hfin
      repeat'(first|rw[ei]|(apply Zaa (hc);kernel_rfl;(iterate 4 exact Z))|(apply Zaj Zab;exact Z)|(apply Zai Zab;exact Z)|(apply Zay Zab;exact Z)|(apply Zac;exact Z;exact Go.Zqn)|(apply Zae;exact Z;exact Go.Zqn)|(apply Zal Zab;(iterate 4 exact Z))|(apply Zat Zab;(iterate 6 exact Z);(first|exact Go.Zqn|rotate_left);(first|with_reducible assumption|decide +kernel|exact Z);(first|exact Zag rfl|with_reducible assumption|decide +kernel|rotate_left)))
      refine Lands.mk' (m:=f-1) (by omega) ⟨i+1,by omega,hfin,rfl,rfl,rfl⟩ ?_ rfl rfl rfl rfl rfl rfl
      exact .cons rfl (.cons rfl .nil)
    ·have hdl:decide ((i:Int)<((Zas l).length:Int))=false:=decide_eq_false (by omega)
     rw[List.drop_eq_nil_of_le hge]at hfin
     have hfin:true=fin:=hfin
     subst hfin
     repeat'(first|(apply Zaj Zab;exact Z)|(apply Zai Zab;exact Z)|(apply Zay Zab;exact Z)|(apply Zae;exact Z;exact Go.Zqn)|(apply Zal Zab;(iterate 4 exact Z)))
     all_goals(apply Zax [];(apply Zad Zab;exact Z);(iterate 4 exact Z))
     all_goals rfl
 ·have t0:(k==0)=false:=by simpa using k0
  have t2:(k==2)=false:=by simpa using k2
  have t3:(k==3)=false:=by simpa using k3
  have t4:(k==4)=false:=by simpa using k4
  have e:ZbB (.mk k n b l)=false:=by rw[ZbB];simp[ZdF,k0,k2,k3,k4]
  rw[e]
  refine AP.ofA ?_
  refine Zap Tryz.func175 rfl Tryz.ntmps175 rfl rfl ?_
  repeat'(first|(apply Zai Zab;exact Z)|(apply Zae;exact Z;exact Go.Zqn))
  all_goals(apply Zax [];(apply Zad Zab;exact Z);(iterate 4 exact Z))
  all_goals rfl
theorem Zdr [Known](x:It)(hw:wfI x)(hs:Zbt x<=1000):AP Tryz.prog 147 [itD x] (.bool (Zaw x)) []:=by
 have h1:=ZnL x hw 7 (by omega)
 have h2:=ZnK 257 (by omega) x hs
 have h3:=ZnM x hw
 replace h1:AP Tryz.prog _ [itD x,.int .i64 7] (.int .i64 (ZgP x 7:Int)) []:=h1
 replace h2:AP Tryz.prog _ [itD x,.int .i64 257] (.int .i64 (ZcU x 257:Int)) []:=h2
 rw[<- Zk9]
 have e1:decide ((ZgP x 7:Int)<=6)=decide (ZgP x 7<=6):=by rw[decide_eq_decide];omega
 have e2:decide ((ZcU x 257:Int)<=256)=decide (ZcU x 257<=256):=by rw[decide_eq_decide];omega
 generalize decide (ZgP x 7<=6)=p at *
 generalize decide (ZcU x 257<=256)=q at *
 generalize ZbB x=r at *
 obtain⟨k,n,b,l⟩:=x
 cases p<;>cases q
 all_goals
  refine AP.ofA ?_
  refine Zap Tryz.func147 rfl Tryz.ntmps147 rfl rfl ?_
  repeat'(first|(apply Zaa (h1);kernel_rfl;(iterate 4 exact Z))|(apply Zaa (h2);kernel_rfl;(iterate 4 exact Z))|(apply Zaa (h3);kernel_rfl;(iterate 4 exact Z))|(apply Zaj Zab;exact Z)|(apply Zai Zab;exact Z)|(apply Zaf;(iterate 3 exact Z);exact Go.Zqn)|(apply Zau;(iterate 3 exact Z);exact Go.Zqn)|(apply Zak;exact Z;exact Go.Zqn;exact Z;exact Z)|(apply Zah;exact Z;exact Go.Zqn;exact Z;exact Z))
  all_goals(apply Zax [];(apply Zad Zab;exact Z);(iterate 4 exact Z))
  all_goals rfl
theorem ZjK (h:Hd):∃ c t,ZaV h=c::t:=by
 unfold ZaV
 split
 ·exact⟨_,_,rfl⟩
 ·exact⟨_,_,rfl⟩
theorem Zla [Known]:∀(x:It),wfI x->ZbB x=true->(Za1 x).length<=1099511627776->AP Tryz.prog 110 [itD x] (byE (Za1 x)) []:=by
 refine It.ind fun k n b l ih hw hfi hlim=>?_
 obtain⟨hn,hb,hl,hws⟩:=hw
 rw[ZbB,Bool.and_eq_true]at hfi
 obtain⟨ho,hfs⟩:=hfi
 have hlen:=Zan l
 have hk7:=Zfi ho
 have hr:Zbh (k,(It.mk k n b l).hn,false)=true:=by simp[Zbh];exact hk7
 have hhn:(It.mk k n b l).hn<18446744073709551616:=by simp only[It.hn];(repeat' split)<;>omega
 have hput:Za1 (.mk k n b l)=ZaV (k,(It.mk k n b l).hn,false)++(b++Za0 l):=by rw[Za1,if_pos hr]
 have hW:=Zhn (k,(It.mk k n b l).hn,false) hr hhn
 obtain⟨c0,t0,hcw⟩:=ZjK (k,(It.mk k n b l).hn,false)
 rw[hput]at hlim ⊢
 rw[hcw]at hW hlim ⊢
 have hU0:=Zbq (c0::t0)
 have hU1:=Zbq b
 clear hr hhn hcw hput
 have eb:IntKind.u64.wrap (((b.map E.byte).length:Nat):Int)=((b.length:Nat):Int):=by rw[List.length_map,IntKind.wrap_u64];omega
 have el:IntKind.u64.wrap (((Zas l).length:Nat):Int)=((l.length:Nat):Int):=by rw[hlen,IntKind.wrap_u64];omega
 rcases ZfX ho with⟨rfl,rfl,rfl⟩ | ⟨rfl,rfl,rfl⟩ | ⟨rfl,rfl,rfl,_⟩ | ⟨rfl,rfl,rfl⟩
 ·replace hW:AT Tryz.prog _ [.agg [.int .i64 0,.int .u64 (n:Int),.bool false]] [] [] _ [] _:=hW
  refine AP.ofA ?_
  refine Zap Tryz.func110 rfl Tryz.ntmps110 rfl rfl ?_
  repeat'(first|(apply ZaS [] [] (hW);kernel_rfl;(iterate 10 exact Z))|refine Zbj 70 ?_|refine Zby ?_|(apply Zaj Zab;exact Z)|(apply Zai Zab;exact Z)|(apply Zay Zab;exact Z)|(apply Zae;exact Z;exact Go.Zqn)|(apply Zal Zab;(iterate 4 exact Z))|(apply ZaE Zab;(iterate 6 exact Z)))
  all_goals(apply Zax [];(apply Zad Zab;exact Z);(iterate 4 exact Z))
  ·rw[Za0,List.append_nil,List.append_nil]
  ·rfl
 ·replace hW:AT Tryz.prog _ [.agg [.int .i64 2,.int .u64 (b.length:Int),.bool false]] [] [] _ [] _:=hW
  rcases b with _|⟨c1,b⟩
  ·refine AP.ofA ?_
   refine Zap Tryz.func110 rfl Tryz.ntmps110 rfl rfl ?_
   repeat'(first|rw[eb]|(apply ZaS [] [] (hW);kernel_rfl;(iterate 10 exact Z))|refine Zbj 70 ?_|refine Zby ?_|(apply Zaj Zab;exact Z)|(apply Zai Zab;exact Z)|(apply Zay Zab;exact Z)|(apply Zac;exact Z;exact Go.Zqn)|(apply Zae;exact Z;exact Go.Zqn)|(apply Zal Zab;(iterate 4 exact Z))|(apply ZaE Zab;(iterate 6 exact Z)))
   all_goals(apply Zax [];(apply Zad Zab;exact Z);(iterate 4 exact Z))
   ·rw[Za0,List.append_nil,List.append_nil]
   ·rfl
  ·refine AP.ofA ?_
   refine Zap Tryz.func110 rfl Tryz.ntmps110 rfl rfl ?_
   repeat'(first|rw[eb]|(apply ZaS [] [] (hW);kernel_rfl;(iterate 10 exact Z))|refine Zbj 70 ?_|refine Zby ?_|(apply Zaj Zab;exact Z)|(apply Zai Zab;exact Z)|(apply Zay Zab;exact Z)|(apply Zac;exact Z;exact Go.Zqn)|(apply Zae;exact Z;exact Go.Zqn)|(apply Zal Zab;(iterate 4 exact Z))|(apply ZaK Zab;(iterate 6 exact Z);(first|with_reducible assumption|decide +kernel|exact Z|rotate_left);exact Z;exact Z;(first|exact Zag rfl|with_reducible assumption|decide +kernel|rotate_left);(first|exact Zag rfl|with_reducible assumption|decide +kernel|rotate_left);(first|exact Go.Zqn|rotate_left);(first|exact Go.Zqn|rotate_left);(first|exact Go.Zqn|rotate_left);exact Z;exact Z))
   all_goals first|(apply Zax [];(apply Zad Zab;exact Z);(iterate 4 exact Z))|(first|rfl|(simp only[List.length_append,List.length_cons,List.length_nil,List.length_map,Zan];done)|(simp only[List.length_append,List.length_cons,List.length_nil,List.length_map,Zan]at *;(try unfold maxLen);(try simp only[Nat.add_mul]);omega))
   ·rw[Za0,List.append_nil];exact congrArg (D.sl .ext) (List.map_append (f:=E.byte) (l₁:=c0::t0) (l₂:=c1::b)).symm
   ·rfl
 ·replace hW:AT Tryz.prog _ [.agg [.int .i64 3,.int .u64 (b.length:Int),.bool false]] [] [] _ [] _:=hW
  rcases b with _|⟨c1,b⟩
  ·refine AP.ofA ?_
   refine Zap Tryz.func110 rfl Tryz.ntmps110 rfl rfl ?_
   repeat'(first|rw[eb]|(apply ZaS [] [] (hW);kernel_rfl;(iterate 10 exact Z))|refine Zbj 70 ?_|refine Zby ?_|(apply Zaj Zab;exact Z)|(apply Zai Zab;exact Z)|(apply Zay Zab;exact Z)|(apply Zac;exact Z;exact Go.Zqn)|(apply Zae;exact Z;exact Go.Zqn)|(apply Zal Zab;(iterate 4 exact Z))|(apply ZaE Zab;(iterate 6 exact Z)))
   all_goals(apply Zax [];(apply Zad Zab;exact Z);(iterate 4 exact Z))
   ·rw[Za0,List.append_nil,List.append_nil]
   ·rfl
  ·refine AP.ofA ?_
   refine Zap Tryz.func110 rfl Tryz.ntmps110 rfl rfl ?_
   repeat'(first|rw[eb]|(apply ZaS [] [] (hW);kernel_rfl;(iterate 10 exact Z))|refine Zbj 70 ?_|refine Zby ?_|(apply Zaj Zab;exact Z)|(apply Zai Zab;exact Z)|(apply Zay Zab;exact Z)|(apply Zac;exact Z;exact Go.Zqn)|(apply Zae;exact Z;exact Go.Zqn)|(apply Zal Zab;(iterate 4 exact Z))|(apply ZaK Zab;(iterate 6 exact Z);(first|with_reducible assumption|decide +kernel|exact Z|rotate_left);exact Z;exact Z;(first|exact Zag rfl|with_reducible assumption|decide +kernel|rotate_left);(first|exact Zag rfl|with_reducible assumption|decide +kernel|rotate_left);(first|exact Go.Zqn|rotate_left);(first|exact Go.Zqn|rotate_left);(first|exact Go.Zqn|rotate_left);exact Z;exact Z))
   all_goals first|(apply Zax [];(apply Zad Zab;exact Z);(iterate 4 exact Z))|(first|rfl|(simp only[List.length_append,List.length_cons,List.length_nil,List.length_map,Zan];done)|(simp only[List.length_append,List.length_cons,List.length_nil,List.length_map,Zan]at *;(try unfold maxLen);(try simp only[Nat.add_mul]);omega))
   ·rw[Za0,List.append_nil];exact congrArg (D.sl .ext) (List.map_append (f:=E.byte) (l₁:=c0::t0) (l₂:=c1::b)).symm
   ·rfl
 ·replace hW:AT Tryz.prog _ [.agg [.int .i64 4,.int .u64 (l.length:Int),.bool false]] [] [] _ [] _:=hW
  refine AP.ofA ?_
  refine Zap Tryz.func110 rfl Tryz.ntmps110 rfl rfl ?_
  repeat'(first|rw[el]|(apply ZaS [] [] (hW);kernel_rfl;(iterate 10 exact Z))|(apply Zaj Zab;exact Z)|(apply Zai Zab;exact Z)|(apply Zac;exact Z;exact Go.Zqn)|(apply Zal Zab;(iterate 4 exact Z))|(apply ZaE Zab;(iterate 6 exact Z)))
  refine ZaC (fun f tm bx fr=>∃(i c:Nat) (M:List E),f+i=l.length/\c=M.length/\M=((c0::t0)++Za0 (l.take i)).map E.byte/\tm=[(1,.ptr 0 0),(4,.sl (.own 0) M),(5,.int .i64 (i:Int))]/\bx=[itC 4 0 [] l,[.int .i64 4,.int .u64 (l.length:Int),.bool false]]/\fr=[⟨c,1,5⟩]) (l.length+1) (Lands.mk' (m:=l.length) (Nat.lt_succ_self _) ⟨0,(c0::t0).length,(c0::t0).map E.byte,rfl,by rw[List.length_map],by rw[List.take_zero,Za0,List.append_nil],rfl,rfl,rfl⟩ ?_ rfl rfl rfl rfl rfl rfl) ?_
  ·exact .cons rfl (.cons rfl (.cons rfl .nil))
  rintro f tm bx fr ⟨i,c,M,hf,hc,hM,rfl,rfl,rfl⟩
  subst hc
  have hU:=ZbG l
  have hUM:Uni 1 M:=by rw[hM];exact Zbq _
  have hMl:M.length=(c0::t0).length+(Za0 (l.take i)).length:=by rw[hM,List.length_map,List.length_append]
  rcases Nat.lt_or_ge i l.length with hlt|hge
  ·have hdl:decide ((i:Int)<((Zas l).length:Int))=true:=decide_eq_true (by omega)
   obtain⟨⟨k1,n1,b2,l1⟩,hy⟩:∃ y,l[i]?=some y:=⟨_,List.getElem?_eq_getElem hlt⟩
   have hv:(Zas l)[((i:Nat):Int).toNat]?=some (.agg [.int .i64 k1,.int .u64 (n1:Int),.sl (b2.map E.byte),.sl (Zas l1)]):=by
    rw[Int.toNat_natCast,ZaB,List.getElem?_map,hy];rfl
   have hmem:=List.mem_of_getElem? hy
   have hps:=ZaF hy
   have hpl:=ZaG l (i+1)
   have hps2:=congrArg List.length hps
   rw[List.length_append]at hps2
   rw[List.length_append,List.nil_append]at hlim
   have hfy:=Zfs hfs _ hmem
   have hc:=ih _ hmem (ZaP hws _ hmem) hfy (by omega)
   rw[ZbB,Bool.and_eq_true]at hfy
   have hk1:=Zfi hfy.1
   have hpos:=ZiL (x:=.mk k1 n1 b2 l1) hk1
   generalize Za1 (.mk k1 n1 b2 l1)=Q at hc hps hps2 hpos
   obtain⟨q0,Q,rfl⟩:∃ q0 Q',Q=q0::Q':=by
    cases Q with
    | nil=>simp at hpos
    | cons q Q=>exact⟨q,Q,rfl⟩
   have hUQ:=Zbq (q0::Q)
   have ei:IntKind.i64.wrap ((i:Int)+1)=((i+1:Nat):Int):=by rw[IntWalk.i64_in _ (by omega)];omega
   repeat'(first|rw[ei]|(apply Zaa (hc);kernel_rfl;(iterate 4 exact Z))|(apply Zaj Zab;exact Z)|(apply Zai Zab;exact Z)|(apply Zay Zab;exact Z)|(apply Zac;exact Z;exact Go.Zqn)|(apply Zal Zab;(iterate 4 exact Z))|(apply ZaK Zab;(iterate 6 exact Z);(first|with_reducible assumption|decide +kernel|exact Z|rotate_left);exact Z;exact Z;(first|exact Zag rfl|with_reducible assumption|decide +kernel|rotate_left);(first|exact Zag rfl|with_reducible assumption|decide +kernel|rotate_left);(first|exact Go.Zqn|rotate_left);(first|exact Go.Zqn|rotate_left);(first|exact Go.Zqn|rotate_left);exact Z;exact Z)|(apply Zat Zab;(iterate 6 exact Z);(first|exact Go.Zqn|rotate_left);(first|with_reducible assumption|decide +kernel|exact Z);(first|exact Zag rfl|with_reducible assumption|decide +kernel|rotate_left)))
   all_goals first|(first|rfl|(simp only[List.length_append,List.length_cons,List.length_nil,List.length_map,Zan];done)|(simp only[List.length_append,List.length_cons,List.length_nil,List.length_map,Zan]at *;(try unfold maxLen);(try simp only[Nat.add_mul]);omega))|skip
   refine Lands.mk' (m:=f-1) (by omega) ⟨i+1,M.length+((q0::Q).map E.byte).length,M++(q0::Q).map E.byte,by omega,by rw[List.length_append],by rw[hM,hps,<- List.map_append,List.append_assoc],rfl,rfl,rfl⟩ ?_ rfl rfl rfl rfl rfl rfl
   exact .cons rfl (.cons rfl (.cons rfl .nil))
  ·have hdl:decide ((i:Int)<((Zas l).length:Int))=false:=decide_eq_false (by omega)
   rw[List.take_of_length_le hge]at hM
   repeat'(first|(apply Zaj Zab;exact Z)|(apply Zai Zab;exact Z)|(apply Zay Zab;exact Z)|(apply Zae;exact Z;exact Go.Zqn)|(apply Zal Zab;(iterate 4 exact Z)))
   all_goals(apply Zax [];(apply Zad Zab;exact Z);(iterate 4 exact Z))
   ·rw[hM];rfl
   ·rfl
theorem Zds:∀ {l:List It} {d:Nat},ZbQ l d=true->∀ y ∈ l,Zbr y d=true
 | x::l,d,h,y,hy=>by
  rw[ZbQ,Bool.and_eq_true]at h
  rcases List.mem_cons.1 hy with rfl|hy
  ·exact h.1
  ·exact Zds h.2 y hy
theorem Zft {x:It}{d:Nat}(h:Zbr x d=true):0<d:=by
 obtain⟨k,n,b,l⟩:=x
 cases d with
 | zero=>rw[Zbr]at h;cases h
 | succ d=>omega
theorem ZoE [Known]:∀(x:It),wfI x->∀ d:Nat,Zbr x (d+1)=true->d<=100->AP Tryz.prog 19 [itD x,.int .i64 (d:Int)] (itD x) []:=by
 refine It.ind fun k n b l ih hw d hd hd'=>?_
 obtain⟨hn,hb,hl,hws⟩:=hw
 rw[Zbr]at hd
 have ih':∀ y ∈ l,AP Tryz.prog 19 [itD y,.int .i64 ((d-1:Nat):Int)] (itD y) []:=fun y hy=>by
  have h1:=Zds hd y hy
  have h2:=Zft h1
  exact ih y hy (ZaP hws y hy) (d-1) (by rw[show d-1+1=d by omega];exact h1) (by omega)
 clear ih
 have hlen:=Zan l
 refine AP.ofA ?_
 refine Zap Tryz.func19 rfl Tryz.ntmps19 rfl rfl ?_
 repeat'(first|(apply Zai Zab;exact Z))
 refine ZaC (fun k' tm bx fr=>∃(i c:Nat) (L:List E),k'+i=l.length/\c=L.length/\L=Zas (l.take i)/\tm=[(1,.int .i64 (d:Int)),(2,.ptr 0 0),(4,.ptr 1 0),(5,.ptr 2 0),(6,.int .i64 (i:Int))] /\
  ((i=0/\bx=[itC k n b l,[.int .i64 0,.int .u64 0,.sl .nil [],.sl .nil []],[.int .i64 k,.int .u64 (n:Int),byE b,.sl .nil []]]/\fr=[]) \/
  (bx=[itC k n b l,[.int .i64 0,.int .u64 0,.sl .nil [],.sl .nil []],[.int .i64 k,.int .u64 (n:Int),byE b,.sl (.own 0) L]]/\fr=[⟨c,4,51⟩]))) (l.length+1) (Lands.mk' (m:=l.length) (Nat.lt_succ_self _) ⟨0,0,[],rfl,rfl,rfl,rfl,.inl ⟨rfl,rfl,rfl⟩⟩ ?_ rfl rfl rfl rfl rfl rfl) ?_
 ·exact .cons rfl (.cons rfl (.cons rfl (.cons rfl (.cons rfl .nil))))
 rintro k' tm bx fr ⟨i,c,L,hi,hc,hL,rfl,⟨rfl,rfl,rfl⟩ | ⟨rfl,rfl⟩⟩
 ·cases l with
  | nil=>
   repeat'(first|(apply Zaj Zab;exact Z)|(apply Zai Zab;exact Z)|(apply Zay Zab;exact Z)|(apply Zau;(iterate 3 exact Z);exact Go.Zqn)|(apply Zah;exact Z;exact Go.Zqn;exact Z;exact Z)|(apply Zae;exact Z;exact Go.Zqn)|(apply Zal Zab;(iterate 4 exact Z)))
   all_goals(apply Zax [];(apply Zad Zab;exact Z);(iterate 4 exact Z))
   all_goals rfl
  | cons y l=>
   have hc:=ih' y (List.mem_cons_self ..)
   have hU:=ZbG (y::l)
   have hd1:decide (((0:Nat):Int)<((Zas (y::l)).length:Int))=true:=decide_eq_true (by rw[Zas];simp)
   have hp:=Zft (Zds hd y (List.mem_cons_self ..))
   have hd2:decide ((d:Int)>0)=true:=decide_eq_true (by omega)
   have ed:IntKind.i64.wrap ((d:Int)-1)=((d-1:Nat):Int):=by rw[IntWalk.i64_in _ (by omega)];omega
   obtain⟨k1,n1,b1,l1⟩:=y
   repeat'(first|(apply Zaa (hc);kernel_rfl;(iterate 4 exact Z))|rw[ed]|(apply Zbn Zab;(iterate 6 exact Z);exact Zag rfl;exact List.cons_ne_nil _ _;exact Z;decide +kernel;decide +kernel;(iterate 3 exact Z))|(apply Zaj Zab;exact Z)|(apply Zai Zab;exact Z)|(apply Zay Zab;exact Z)|(apply Zaf;(iterate 3 exact Z);exact Go.Zqn)|(apply Zak;exact Z;exact Go.Zqn;exact Z;exact Z)|(apply Zac;exact Z;exact Go.Zqn)|(apply Zal Zab;(iterate 4 exact Z))|(apply Za5 Zab;(iterate 12 exact Z))|(apply Zam 11 ZaR;decide +kernel;kernel_rfl;kernel_rfl;kernel_rfl;exact Z;exact Z)|(apply Zar;(iterate 4 exact Z))|exact AE.nil _ _ _ _|(apply Zav;exact Z)|(apply Zaz;exact Z;exact Z;decide +kernel;exact Z)|(apply ZaA;exact Z)|exact AO.nil _ _ _|(apply Zaq;(decide +kernel))|exact AOs.nil|exact ZaI rfl rfl|exact ZdO rfl rfl rfl rfl rfl|(apply Zat Zab;(iterate 6 exact Z);(first|exact Go.Zqn|rotate_left);(first|with_reducible assumption|decide +kernel|exact Z);(first|exact Zag rfl|with_reducible assumption|decide +kernel|rotate_left)))
   refine Lands.mk' (m:=k'-1) (by simp at hi;omega) ⟨1,1,Zas [It.mk k1 n1 b1 l1],by simp at hi ⊢;omega,rfl,rfl,rfl,.inr ⟨rfl,rfl⟩⟩ ?_ rfl rfl rfl rfl rfl rfl
   exact .cons rfl (.cons rfl (.cons rfl (.cons rfl (.cons rfl .nil))))
 ·have hU:=ZbG l
  have hU2:Uni 4 L:=hL ▸ ZbG (l.take i)
  have el:=Zan (l.take i)
  rw[<- hL]at el
  subst hc
  rcases Nat.lt_or_ge i l.length with hlt|hge
  ·have hd1:decide ((i:Int)<((Zas l).length:Int))=true:=decide_eq_true (by omega)
   obtain⟨⟨k1,n1,b1,l1⟩,hy⟩:∃ y,l[i]?=some y:=⟨_,List.getElem?_eq_getElem hlt⟩
   have hv:(Zas l)[((i:Nat):Int).toNat]?=some (.agg [.int .i64 k1,.int .u64 (n1:Int),.sl (b1.map E.byte),.sl (Zas l1)]):=by
    rw[Int.toNat_natCast,ZaB,List.getElem?_map,hy];rfl
   have hc:=ih' _ (List.mem_of_getElem? hy)
   have hp:=Zft (Zds hd _ (List.mem_of_getElem? hy))
   have hd2:decide ((d:Int)>0)=true:=decide_eq_true (by omega)
   have ed:IntKind.i64.wrap ((d:Int)-1)=((d-1:Nat):Int):=by rw[IntWalk.i64_in _ (by omega)];omega
   have ei:IntKind.i64.wrap ((i:Int)+1)=((i+1:Nat):Int):=by rw[IntWalk.i64_in _ (by omega)];omega
   have hs:L++[E.agg [.int .i64 k1,.int .u64 (n1:Int),.sl (b1.map E.byte),.sl (Zas l1)]]=Zas (l.take (i+1)):=by
    rw[hL,List.take_add_one,hy];exact(Zb5 _ [It.mk k1 n1 b1 l1]).symm
   rw[List.length_take]at el
   repeat'(first|(apply Zaa (hc);kernel_rfl;(iterate 4 exact Z))|rw[ei]|rw[ed]|(apply Zaj Zab;exact Z)|(apply Zai Zab;exact Z)|(apply Zay Zab;exact Z)|(apply Zaf;(iterate 3 exact Z);exact Go.Zqn)|(apply Zak;exact Z;exact Go.Zqn;exact Z;exact Z)|(apply Zac;exact Z;exact Go.Zqn)|(apply Zal Zab;(iterate 4 exact Z))|(apply Za5 Zab;(iterate 12 exact Z))|(apply Zam 11 ZaR;decide +kernel;kernel_rfl;kernel_rfl;kernel_rfl;exact Z;exact Z)|(apply Zar;(iterate 4 exact Z))|exact AE.nil _ _ _ _|(apply Zav;exact Z)|(apply Zaz;exact Z;exact Z;decide +kernel;exact Z)|(apply ZaA;exact Z)|exact AO.nil _ _ _|(apply Zaq;(decide +kernel))|exact AOs.nil|exact ZaI rfl rfl|exact ZdO rfl rfl rfl rfl rfl|(apply ZaK Zab;(iterate 6 exact Z);(first|with_reducible assumption|decide +kernel|exact Z|rotate_left);exact Z;exact Z;(first|exact Zag rfl|with_reducible assumption|decide +kernel|rotate_left);(first|exact Zag rfl|with_reducible assumption|decide +kernel|rotate_left);(first|exact Go.Zqn|rotate_left);(first|exact Go.Zqn|rotate_left);(first|exact Go.Zqn|rotate_left);exact Z;exact Z)|(apply Zat Zab;(iterate 6 exact Z);(first|exact Go.Zqn|rotate_left);(first|with_reducible assumption|decide +kernel|exact Z);(first|exact Zag rfl|with_reducible assumption|decide +kernel|rotate_left)))
   ·refine Lands.mk' (m:=k'-1) (by omega) ⟨i+1,L.length+1,_,by omega,by rw[List.length_append];rfl,hs,rfl,.inr ⟨rfl,rfl⟩⟩ ?_ rfl rfl rfl rfl rfl rfl
    exact .cons rfl (.cons rfl (.cons rfl (.cons rfl (.cons rfl .nil))))
   all_goals(first|rfl|(simp only[List.length_append,List.length_cons,List.length_nil,List.length_map,Zan];done)|(simp only[List.length_append,List.length_cons,List.length_nil,List.length_map,Zan]at *;(try unfold maxLen);(try simp only[Nat.add_mul]);omega))
  ·have hd1:decide ((i:Int)<((Zas l).length:Int))=false:=decide_eq_false (by omega)
   rw[List.take_of_length_le hge]at hL
   subst hL
   repeat'(first|(apply Zaj Zab;exact Z)|(apply Zai Zab;exact Z)|(apply Zay Zab;exact Z)|(apply Zau;(iterate 3 exact Z);exact Go.Zqn)|(apply Zah;exact Z;exact Go.Zqn;exact Z;exact Z)|(apply Zae;exact Z;exact Go.Zqn)|(apply Zal Zab;(iterate 4 exact Z)))
   all_goals(apply Zax [];(apply Zad Zab;exact Z);(iterate 4 exact Z))
   all_goals rfl
theorem ZnN {l l':List It}(h:l.length ≠ l'.length):It.beqs l l'=false:=by
 rw[<- Bool.not_eq_true]
 intro e
 exact h (congrArg List.length (It.beqs_iff.1 e))
theorem ZbK [Known]:∀(x:It),wfI x->∀ y:It,wfI y->AP Tryz.prog 22 [itD x,itD y] (.bool (It.beq x y)) []:=by
 refine It.ind fun k n b l ih hw y hw'=>?_
 obtain⟨k',n',b',l'⟩:=y
 obtain⟨_,_,hl,hws⟩:=hw
 obtain⟨_,_,hl',hws'⟩:=hw'
 have e1:=Zan l
 have e2:=Zan l'
 rw[It.beq]
 by_cases h1:k=k'
 case neg=>
  have t1:(k != k')=true:=by simpa using h1
  have tt:((k==k')&&((n==n')&&((b==b')&&It.beqs l l')))=false:=by simp[h1]
  rw[tt]
  refine AP.ofA ?_
  refine Zap Tryz.func22 rfl Tryz.ntmps22 rfl rfl ?_
  repeat'(first|(apply Zaj Zab;exact Z)|(apply Zai Zab;exact Z)|(apply Zay Zab;exact Z)|(apply Zao;(iterate 3 exact Z);exact Go.Zqn)|(apply Zak;exact Z;exact Go.Zqn;exact Z;exact Z)|(apply Zac;exact Z;exact Go.Zqn))
  all_goals(apply Zax [];(apply Zad Zab;exact Z);(iterate 4 exact Z))
  all_goals rfl
 have t1:(k != k')=false:=by simpa using h1
 by_cases h2:n=n'
 case neg=>
  have t2:((n:Int) != (n':Int))=true:=by simp;omega
  have tt:((k==k')&&((n==n')&&((b==b')&&It.beqs l l')))=false:=by simp[h2]
  rw[tt]
  refine AP.ofA ?_
  refine Zap Tryz.func22 rfl Tryz.ntmps22 rfl rfl ?_
  repeat'(first|(apply Zaj Zab;exact Z)|(apply Zai Zab;exact Z)|(apply Zay Zab;exact Z)|(apply Zaf;(iterate 3 exact Z);exact Go.Zqn)|(apply Zao;(iterate 3 exact Z);exact Go.Zqn)|(apply Zak;exact Z;exact Go.Zqn;exact Z;exact Z)|(apply Zah;exact Z;exact Go.Zqn;exact Z;exact Z)|(apply Zac;exact Z;exact Go.Zqn))
  all_goals(apply Zax [];(apply Zad Zab;exact Z);(iterate 4 exact Z))
  all_goals rfl
 have t2:((n:Int) != (n':Int))=false:=by simp;omega
 by_cases h3:b=b'
 case neg=>
  have t3:(b != b')=true:=by simpa using h3
  have tt:((k==k')&&((n==n')&&((b==b')&&It.beqs l l')))=false:=by simp[h3]
  rw[tt]
  refine AP.ofA ?_
  refine Zap Tryz.func22 rfl Tryz.ntmps22 rfl rfl ?_
  repeat'(first|(apply Zaj Zab;exact Z)|(apply Zai Zab;exact Z)|(apply Zay Zab;exact Z)|(apply Zaf;(iterate 3 exact Z);exact Go.Zqn)|(apply Zao;(iterate 3 exact Z);exact Go.Zqn)|(apply Zak;exact Z;exact Go.Zqn;exact Z;exact Z)|(apply Zah;exact Z;exact Go.Zqn;exact Z;exact Z)|(apply Zac;exact Z;exact Go.Zqn)|(apply Zdo Zab;(iterate 9 exact Z)))
  all_goals(apply Zax [];(apply Zad Zab;exact Z);(iterate 4 exact Z))
  all_goals rfl
 have t3:(b != b')=false:=by simpa using h3
 have e:((k==k')&&((n==n')&&((b==b')&&It.beqs l l')))=It.beqs l l':=by simp[h1,h2,h3]
 rw[e]
 by_cases hne:l.length=l'.length
 case neg=>
  have t4:(((Zas l).length:Int) != ((Zas l').length:Int))=true:=by rw[e1,e2];simp;omega
  rw[ZnN hne]
  refine AP.ofA ?_
  refine Zap Tryz.func22 rfl Tryz.ntmps22 rfl rfl ?_
  repeat'(first|(apply Zaj Zab;exact Z)|(apply Zai Zab;exact Z)|(apply Zay Zab;exact Z)|(apply Zaf;(iterate 3 exact Z);exact Go.Zqn)|(apply Zah;exact Z;exact Go.Zqn;exact Z;exact Z)|(apply Zac;exact Z;exact Go.Zqn)|(apply Zal Zab;(iterate 4 exact Z))|(apply Zdo Zab;(iterate 9 exact Z)))
  all_goals(apply Zax [];(apply Zad Zab;exact Z);(iterate 4 exact Z))
  all_goals rfl
 have t4:(((Zas l).length:Int) != ((Zas l').length:Int))=false:=by rw[e1,e2,hne];simp
 generalize hfin:It.beqs l l'=fin
 have ih':∀ y ∈ l,∀ y' ∈ l',AP Tryz.prog 22 [itD y,itD y'] (.bool (It.beq y y')) []:=fun y hy y' hy'=>ih y hy (ZaP hws y hy) y' (ZaP hws' y' hy')
 clear ih e h1 h2 h3
 refine AP.ofA ?_
 refine Zap Tryz.func22 rfl Tryz.ntmps22 rfl rfl ?_
 repeat'(first|(apply Zaj Zab;exact Z)|(apply Zai Zab;exact Z)|(apply Zay Zab;exact Z)|(apply Zaf;(iterate 3 exact Z);exact Go.Zqn)|(apply Zah;exact Z;exact Go.Zqn;exact Z;exact Z)|(apply Zae;exact Z;exact Go.Zqn)|(apply Zal Zab;(iterate 4 exact Z))|(apply Zdo Zab;(iterate 9 exact Z)))
 refine ZaC (fun f tm bx fr=>∃ i:Nat,f+i=l.length/\It.beqs (l.drop i) (l'.drop i)=fin/\tm=[(2,.ptr 0 0),(3,.ptr 1 0),(5,.int .i64 (i:Int)),(4,.bool false)]/\bx=[itC k n b l,itC k' n' b' l']/\fr=[]) (l.length+1) (Lands.mk' (m:=l.length) (Nat.lt_succ_self _) ⟨0,rfl,hfin,rfl,rfl,rfl⟩ ?_ rfl rfl rfl rfl rfl rfl) ?_
 ·exact .cons rfl (.cons rfl (.cons rfl (.cons rfl .nil)))
 rintro f tm bx fr ⟨i,hf,hfin,rfl,rfl,rfl⟩
 have hU:=ZbG l
 have hU':=ZbG l'
 rcases Nat.lt_or_ge i l.length with hlt|hge
 ·have hdl:decide ((i:Int)<((Zas l).length:Int))=true:=decide_eq_true (by omega)
  obtain⟨⟨k1,n1,b1,l1⟩,hy⟩:∃ y,l[i]?=some y:=⟨_,List.getElem?_eq_getElem hlt⟩
  obtain⟨⟨k2,n2,b2,l2⟩,hy'⟩:∃ y,l'[i]?=some y:=⟨_,List.getElem?_eq_getElem (by omega)⟩
  have hv:(Zas l)[((i:Nat):Int).toNat]?=some (.agg [.int .i64 k1,.int .u64 (n1:Int),.sl (b1.map E.byte),.sl (Zas l1)]):=by
   rw[Int.toNat_natCast,ZaB,List.getElem?_map,hy];rfl
  have hv':(Zas l')[((i:Nat):Int).toNat]?=some (.agg [.int .i64 k2,.int .u64 (n2:Int),.sl (b2.map E.byte),.sl (Zas l2)]):=by
   rw[Int.toNat_natCast,ZaB,List.getElem?_map,hy'];rfl
  have hc:=ih' _ (List.mem_of_getElem? hy) _ (List.mem_of_getElem? hy')
  have hdr:l.drop i=It.mk k1 n1 b1 l1::l.drop (i+1):=by
   rw[List.drop_eq_getElem_cons hlt];congr 1
   exact(List.getElem?_eq_some_iff.1 hy).2
  have hdr':l'.drop i=It.mk k2 n2 b2 l2::l'.drop (i+1):=by
   rw[List.drop_eq_getElem_cons (by omega)];congr 1
   exact(List.getElem?_eq_some_iff.1 hy').2
  rw[hdr,hdr',It.beqs]at hfin
  have ei:IntKind.i64.wrap ((i:Int)+1)=((i+1:Nat):Int):=by rw[IntWalk.i64_in _ (by omega)];omega
  cases hb:It.beq (.mk k1 n1 b1 l1) (.mk k2 n2 b2 l2) with
  | false=>
   rw[hb]at hfin hc
   subst hfin
   repeat'(first|(apply Zaa (hc);kernel_rfl;(iterate 4 exact Z))|(apply Zaj Zab;exact Z)|(apply Zai Zab;exact Z)|(apply Zay Zab;exact Z)|(apply Zac;exact Z;exact Go.Zqn)|refine ZbI ?_|(apply Zal Zab;(iterate 4 exact Z))|(apply ZaO 10 ZaR;decide +kernel;kernel_rfl;kernel_rfl;exact Z;exact Z)|(apply ZaY;(iterate 3 exact Z))|refine AD.nil _|exact ZbO rfl|(apply Zat Zab;(iterate 6 exact Z);(first|exact Go.Zqn|rotate_left);(first|with_reducible assumption|decide +kernel|exact Z);(first|exact Zag rfl|with_reducible assumption|decide +kernel|rotate_left)))
   all_goals(apply Zax [];(apply Zad Zab;exact Z);(iterate 4 exact Z))
   all_goals rfl
  | true=>
   rw[hb]at hfin hc
   repeat'(first|rw[ei]|(apply Zaa (hc);kernel_rfl;(iterate 4 exact Z))|(apply Zaj Zab;exact Z)|(apply Zai Zab;exact Z)|(apply Zay Zab;exact Z)|(apply Zac;exact Z;exact Go.Zqn)|(apply Zae;exact Z;exact Go.Zqn)|(apply Zal Zab;(iterate 4 exact Z))|(apply ZaO 10 ZaR;decide +kernel;kernel_rfl;kernel_rfl;exact Z;exact Z)|(apply ZaY;(iterate 3 exact Z))|refine AD.nil _|exact ZbO rfl|(apply Zat Zab;(iterate 6 exact Z);(first|exact Go.Zqn|rotate_left);(first|with_reducible assumption|decide +kernel|exact Z);(first|exact Zag rfl|with_reducible assumption|decide +kernel|rotate_left)))
   refine Lands.mk' (m:=f-1) (by omega) ⟨i+1,by omega,hfin,rfl,rfl,rfl⟩ ?_ rfl rfl rfl rfl rfl rfl
   exact .cons rfl (.cons rfl (.cons rfl (.cons rfl .nil)))
 ·have hdl:decide ((i:Int)<((Zas l).length:Int))=false:=decide_eq_false (by omega)
  rw[List.drop_eq_nil_of_le hge,List.drop_eq_nil_of_le (by omega)]at hfin
  have hfin:true=fin:=hfin
  subst hfin
  repeat'(first|(apply Zaj Zab;exact Z)|(apply Zai Zab;exact Z)|(apply Zay Zab;exact Z)|(apply Zae;exact Z;exact Go.Zqn)|(apply Zal Zab;(iterate 4 exact Z)))
  all_goals(apply Zax [];(apply Zad Zab;exact Z);(iterate 4 exact Z))
  all_goals rfl
end Go.Proofs.YtakblclkflnnpaaGreatDoor
end
