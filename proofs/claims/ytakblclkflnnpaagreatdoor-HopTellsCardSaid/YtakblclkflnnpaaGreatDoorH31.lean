/- The document's items: which may be, their bytes. -/
import Derived.Test.YtakblclkflnnpaaGreatDoorH30
import Derived.Test.YtakblclkflnnpaaGreatDoorH16
import Derived.Test.YtakblclkflnnpaaGreatDoorH20
import Derived.Test.YtakblclkflnnpaaGreatDoorH28
import Derived.Test.YtakblclkflnnpaaGreatDoorH21
import Derived.Test.YtakblclkflnnpaaGreatDoorH22
import Derived.Test.YtakblclkflnnpaaGreatDoorH10
set_option linter.unusedVariables false
set_option linter.unusedSimpArgs false
section
open Go.RowKit Go.Pl Go.Av
namespace Go.Proofs.YtakblclkflnnpaaGreatDoor
set_option maxHeartbeats 4000000
theorem Zgy:∀ {l:List It},Zcj l=true->∀ y ∈ l,ZbN y=true
 | x::l,h,y,hy=>by
  rw[Zcj,Bool.and_eq_true]at h
  rcases List.mem_cons.1 hy with rfl|hy
  ·exact h.1
  ·exact Zgy h.2 y hy
theorem n0' (n:Nat):((n:Int) != 0) = !decide (n=0):=by rw[bne,n0]
theorem Ztd {α:Type}{f:α->E}(b:List α):(((b.map f).length:Int) != 0) = !b.isEmpty:=by rw[bne,ZsV]
theorem ZqY [Known]:∀(x:It),wfI x->AP Tryz.prog 175 [itD x] (.bool (ZbN x)) []:=by
 refine It.ind fun k n b l ih hw=>?_
 obtain⟨_,hb,hl,hws⟩:=hw
 have e1:=ZsV (f:=E.byte) b
 have e2:=ZrP l
 have e3:=n0 n
 have hv:=Zgw b hb
 have hlen:=Zaq l
 have hE:∀ P:Bool,(P&&l.isEmpty&&Zcj l)=(P&&l.isEmpty):=fun P=>by
  cases l with
  | nil=>rw[Zcj,Bool.and_true]
  | cons x l=>simp
 by_cases k0:k=0
 ·subst k0
  have e:ZbN (.mk 0 n b l)=(b.isEmpty&&l.isEmpty):=by rw[ZbN];exact hE _
  rw[e]
  cases hbe:b.isEmpty<;>cases hle:l.isEmpty
  all_goals
   rw[hbe]at e1
   rw[hle]at e2
   refine AP.ofA (Zam Tryz.func175 U Tryz.ntmps175 U U ?_)
   repeat'(first|rw[e1]|rw[e2]|(apply Zai Zab;exact U)|(apply Zag Zab;exact U)|refine Zae U U U Qt ?_|refine Zap U U U Qt ?_|refine Zak U Qt U U ?_|refine Zah U Qt U U ?_|refine Zad U Qt ?_|refine Zan Zab U U U U ?_)
   all_goals exact Qe
 by_cases k2:k=2
 ·subst k2
  have e:ZbN (.mk 2 n b l)=(decide (n=0)&&l.isEmpty):=by rw[ZbN];exact hE _
  rw[e]
  cases hbe:decide (n=0)<;>cases hle:l.isEmpty
  all_goals
   rw[hbe]at e3
   rw[hle]at e2
   refine AP.ofA (Zam Tryz.func175 U Tryz.ntmps175 U U ?_)
   repeat'(first|rw[e2]|rw[e3]|(apply Zai Zab;exact U)|(apply Zag Zab;exact U)|refine Zae U U U Qt ?_|refine Zap U U U Qt ?_|refine Zak U Qt U U ?_|refine Zah U Qt U U ?_|refine Zad U Qt ?_|refine Zaf U Qt ?_|refine Zan Zab U U U U ?_)
   all_goals exact Qe
 by_cases k3:k=3
 ·subst k3
  have e:ZbN (.mk 3 n b l)=(decide (n=0)&&l.isEmpty&&ZaG b):=by
   rw[ZbN]
   have e:Zdi 3 n b l=(decide (n=0)&&(l.isEmpty&&ZaG b)):=rfl
   rw[e]
   cases l with
   | nil=>rw[Zcj];simp
   | cons x l=>simp
  rw[e]
  cases hbe:decide (n=0)<;>cases hle:l.isEmpty
  all_goals
   rw[hbe]at e3
   rw[hle]at e2
   refine AP.ofA (Zam Tryz.func175 U Tryz.ntmps175 U U ?_)
   repeat'(first|rw[e2]|rw[e3]|(apply Zaa (hv);kernel_rfl;(iterate 4 exact U))|(apply Zai Zab;exact U)|(apply Zag Zab;exact U)|refine Zae U U U Qt ?_|refine Zap U U U Qt ?_|refine Zak U Qt U U ?_|refine Zah U Qt U U ?_|refine Zad U Qt ?_|refine Zaf U Qt ?_|refine Zan Zab U U U U ?_)
   all_goals exact Qe
 by_cases k4:k=4
 ·subst k4
  have e:ZbN (.mk 4 n b l)=((decide (n=0)&&b.isEmpty)&&Zcj l):=by rw[ZbN];rfl
  rw[e]
  have f1:=n0' n
  have f2:=Ztd (f:=E.byte) b
  cases hbe:decide (n=0) with
  | false=>
   rw[hbe]at f1
   replace f1:((n:Int) != 0)=true:=f1
   refine AP.ofA (Zam Tryz.func175 U Tryz.ntmps175 U U ?_)
   repeat'(first|(apply Zai Zab;exact U)|(apply Zag Zab;exact U)|(apply Zau Zab;exact U)|refine Zal U U U Qt ?_|refine Zak U Qt U U ?_|refine Zad U Qt ?_|refine Zaf U Qt ?_)
   all_goals exact Qe
  | true=>
   rw[hbe]at f1
   replace f1:((n:Int) != 0)=false:=f1
   cases hle:b.isEmpty with
   | false=>
    rw[hle]at f2
    replace f2:(((b.map E.byte).length:Int) != 0)=true:=f2
    refine AP.ofA (Zam Tryz.func175 U Tryz.ntmps175 U U ?_)
    repeat'(first|(apply Zai Zab;exact U)|(apply Zag Zab;exact U)|(apply Zau Zab;exact U)|refine Zae U U U Qt ?_|refine Zah U Qt U U ?_|refine Zad U Qt ?_|refine Zaf U Qt ?_|refine Zan Zab U U U U ?_)
    all_goals exact Qe
   | true=>
    rw[hle]at f2
    replace f2:(((b.map E.byte).length:Int) != 0)=false:=f2
    rw[Bool.true_and,Bool.true_and]
    generalize hfin:Zcj l=fin
    refine AP.ofA (Zam Tryz.func175 U Tryz.ntmps175 U U ?_)
    repeat'(first|(apply Zai Zab;exact U)|(apply Zag Zab;exact U)|(apply Zau Zab;exact U)|refine Zae U U U Qt ?_|refine Zah U Qt U U ?_|refine Zad U Qt ?_|refine Zaf U Qt ?_|refine Zan Zab U U U U ?_)
    refine ZaB (fun f tm bx fr=>∃ i:Nat,f+i=l.length/\Zcj (l.drop i)=fin/\tm=[(1,.ptr 0 0),(3,.int .i64 (i:Int))]/\bx=[itC 4 n b l]/\fr=[]) (l.length+1) (Lands.mk' (m:=l.length) (Nat.lt_succ_self _) ⟨0,rfl,hfin,rfl,rfl,rfl⟩ ?_ rfl rfl rfl rfl rfl rfl) ?_
    ·exact .cons rfl (.cons rfl .nil)
    rintro f tm bx fr ⟨i,hf,hfin,rfl,rfl,rfl⟩
    have hU:=ZcF l
    rcases Nat.lt_or_ge i l.length with hlt|hge
    ·have hdl:decide ((i:Int)<((ZaC l).length:Int))=true:=decide_eq_true (by omega)
     obtain⟨⟨k1,n1,b1,l1⟩,hy⟩:∃ y,l[i]?=some y:=⟨_,List.getElem?_eq_getElem hlt⟩
     have hv:(ZaC l)[((i:Nat):Int).toNat]?=some (.agg [.int .i64 k1,.int .u64 (n1:Int),.sl (b1.map E.byte),.sl (ZaC l1)]):=by
      rw[Int.toNat_natCast,ZaP,List.getElem?_map,hy];rfl
     have hmem:=List.mem_of_getElem? hy
     have hc:=ih _ hmem (Zbd hws _ hmem)
     have hdr:l.drop i=It.mk k1 n1 b1 l1::l.drop (i+1):=by
      rw[List.drop_eq_getElem_cons hlt];congr 1
      exact(List.getElem?_eq_some_iff.1 hy).2
     rw[hdr,Zcj]at hfin
     have ei:IntKind.i64.wrap ((i:Int)+1)=((i+1:Nat):Int):=by rw[IntWalk.i64_in _ (by omega)];omega
     cases hq:ZbN (.mk k1 n1 b1 l1) with
     | false=>
      rw[hq]at hc hfin
      rw[Bool.false_and]at hfin
      subst hfin
      repeat'(first|(apply Zaa (hc);kernel_rfl;(iterate 4 exact U))|(apply Zai Zab;exact U)|(apply Zag Zab;exact U)|(apply Zau Zab;exact U)|refine Zad U Qt ?_|refine Za2 ?_|refine Zan Zab U U U U ?_|(apply Zat Zab;(iterate 6 exact U);(first|exact Qt|rotate_left);(first|with_reducible assumption|decide +kernel|exact U);(first|exact Zaj rfl|with_reducible assumption|decide +kernel|rotate_left)))
      all_goals exact Qe
     | true=>
      rw[hq]at hc hfin
      rw[Bool.true_and]at hfin
      repeat'(first|rw[ei]|(apply Zaa (hc);kernel_rfl;(iterate 4 exact U))|(apply Zai Zab;exact U)|(apply Zag Zab;exact U)|(apply Zau Zab;exact U)|refine Zad U Qt ?_|refine Zaf U Qt ?_|refine Zan Zab U U U U ?_|(apply Zat Zab;(iterate 6 exact U);(first|exact Qt|rotate_left);(first|with_reducible assumption|decide +kernel|exact U);(first|exact Zaj rfl|with_reducible assumption|decide +kernel|rotate_left)))
      refine Lands.mk' (m:=f-1) (by omega) ⟨i+1,by omega,hfin,rfl,rfl,rfl⟩ ?_ rfl rfl rfl rfl rfl rfl
      exact .cons rfl (.cons rfl .nil)
    ·have hdl:decide ((i:Int)<((ZaC l).length:Int))=false:=decide_eq_false (by omega)
     rw[List.drop_eq_nil_of_le hge]at hfin
     have hfin:true=fin:=hfin
     subst hfin
     repeat'(first|(apply Zai Zab;exact U)|(apply Zag Zab;exact U)|(apply Zau Zab;exact U)|refine Zaf U Qt ?_|refine Zan Zab U U U U ?_)
     all_goals exact Qe
 ·have t0:(k==0)=false:=by simpa using k0
  have t2:(k==2)=false:=by simpa using k2
  have t3:(k==3)=false:=by simpa using k3
  have t4:(k==4)=false:=by simpa using k4
  have e:ZbN (.mk k n b l)=false:=by rw[ZbN];simp[Zdi,k0,k2,k3,k4]
  rw[e]
  refine AP.ofA (Zam Tryz.func175 U Tryz.ntmps175 U U ?_)
  repeat'(first|(apply Zag Zab;exact U)|refine Zaf U Qt ?_)
  all_goals exact Qe
theorem ZfE [Known](x:It)(hw:wfI x)(hs:ZbQ x<=1000):AP Tryz.prog 147 [itD x] (.bool (ZaD x)) []:=by
 have h1:=ZqX x hw 7 (by omega)
 have h2:=ZqW 257 (by omega) x hs
 have h3:=ZqY x hw
 replace h1:AP Tryz.prog _ [itD x,.int .i64 7] (.int .i64 (Zh5 x 7:Int)) []:=h1
 replace h2:AP Tryz.prog _ [itD x,.int .i64 257] (.int .i64 (Zdm x 257:Int)) []:=h2
 rw[<- ZnD]
 have e1:decide ((Zh5 x 7:Int)<=6)=decide (Zh5 x 7<=6):=by rw[decide_eq_decide];omega
 have e2:decide ((Zdm x 257:Int)<=256)=decide (Zdm x 257<=256):=by rw[decide_eq_decide];omega
 generalize decide (Zh5 x 7<=6)=p at *
 generalize decide (Zdm x 257<=256)=q at *
 generalize ZbN x=r at *
 obtain⟨k,n,b,l⟩:=x
 cases p<;>cases q
 all_goals
  refine AP.ofA (Zam Tryz.func147 U Tryz.ntmps147 U U ?_)
  repeat'(first|(apply Zaa (h1);kernel_rfl;(iterate 4 exact U))|(apply Zaa (h2);kernel_rfl;(iterate 4 exact U))|(apply Zaa (h3);kernel_rfl;(iterate 4 exact U))|(apply Zai Zab;exact U)|(apply Zag Zab;exact U)|refine Zae U U U Qt ?_|refine Zap U U U Qt ?_|refine Zak U Qt U U ?_|refine Zah U Qt U U ?_)
  all_goals exact Qe
theorem ZlJ (h:Hd):∃ c t,ZaS h=c::t:=by
 unfold ZaS
 split
 ·exact⟨_,_,rfl⟩
 ·exact⟨_,_,rfl⟩
theorem Ze6 [Known]:∀(x:It),wfI x->ZbN x=true->(ZaZ x).length<=1099511627776->AP Tryz.prog 110 [itD x] (byE (ZaZ x)) []:=by
 refine It.ind fun k n b l ih hw hfi hlim=>?_
 obtain⟨hn,hb,hl,hws⟩:=hw
 rw[ZbN,Bool.and_eq_true]at hfi
 obtain⟨ho,hfs⟩:=hfi
 have hlen:=Zaq l
 have hk7:=Zff ho
 have hr:Za1 (k,(It.mk k n b l).hn,false)=true:=by simp[Za1];exact hk7
 have hhn:(It.mk k n b l).hn<18446744073709551616:=by simp only[It.hn];(repeat' split)<;>omega
 have hput:ZaZ (.mk k n b l)=ZaS (k,(It.mk k n b l).hn,false)++(b++ZaX l):=by rw[ZaZ,if_pos hr]
 have hW:=ZiP (k,(It.mk k n b l).hn,false) hr hhn
 obtain⟨c0,t0,hcw⟩:=ZlJ (k,(It.mk k n b l).hn,false)
 rw[hput]at hlim ⊢
 rw[hcw]at hW hlim ⊢
 have hU0:=Zbh (c0::t0)
 have hU1:=Zbh b
 clear hr hhn hcw hput
 have eb:IntKind.u64.wrap (((b.map E.byte).length:Nat):Int)=((b.length:Nat):Int):=by rw[List.length_map,IntKind.wrap_u64];omega
 have el:IntKind.u64.wrap (((ZaC l).length:Nat):Int)=((l.length:Nat):Int):=by rw[hlen,IntKind.wrap_u64];omega
 rcases Zg8 ho with⟨rfl,rfl,rfl⟩ | ⟨rfl,rfl,rfl⟩ | ⟨rfl,rfl,rfl,_⟩ | ⟨rfl,rfl,rfl⟩
 ·replace hW:AT Tryz.prog _ [.agg [.int .i64 0,.int .u64 (n:Int),.bool false]] [] [] _ [] _:=hW
  refine AP.ofA (Zam Tryz.func110 U Tryz.ntmps110 U U ?_)
  repeat'(first|(apply ZaU [] [] (hW);kernel_rfl;(iterate 10 exact U))|refine Zbn 70 ?_|refine ZbC ?_|(apply Zai Zab;exact U)|(apply Zag Zab;exact U)|(apply Zau Zab;exact U)|refine Zaf U Qt ?_|refine Zan Zab U U U U ?_|refine ZaI Zab U U U U U U ?_)
  all_goals(apply Zav [];(apply Zac Zab;exact U);(iterate 4 exact U))
  ·rw[ZaX,List.append_nil,List.append_nil]
  ·rfl
 ·replace hW:AT Tryz.prog _ [.agg [.int .i64 2,.int .u64 (b.length:Int),.bool false]] [] [] _ [] _:=hW
  rcases b with _|⟨c1,b⟩
  ·refine AP.ofA ?_
   refine Zam Tryz.func110 rfl Tryz.ntmps110 rfl rfl ?_
   repeat'(first|rw[eb]|(apply ZaU [] [] (hW);kernel_rfl;(iterate 10 exact U))|refine Zbn 70 ?_|refine ZbC ?_|(apply Zai Zab;exact U)|(apply Zag Zab;exact U)|(apply Zau Zab;exact U)|refine Zad U Qt ?_|refine Zaf U Qt ?_|refine Zan Zab U U U U ?_|refine ZaI Zab U U U U U U ?_)
   all_goals(apply Zav [];(apply Zac Zab;exact U);(iterate 4 exact U))
   ·rw[ZaX,List.append_nil,List.append_nil]
   ·rfl
  ·refine AP.ofA ?_
   refine Zam Tryz.func110 rfl Tryz.ntmps110 rfl rfl ?_
   repeat'(first|rw[eb]|(apply ZaU [] [] (hW);kernel_rfl;(iterate 10 exact U))|refine Zbn 70 ?_|refine ZbC ?_|(apply Zai Zab;exact U)|(apply Zag Zab;exact U)|(apply Zau Zab;exact U)|refine Zad U Qt ?_|refine Zaf U Qt ?_|refine Zan Zab U U U U ?_|(apply ZaF Zab;(iterate 6 exact U);(first|with_reducible assumption|decide +kernel|exact U|rotate_left);exact U;exact U;(first|exact Zaj rfl|with_reducible assumption|decide +kernel|rotate_left);(first|exact Zaj rfl|with_reducible assumption|decide +kernel|rotate_left);(first|exact Qt|rotate_left);(first|exact Qt|rotate_left);(first|exact Qt|rotate_left);exact U;exact U))
   all_goals first|(apply Zav [];(apply Zac Zab;exact U);(iterate 4 exact U))|(first|rfl|(simp only[List.length_append,List.length_cons,List.length_nil,List.length_map,Zaq];done)|(simp only[List.length_append,List.length_cons,List.length_nil,List.length_map,Zaq]at *;(try unfold maxLen);(try simp only[Nat.add_mul]);omega))
   ·rw[ZaX,List.append_nil];exact congrArg (D.sl .ext) (List.map_append (f:=E.byte) (l₁:=c0::t0) (l₂:=c1::b)).symm
   ·rfl
 ·replace hW:AT Tryz.prog _ [.agg [.int .i64 3,.int .u64 (b.length:Int),.bool false]] [] [] _ [] _:=hW
  rcases b with _|⟨c1,b⟩
  ·refine AP.ofA ?_
   refine Zam Tryz.func110 rfl Tryz.ntmps110 rfl rfl ?_
   repeat'(first|rw[eb]|(apply ZaU [] [] (hW);kernel_rfl;(iterate 10 exact U))|refine Zbn 70 ?_|refine ZbC ?_|(apply Zai Zab;exact U)|(apply Zag Zab;exact U)|(apply Zau Zab;exact U)|refine Zad U Qt ?_|refine Zaf U Qt ?_|refine Zan Zab U U U U ?_|refine ZaI Zab U U U U U U ?_)
   all_goals(apply Zav [];(apply Zac Zab;exact U);(iterate 4 exact U))
   ·rw[ZaX,List.append_nil,List.append_nil]
   ·rfl
  ·refine AP.ofA ?_
   refine Zam Tryz.func110 rfl Tryz.ntmps110 rfl rfl ?_
   repeat'(first|rw[eb]|(apply ZaU [] [] (hW);kernel_rfl;(iterate 10 exact U))|refine Zbn 70 ?_|refine ZbC ?_|(apply Zai Zab;exact U)|(apply Zag Zab;exact U)|(apply Zau Zab;exact U)|refine Zad U Qt ?_|refine Zaf U Qt ?_|refine Zan Zab U U U U ?_|(apply ZaF Zab;(iterate 6 exact U);(first|with_reducible assumption|decide +kernel|exact U|rotate_left);exact U;exact U;(first|exact Zaj rfl|with_reducible assumption|decide +kernel|rotate_left);(first|exact Zaj rfl|with_reducible assumption|decide +kernel|rotate_left);(first|exact Qt|rotate_left);(first|exact Qt|rotate_left);(first|exact Qt|rotate_left);exact U;exact U))
   all_goals first|(apply Zav [];(apply Zac Zab;exact U);(iterate 4 exact U))|(first|rfl|(simp only[List.length_append,List.length_cons,List.length_nil,List.length_map,Zaq];done)|(simp only[List.length_append,List.length_cons,List.length_nil,List.length_map,Zaq]at *;(try unfold maxLen);(try simp only[Nat.add_mul]);omega))
   ·rw[ZaX,List.append_nil];exact congrArg (D.sl .ext) (List.map_append (f:=E.byte) (l₁:=c0::t0) (l₂:=c1::b)).symm
   ·rfl
 ·replace hW:AT Tryz.prog _ [.agg [.int .i64 4,.int .u64 (l.length:Int),.bool false]] [] [] _ [] _:=hW
  refine AP.ofA (Zam Tryz.func110 U Tryz.ntmps110 U U ?_)
  repeat'(first|rw[el]|(apply ZaU [] [] (hW);kernel_rfl;(iterate 10 exact U))|(apply Zai Zab;exact U)|(apply Zag Zab;exact U)|refine Zad U Qt ?_|refine Zan Zab U U U U ?_|refine ZaI Zab U U U U U U ?_)
  refine ZaB (fun f tm bx fr=>∃(i c:Nat) (M:List E),f+i=l.length/\c=M.length/\M=((c0::t0)++ZaX (l.take i)).map E.byte/\tm=[(1,.ptr 0 0),(4,.sl (.own 0) M),(5,.int .i64 (i:Int))]/\bx=[itC 4 0 [] l,[.int .i64 4,.int .u64 (l.length:Int),.bool false]]/\fr=[⟨c,1,5⟩]) (l.length+1) (Lands.mk' (m:=l.length) (Nat.lt_succ_self _) ⟨0,(c0::t0).length,(c0::t0).map E.byte,rfl,by rw[List.length_map],by rw[List.take_zero,ZaX,List.append_nil],rfl,rfl,rfl⟩ ?_ rfl rfl rfl rfl rfl rfl) ?_
  ·exact .cons rfl (.cons rfl (.cons rfl .nil))
  rintro f tm bx fr ⟨i,c,M,hf,hc,hM,rfl,rfl,rfl⟩
  subst hc
  have hU:=ZcF l
  have hUM:Uni 1 M:=by rw[hM];exact Zbh _
  have hMl:M.length=(c0::t0).length+(ZaX (l.take i)).length:=by rw[hM,List.length_map,List.length_append]
  rcases Nat.lt_or_ge i l.length with hlt|hge
  ·have hdl:decide ((i:Int)<((ZaC l).length:Int))=true:=decide_eq_true (by omega)
   obtain⟨⟨k1,n1,b2,l1⟩,hy⟩:∃ y,l[i]?=some y:=⟨_,List.getElem?_eq_getElem hlt⟩
   have hv:(ZaC l)[((i:Nat):Int).toNat]?=some (.agg [.int .i64 k1,.int .u64 (n1:Int),.sl (b2.map E.byte),.sl (ZaC l1)]):=by
    rw[Int.toNat_natCast,ZaP,List.getElem?_map,hy];rfl
   have hmem:=List.mem_of_getElem? hy
   have hps:=ZaM hy
   have hpl:=ZaW l (i+1)
   have hps2:=congrArg List.length hps
   rw[List.length_append]at hps2
   rw[List.length_append,List.nil_append]at hlim
   have hfy:=Zgy hfs _ hmem
   have hc:=ih _ hmem (Zbd hws _ hmem) hfy (by omega)
   rw[ZbN,Bool.and_eq_true]at hfy
   have hk1:=Zff hfy.1
   have hpos:=Zkp (x:=.mk k1 n1 b2 l1) hk1
   generalize ZaZ (.mk k1 n1 b2 l1)=Q at hc hps hps2 hpos
   obtain⟨q0,Q,rfl⟩:∃ q0 Q',Q=q0::Q':=by
    cases Q with
    | nil=>simp at hpos
    | cons q Q=>exact⟨q,Q,rfl⟩
   have hUQ:=Zbh (q0::Q)
   have ei:IntKind.i64.wrap ((i:Int)+1)=((i+1:Nat):Int):=by rw[IntWalk.i64_in _ (by omega)];omega
   repeat'(first|rw[ei]|(apply Zaa (hc);kernel_rfl;(iterate 4 exact U))|(apply Zai Zab;exact U)|(apply Zag Zab;exact U)|(apply Zau Zab;exact U)|refine Zad U Qt ?_|refine Zan Zab U U U U ?_|(apply ZaF Zab;(iterate 6 exact U);(first|with_reducible assumption|decide +kernel|exact U|rotate_left);exact U;exact U;(first|exact Zaj rfl|with_reducible assumption|decide +kernel|rotate_left);(first|exact Zaj rfl|with_reducible assumption|decide +kernel|rotate_left);(first|exact Qt|rotate_left);(first|exact Qt|rotate_left);(first|exact Qt|rotate_left);exact U;exact U)|(apply Zat Zab;(iterate 6 exact U);(first|exact Qt|rotate_left);(first|with_reducible assumption|decide +kernel|exact U);(first|exact Zaj rfl|with_reducible assumption|decide +kernel|rotate_left)))
   all_goals first|(first|rfl|(simp only[List.length_append,List.length_cons,List.length_nil,List.length_map,Zaq];done)|(simp only[List.length_append,List.length_cons,List.length_nil,List.length_map,Zaq]at *;(try unfold maxLen);(try simp only[Nat.add_mul]);omega))|skip
   refine Lands.mk' (m:=f-1) (by omega) ⟨i+1,M.length+((q0::Q).map E.byte).length,M++(q0::Q).map E.byte,by omega,by rw[List.length_append],by rw[hM,hps,<- List.map_append,List.append_assoc],rfl,rfl,rfl⟩ ?_ rfl rfl rfl rfl rfl rfl
   exact .cons rfl (.cons rfl (.cons rfl .nil))
  ·have hdl:decide ((i:Int)<((ZaC l).length:Int))=false:=decide_eq_false (by omega)
   rw[List.take_of_length_le hge]at hM
   repeat'(first|(apply Zai Zab;exact U)|(apply Zag Zab;exact U)|(apply Zau Zab;exact U)|refine Zaf U Qt ?_|refine Zan Zab U U U U ?_)
   all_goals(apply Zav [];(apply Zac Zab;exact U);(iterate 4 exact U))
   ·rw[hM];rfl
   ·rfl
theorem Zgz [Known](L:List E):AP Tryz.prog 94 [.sl .ext L] (.agg [.int .i64 4,.int .u64 0,.sl .ext [],.sl .ext L]) []:=by
 refine AP.ofA (Zam Tryz.func94 U Tryz.ntmps94 U U ?_)
 repeat'(first|(apply Zag Zab;exact U))
 all_goals exact Qe
theorem ZkT [Known](l:List It)(hl:l.length<=2199023255488)(c:List E):AP Tryz.prog 151 [.sl .ext (ZaC l),.sl .ext c] (.agg [.int .i64 4,.int .u64 0,.sl .ext [],.sl .ext (ZaC l++[.agg [.int .i64 2,.int .u64 0,.sl c,.sl []]])]) []:=by
 have hlen:=Zaq l
 have hU:=ZcF l
 have hL:=Zgz (ZaC l++[.agg [.int .i64 2,.int .u64 0,.sl c,.sl []]])
 cases l with
 | nil=>
  refine AP.ofA (Zam Tryz.func151 U Tryz.ntmps151 U U ?_)
  repeat'(first|(apply Zaa (hL);kernel_rfl;(iterate 4 exact U))|refine ZaO Zab U U U U U U (Zaj rfl) (List.cons_ne_nil _ _) U Qd Qd U U U ?_|(apply Zai Zab;exact U)|(apply Zag Zab;exact U)|refine ZaL Zab U U U U U U U U U U U U ?_|refine ZaI Zab U U U U U U ?_)
  all_goals exact Qe
 | cons x l=>
  have hne:ZaC (x::l) ≠ []:=by rw[ZaC];exact List.cons_ne_nil _ _
  generalize ZaC (x::l)=L at *
  have hLl:L.length<=2199023255488:=by omega
  refine AP.ofA (Zam Tryz.func151 U Tryz.ntmps151 U U ?_)
  repeat'(first|(apply Zaa (hL);kernel_rfl;(iterate 4 exact U))|(apply Zai Zab;exact U)|(apply Zag Zab;exact U)|refine ZaL Zab U U U U U U U U U U U U ?_|(apply ZaF Zab;(iterate 6 exact U);(first|with_reducible assumption|decide +kernel|exact U|rotate_left);exact U;exact U;(first|exact Zaj rfl|with_reducible assumption|decide +kernel|rotate_left);(first|exact Zaj rfl|with_reducible assumption|decide +kernel|rotate_left);(first|exact Qt|rotate_left);(first|exact Qt|rotate_left);(first|exact Qt|rotate_left);exact U;exact U)|(apply Zba Zab;(iterate 6 exact U);(first|exact Zaj rfl|with_reducible assumption|decide +kernel|rotate_left);(first|exact Qt|rotate_left);(first|exact Qt|rotate_left);(first|exact Qt|rotate_left);(iterate 3 exact U)))
  all_goals first|((apply Zav [];(apply Zac Zab;exact U);(iterate 4 exact U)))|skip
  all_goals first|rfl|(first|rfl|(simp only[List.length_append,List.length_cons,List.length_nil,List.length_map,Zaq];done)|(simp only[List.length_append,List.length_cons,List.length_nil,List.length_map,Zaq]at *;(try unfold maxLen);(try simp only[Nat.add_mul]);omega))|(simp;done)|(simp;omega)|(simp;unfold maxLen;omega)
def Zb6 (l:List It)(s:Nat):It × Bool:=match s with
 | 0=>(.mk 4 0 [] l,ZaD (.mk 4 0 [] l))
 | s+1=>match ZaD (Za0 (s+1) l) with
  | true=>(Zhe (s+1) l,true)
  | false=>(z0,false)
theorem Zhj (z:Nat):IntKind.u8.wrap (((z:Nat):Int).tmod 256)=((z % 256:Nat):Int):=by
 rw[Int.tmod_eq_emod_of_nonneg (Int.natCast_nonneg _),IntKind.wrap_u8];omega
theorem Zhk (z:Nat)(h:z<4294967296):IntKind.u32.wrap (((z:Nat):Int).tdiv 256)=((z/256:Nat):Int):=by
 rw[Int.tdiv_eq_ediv_of_nonneg (Int.natCast_nonneg _),IntKind.wrap_u32];omega
theorem ZqZ (b:List UInt8):∃ z:Nat,z<65536/\ZeX b=(z:Int)/\[E.int .u8 ((z/256 % 256:Nat):Int),E.int .u8 ((z % 256:Nat):Int)]=(ZgT 1 b).map E.byte:=by
 obtain⟨h1,h2⟩:=ZiN b
 generalize (65535 ^^^ ruN 33800 65535 (b.map UInt8.toNat))=z at *
 refine⟨z,h2,h1,?_⟩
 rw[Zm7]
 unfold ZsF shU
 rw[if_pos rfl,h1,show min (8:Int).toNat IntKind.u16.bits=8 from rfl,Int.fdiv_eq_ediv_of_nonneg _ (by decide),IntKind.wrap_u8,IntKind.wrap_u8]
 have e1:((z/256 % 256:Nat):Int)=(z:Int)/2 ^ 8 % 256:=by omega
 have e2:((z % 256:Nat):Int)=(z:Int) % 256:=by omega
 rw[e1,e2]
theorem Zq0 (b:List UInt8):∃ z:Nat,z<4294967296/\Zfi b=(z:Int)/\[E.int .u8 ((z/256/256/256 % 256:Nat):Int),E.int .u8 ((z/256/256 % 256:Nat):Int),E.int .u8 ((z/256 % 256:Nat):Int),E.int .u8 ((z % 256:Nat):Int)]=(ZgT 2 b).map E.byte:=by
 obtain⟨h1,h2⟩:=ZkN b
 generalize (4294967295 ^^^ ruN 2197175160 4294967295 (b.map UInt8.toNat))=z at *
 refine⟨z,h2,h1,?_⟩
 rw[Zm7]
 unfold ZsF shU
 rw[if_neg (by decide),h1,show min (24:Int).toNat IntKind.u32.bits=24 from rfl,show min (16:Int).toNat IntKind.u32.bits=16 from rfl,show min (8:Int).toNat IntKind.u32.bits=8 from rfl,Int.fdiv_eq_ediv_of_nonneg _ (by decide),Int.fdiv_eq_ediv_of_nonneg _ (by decide),Int.fdiv_eq_ediv_of_nonneg _ (by decide),IntKind.wrap_u8,IntKind.wrap_u8,IntKind.wrap_u8,IntKind.wrap_u8]
 have e1:((z/256/256/256 % 256:Nat):Int)=(z:Int)/2 ^ 24 % 256:=by omega
 have e2:((z/256/256 % 256:Nat):Int)=(z:Int)/2 ^ 16 % 256:=by omega
 have e3:((z/256 % 256:Nat):Int)=(z:Int)/2 ^ 8 % 256:=by omega
 have e4:((z % 256:Nat):Int)=(z:Int) % 256:=by omega
 rw[e1,e2,e3,e4]
theorem Zhl [Known][KnownU8](l:List It)(s:Nat)(hs:s<=2)(hws:wfs l)(hl:l.length<=1000000)(hsz:Zbr l<=900)(hlim:(ZaZ (Za0 s l)).length<=1000000000) :
  AP Tryz.prog 95 [.sl .ext (ZaC l),.int .i64 (s:Int)] (.tup [itD (Zb6 l s).1,.bool (Zb6 l s).2]) []:=by
 have hlen:=Zaq l
 have hL:=Zgz (ZaC l)
 unfold Zb6
 match s,hs with
 | 0,_=>
  have hw:wfI (.mk 4 0 [] l):=⟨by decide,by simp,by omega,hws⟩
  have hR:=ZfE (.mk 4 0 [] l) hw (by rw[ZbQ];omega)
  dsimp only
  generalize ZaD (.mk 4 0 [] l)=R at *
  replace hR:AP Tryz.prog 147 [.agg [.int .i64 4,.int .u64 0,.sl .ext [],.sl .ext (ZaC l)]] (.bool R) []:=hR
  show AP Tryz.prog _ _ (.tup [.agg [.int .i64 4,.int .u64 0,.sl .ext [],.sl .ext (ZaC l)],.bool R]) []
  refine AP.ofA (Zam Tryz.func95 U Tryz.ntmps95 U U ?_)
  repeat'(first|(apply Zaa (hL);kernel_rfl;(iterate 4 exact U))|(apply Zaa (hR);kernel_rfl;(iterate 4 exact U))|(apply Zai Zab;exact U)|(apply Zag Zab;exact U)|refine Zad U Qt ?_)
  all_goals exact Qe
 | s+1,hs=>
  have hs':s+1=1\/s+1=2:=by omega
  have hwz:=Zm8 hs' hws hl
  have hszz:ZbQ (Za0 (s+1) l)<=1000:=by
   have h:∀(l r:List It),Zbr (l++r)=Zbr l+Zbr r:=fun l r=>by
    induction l with
    | nil=>simp[Zbr]
    | cons x l ih=>rw[List.cons_append,Zbr,ih,Zbr];omega
   unfold Za0
   simp only[ZbQ,h,Zbr]
   omega
  have hR:=ZfE (Za0 (s+1) l) hwz hszz
  have hW1:=ZkT l (by omega) (List.replicate (2*(s+1)) (.int .u8 0))
  have eZ:itD (Za0 (s+1) l)=.agg [.int .i64 4,.int .u64 0,.sl .ext [],.sl .ext (ZaC l++[.agg [.int .i64 2,.int .u64 0,.sl (List.replicate (2*(s+1)) (.int .u8 0)),.sl []]])]:=by
   unfold Za0
   show D.agg [.int .i64 4,.int .u64 0,.sl .ext [],.sl .ext (ZaC (l++[.mk 2 0 (List.replicate (2*(s+1)) 0) []]))]=_
   rw[Zcx]
   have:(List.replicate (2*(s+1)) (0:UInt8)).map E.byte=List.replicate (2*(s+1)) (.int .u8 0):=by rw[List.map_replicate];rfl
   show D.agg [.int .i64 4,.int .u64 0,.sl .ext [],.sl .ext (ZaC l++[.agg [.int .i64 2,.int .u64 0,.sl ((List.replicate (2*(s+1)) (0:UInt8)).map E.byte),.sl []]])]=_
   rw[this]
  rw[eZ]at hR
  dsimp only
  cases hr:ZaD (Za0 (s+1) l) with
  | false=>
   rw[hr]at hR
   clear hszz hwz hlim eZ hr
   generalize ZaC l=L at *
   obtain rfl|rfl:s=0\/s=1:=by omega
   all_goals
    refine AP.ofA (Zam Tryz.func95 U Tryz.ntmps95 U U ?_)
    repeat'(first|(apply Zdd Zab (l:=2);(iterate 12 exact U))|(apply Zdd Zab (l:=4);(iterate 12 exact U))|(apply Zaa (hW1);kernel_rfl;(iterate 4 exact U))|(apply Zaa (hR);kernel_rfl;(iterate 4 exact U))|(apply Zai Zab;exact U)|(apply Zag Zab;exact U)|(apply Zau Zab;exact U)|refine Zad U Qt ?_|refine Zaf U Qt ?_)
    all_goals exact Qe
  | true=>
   rw[hr]at hR
   have hf:ZbN (Za0 (s+1) l)=true:=by
    have:=hr
    rw[Zb2]at this
    simp only[Bool.and_eq_true]at this
    exact this.2.2
   have hP:=Ze6 (Za0 (s+1) l) hwz hf (by omega)
   rw[eZ]at hP
   have hSh:=ZnA (ZaZ (Za0 (s+1) l)) (by omega)
   have hLo:=Zpd (ZaZ (Za0 (s+1) l)) (by omega)
   have eO:itD (Zhe (s+1) l)=.agg [.int .i64 4,.int .u64 0,.sl .ext [],.sl .ext (ZaC l++[.agg [.int .i64 2,.int .u64 0,.sl ((ZgT (s+1) (ZaZ (Za0 (s+1) l))).map E.byte),.sl []]])]:=by
    unfold Zhe
    show D.agg [.int .i64 4,.int .u64 0,.sl .ext [],.sl .ext (ZaC (l++[.mk 2 0 (ZgT (s+1) (ZaZ (Za0 (s+1) l))) []]))]=_
    rw[Zcx]
    rfl
   dsimp only
   rw[eO]
   have hW2:=ZkT l (by omega) ((ZgT (s+1) (ZaZ (Za0 (s+1) l))).map E.byte)
   generalize ZaZ (Za0 (s+1) l)=P at *
   clear hszz hwz hlim eZ hr hf eO
   obtain⟨z1,hz1,es1,ec1⟩:=ZqZ P
   obtain⟨z2,hz2,es2,ec2⟩:=Zq0 P
   rw[es1]at hSh
   rw[es2]at hLo
   have w1:IntKind.u32.wrap (z1:Int)=(z1:Int):=IntWalk.u32_in _ (by omega)
   generalize ZaC l=L at *
   obtain rfl|rfl:s=0\/s=1:=by omega
   ·rw[show(0+1:Nat)=1 from rfl,<- ec1]at hW2 ⊢
    have r0:=Zhj z1
    have q0:=Zhk z1 (by omega)
    have r1:=Zhj (z1/256)
    have q1:=Zhk (z1/256) (by omega)
    refine AP.ofA (Zam Tryz.func95 U Tryz.ntmps95 U U ?_)
    repeat'(first|(apply Zdd Zab (l:=2);(iterate 12 exact U))|(apply Zaa (hW1);kernel_rfl;(iterate 4 exact U))|(apply Zaa (hW2);kernel_rfl;(iterate 4 exact U))|(apply Zaa (hR);kernel_rfl;(iterate 4 exact U))|(apply Zaa (hP);kernel_rfl;(iterate 4 exact U))|(apply Zaa (hSh);kernel_rfl;(iterate 4 exact U))|rw[w1]|rw[r0]|rw[q0]|rw[r1]|rw[q1]|refine Zbn 20 ?_|refine ZbC ?_|refine ZbS Zab U U U U U U U U U U U (Zaj rfl) (Zaj rfl) (List.cons_ne_nil _ _) Qd Qd U U ?_|(apply Zai Zab;exact U)|(apply Zag Zab;exact U)|(apply Zau Zab;exact U)|refine Zad U Qt ?_|refine Zaf U Qt ?_|refine ZaL Zab U U U U U U U U U U U U ?_|refine ZaI Zab U U U U U U ?_|(apply ZeB;exact U;exact U;(first|exact Qt|rotate_left);exact U)|(apply ZeC;exact U;exact U;(first|exact Qt|rotate_left);exact U))
    all_goals exact Qe
   ·rw[show(1+1:Nat)=2 from rfl,<- ec2]at hW2 ⊢
    have r0:=Zhj z2
    have q0:=Zhk z2 (by omega)
    have r1:=Zhj (z2/256)
    have q1:=Zhk (z2/256) (by omega)
    have r2:=Zhj (z2/256/256)
    have q2:=Zhk (z2/256/256) (by omega)
    have r3:=Zhj (z2/256/256/256)
    have q3:=Zhk (z2/256/256/256) (by omega)
    refine AP.ofA (Zam Tryz.func95 U Tryz.ntmps95 U U ?_)
    repeat'(first|(apply Zdd Zab (l:=4);(iterate 12 exact U))|(apply Zaa (hW1);kernel_rfl;(iterate 4 exact U))|(apply Zaa (hW2);kernel_rfl;(iterate 4 exact U))|(apply Zaa (hR);kernel_rfl;(iterate 4 exact U))|(apply Zaa (hP);kernel_rfl;(iterate 4 exact U))|(apply Zaa (hSh);kernel_rfl;(iterate 4 exact U))|(apply Zaa (hLo);kernel_rfl;(iterate 4 exact U))|rw[w1]|rw[r0]|rw[q0]|rw[r1]|rw[q1]|rw[r2]|rw[q2]|rw[r3]|rw[q3]|refine Zbn 20 ?_|refine ZbC ?_|refine ZbS Zab U U U U U U U U U U U (Zaj rfl) (Zaj rfl) (List.cons_ne_nil _ _) Qd Qd U U ?_|(apply Zai Zab;exact U)|(apply Zag Zab;exact U)|(apply Zau Zab;exact U)|refine Zad U Qt ?_|refine Zaf U Qt ?_|refine ZaL Zab U U U U U U U U U U U U ?_|refine ZaI Zab U U U U U U ?_|(apply ZeB;exact U;exact U;(first|exact Qt|rotate_left);exact U)|(apply ZeC;exact U;exact U;(first|exact Qt|rotate_left);exact U))
    all_goals exact Qe
theorem Zd6:∀(l r:List It),Zbr (l++r)=Zbr l+Zbr r
 | [],r=>by simp[Zbr]
 | x::l,r=>by rw[List.cons_append,Zbr,Zd6 l r,Zbr];omega
theorem Zd7:∀(l r:List It) (d:Nat),Zb8 (l++r) d=(Zb8 l d&&Zb8 r d)
 | [],r,d=>by simp[Zb8]
 | x::l,r,d=>by rw[List.cons_append,Zb8,Zd7 l r d,Zb8,Bool.and_assoc]
theorem Zd8:∀(l r:List It),Zcj (l++r)=(Zcj l&&Zcj r)
 | [],r=>by simp[Zcj]
 | x::l,r=>by rw[List.cons_append,Zcj,Zd8 l r,Zcj,Bool.and_assoc]
theorem Zhm (l:List It)(b c:List UInt8):ZaD (.mk 4 0 [] (l++[.mk 2 0 b []]))=ZaD (.mk 4 0 [] (l++[.mk 2 0 c []])):=by
 rw[Zb2,Zb2]
 have o:∀ x:List UInt8,Zdi 4 0 [] (l++[.mk 2 0 x []])=true:=fun x=>by simp[Zdi]
 have h1:Zcf (.mk 4 0 [] (l++[.mk 2 0 b []])) 6=Zcf (.mk 4 0 [] (l++[.mk 2 0 c []])) 6:=by
  rw[Zcf,Zcf,Zd7,Zd7];rfl
 have h2:ZbQ (.mk 4 0 [] (l++[.mk 2 0 b []]))=ZbQ (.mk 4 0 [] (l++[.mk 2 0 c []])):=by
  rw[ZbQ,ZbQ,Zd6,Zd6];rfl
 have h3:ZbN (.mk 4 0 [] (l++[.mk 2 0 b []]))=ZbN (.mk 4 0 [] (l++[.mk 2 0 c []])):=by
  rw[ZbN,ZbN,o,o,Zd8,Zd8];rfl
 rw[h1,h2,h3]
theorem ZiU {n:Nat}{b:List UInt8}{l:List It}(h:ZaD (.mk 4 n b l)=true):l.all ZaD=true:=by
 rw[Zb2]at h
 simp only[Bool.and_eq_true,decide_eq_true_eq]at h
 obtain⟨h1,h2,h3⟩:=h
 rw[Zcf]at h1
 rw[ZbQ]at h2
 rw[ZbN,Bool.and_eq_true]at h3
 refine List.all_eq_true.2 fun y hy=>?_
 rw[Zb2]
 simp only[Bool.and_eq_true,decide_eq_true_eq]
 have:=Zgx y hy
 exact⟨Zhc y 5 6 (ZiG h1 y hy) (by omega),by omega,Zgy h3.2 y hy⟩
theorem Zhn {l:List It}{b:List UInt8}(h:ZaD (.mk 4 0 [] (l++[.mk 2 0 b []]))=true):l.all ZaD=true:=by
 have:=ZiU h
 rw[List.all_append,Bool.and_eq_true]at this
 exact this.1
def Zpf (l:List It)(a:Int):It × Int:=match decide (a<0)||decide (a ≥ (l.length:Int)) with
 | true=>(z0,1)
 | false=>match decide (ZcB l a ≥ 0) with
  | false=>(z0,3)
  | true=>match(Zb6 l (ZcB l a).toNat).2 with
   | true=>((Zb6 l (ZcB l a).toNat).1,0)
   | false=>(z0,3)
theorem dS1 (l:List It):Zb6 l 1=match ZaD (Za0 1 l) with|true=>(Zhe 1 l,true)|false=>(z0,false):=rfl
theorem dS2 (l:List It):Zb6 l 2=match ZaD (Za0 2 l) with|true=>(Zhe 2 l,true)|false=>(z0,false):=rfl
theorem ZnE (l:List It)(a:Int):Zd0 l a=Zpf l a:=by
 unfold Zd0 Zpf
 cases decide (a<0)||decide (a ≥ (l.length:Int)) with
 | true=>rfl
 | false=>
 dsimp only
 rcases Zeu l a with h|⟨h,_⟩
 ·rw[h,show decide ((-1:Int) ≥ 0)=false from rfl,Bool.and_false]
 rcases h with h|h|h
 ·rw[h,show decide ((0:Int) ≥ 0)=true from rfl,Bool.and_true,show decide ((0:Int)>0)=false from rfl]
  dsimp only[Zb6,Int.toNat_zero]
  cases hr:ZaD (.mk 4 0 [] l) with
  | true=>rw[ZiU hr];first|done|rfl
  | false=>cases l.all ZaD<;>simp[Zb6,hr]
 ·rw[h,show decide ((1:Int) ≥ 0)=true from rfl,Bool.and_true,show decide ((1:Int)>0)=true from rfl]
  show(match l.all ZaD with|false=>(z0,(3:Int))|true=>(match ZaD (Za0 1 l) with|false=>(z0,3)|true=>match ZaD (Zhe 1 l) with|false=>(z0,3)|true=>(Zhe 1 l,0)))=match(Zb6 l 1).2 with|true=>((Zb6 l 1).1,0)|false=>(z0,3)
  have ho:ZaD (Zhe 1 l)=ZaD (Za0 1 l):=Zhm l _ _
  rw[ho,dS1]
  cases hr:ZaD (Za0 1 l) with
  | true=>rw[show l.all ZaD=true from Zhn hr]
  | false=>cases l.all ZaD<;>rfl
 ·rw[h,show decide ((2:Int) ≥ 0)=true from rfl,Bool.and_true,show decide ((2:Int)>0)=true from rfl]
  show(match l.all ZaD with|false=>(z0,(3:Int))|true=>(match ZaD (Za0 2 l) with|false=>(z0,3)|true=>match ZaD (Zhe 2 l) with|false=>(z0,3)|true=>(Zhe 2 l,0)))=match(Zb6 l 2).2 with|true=>((Zb6 l 2).1,0)|false=>(z0,3)
  have ho:ZaD (Zhe 2 l)=ZaD (Za0 2 l):=Zhm l _ _
  rw[ho,dS2]
  cases hr:ZaD (Za0 2 l) with
  | true=>rw[show l.all ZaD=true from Zhn hr]
  | false=>cases l.all ZaD<;>rfl
end Go.Proofs.YtakblclkflnnpaaGreatDoor
end
section
open Go.RowKit Go.Pl
namespace Go.Av
section
variable {P:Program} {Q:X->St->Prop} {n:Nat} {ee:Nat × Nat} {tm:List (Nat × D)} {bx bx':List (List D)} {fr fr':List Fr} {b0:Bs} {g:G} {w:World} {a:Act} {T:Tab}
variable {ops:Array Oper} {rest:List Oper} {t ty:Nat} {pos:String} {after:Array Edge}
end
end Go.Av
end
section
open Go.RowKit Go.Pl Go.Av
namespace Go.Proofs.YtakblclkflnnpaaGreatDoor
set_option maxHeartbeats 4000000
end Go.Proofs.YtakblclkflnnpaaGreatDoor
end
