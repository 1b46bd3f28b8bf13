/- The document's items: which may be, their bytes. -/
import Derived.Test.YtmljabhmajehnaaGreatDoorR33
import Derived.Test.YtmljabhmajehnaaGreatDoorR16
import Derived.Test.YtmljabhmajehnaaGreatDoorR18
import Derived.Test.YtmljabhmajehnaaGreatDoorR31
set_option linter.unusedVariables false
set_option linter.unusedSimpArgs false
section
open Go.RowKit Go.Pl Go.Av
namespace Go.Proofs.YtmljabhmajehnaaGreatDoor
set_option maxHeartbeats 4000000
theorem XJ:∀ {l:List It},Y9 l=true->∀ y ∈ l,Yz y=true
 | x::l,h,y,hy=>by
  rw[Y9,Bool.and_eq_true]at h
  rcases List.mem_cons.1 hy with rfl|hy
  ·exact h.1
  ·exact XJ h.2 y hy
theorem n0' (n:Nat):((n:Int) != 0) = !decide (n=0):=by rw[bne,n0]
theorem DH {α:Type}{f:α->E}(b:List α):(((b.map f).length:Int) != 0) = !b.isEmpty:=by rw[bne,Bl]
theorem Sw [Known]:∀(x:It),wfI x->AP Tryz.prog 182 [itD x] (.bool (Yz x)) []:=by
 refine It.ind fun k n b l ih hw=>?_
 obtain⟨_,hb,hl,hws⟩:=hw
 have e1:=Bl (f:=E.byte) b
 have e2:=SV l
 have e3:=n0 n
 have hv:=X9 b hb
 have hlen:=Zw l
 have hE:∀ P:Bool,(P&&l.isEmpty&&Y9 l)=(P&&l.isEmpty):=fun P=>by
  cases l with
  | nil=>rw[Y9,Bool.and_true]
  | cons x l=>simp
 by_cases k0:k=0
 ·subst k0
  have e:Yz (.mk 0 n b l)=(b.isEmpty&&l.isEmpty):=by rw[Yz];exact hE _
  rw[e]
  cases hbe:b.isEmpty<;>cases hle:l.isEmpty
  all_goals
   rw[hbe]at e1
   rw[hle]at e2
   refine AP.ofA (Zl Tryz.func182 U Tryz.ntmps182 U U ?_)
   repeat'(first|rw[e1]|rw[e2]|(apply Zi Za;exact U)|(apply Zg Za;exact U)|refine Ze U U U Qt ?_|refine Zt U U U Qt ?_|refine Zj U Qt U U ?_|refine Zh U Qt U U ?_|refine Zd U Qt ?_|refine Zn Za U U U U ?_)
   all_goals exact Qe
 by_cases k2:k=2
 ·subst k2
  have e:Yz (.mk 2 n b l)=(decide (n=0)&&l.isEmpty):=by rw[Yz];exact hE _
  rw[e]
  cases hbe:decide (n=0)<;>cases hle:l.isEmpty
  all_goals
   rw[hbe]at e3
   rw[hle]at e2
   refine AP.ofA (Zl Tryz.func182 U Tryz.ntmps182 U U ?_)
   repeat'(first|rw[e2]|rw[e3]|(apply Zi Za;exact U)|(apply Zg Za;exact U)|refine Ze U U U Qt ?_|refine Zt U U U Qt ?_|refine Zj U Qt U U ?_|refine Zh U Qt U U ?_|refine Zd U Qt ?_|refine Zf U Qt ?_|refine Zn Za U U U U ?_)
   all_goals exact Qe
 by_cases k3:k=3
 ·subst k3
  have e:Yz (.mk 3 n b l)=(decide (n=0)&&l.isEmpty&&ZH b):=by
   rw[Yz]
   have e:Wp 3 n b l=(decide (n=0)&&(l.isEmpty&&ZH b)):=rfl
   rw[e]
   cases l with
   | nil=>rw[Y9];simp
   | cons x l=>simp
  rw[e]
  cases hbe:decide (n=0)<;>cases hle:l.isEmpty
  all_goals
   rw[hbe]at e3
   rw[hle]at e2
   refine AP.ofA (Zl Tryz.func182 U Tryz.ntmps182 U U ?_)
   repeat'(first|rw[e2]|rw[e3]|(apply Zb (hv);kernel_rfl;(iterate 4 exact U))|(apply Zi Za;exact U)|(apply Zg Za;exact U)|refine Ze U U U Qt ?_|refine Zt U U U Qt ?_|refine Zj U Qt U U ?_|refine Zh U Qt U U ?_|refine Zd U Qt ?_|refine Zf U Qt ?_|refine Zn Za U U U U ?_)
   all_goals exact Qe
 by_cases k4:k=4
 ·subst k4
  have e:Yz (.mk 4 n b l)=((decide (n=0)&&b.isEmpty)&&Y9 l):=by rw[Yz];rfl
  rw[e]
  have f1:=n0' n
  have f2:=DH (f:=E.byte) b
  cases hbe:decide (n=0) with
  | false=>
   rw[hbe]at f1
   replace f1:((n:Int) != 0)=true:=f1
   refine AP.ofA (Zl Tryz.func182 U Tryz.ntmps182 U U ?_)
   repeat'(first|(apply Zi Za;exact U)|(apply Zg Za;exact U)|(apply Zp Za;exact U)|refine Zm U U U Qt ?_|refine Zj U Qt U U ?_|refine Zd U Qt ?_|refine Zf U Qt ?_)
   all_goals exact Qe
  | true=>
   rw[hbe]at f1
   replace f1:((n:Int) != 0)=false:=f1
   cases hle:b.isEmpty with
   | false=>
    rw[hle]at f2
    replace f2:(((b.map E.byte).length:Int) != 0)=true:=f2
    refine AP.ofA (Zl Tryz.func182 U Tryz.ntmps182 U U ?_)
    repeat'(first|(apply Zi Za;exact U)|(apply Zg Za;exact U)|(apply Zp Za;exact U)|refine Ze U U U Qt ?_|refine Zh U Qt U U ?_|refine Zd U Qt ?_|refine Zf U Qt ?_|refine Zn Za U U U U ?_)
    all_goals exact Qe
   | true=>
    rw[hle]at f2
    replace f2:(((b.map E.byte).length:Int) != 0)=false:=f2
    rw[Bool.true_and,Bool.true_and]
    generalize hfin:Y9 l=fin
    refine AP.ofA (Zl Tryz.func182 U Tryz.ntmps182 U U ?_)
    repeat'(first|(apply Zi Za;exact U)|(apply Zg Za;exact U)|(apply Zp Za;exact U)|refine Ze U U U Qt ?_|refine Zh U Qt U U ?_|refine Zd U Qt ?_|refine Zf U Qt ?_|refine Zn Za U U U U ?_)
    refine ZJ (fun f tm bx fr=>∃ i:Nat,f+i=l.length/\Y9 (l.drop i)=fin/\tm=[(1,.ptr 0 0),(3,.int .i64 (i:Int))]/\bx=[itC 4 n b l]/\fr=[]) (l.length+1) (Lands.mk' (m:=l.length) (Nat.lt_succ_self _) ⟨0,rfl,hfin,rfl,rfl,rfl⟩ ?_ rfl rfl rfl rfl rfl rfl) ?_
    ·exact .cons rfl (.cons rfl .nil)
    rintro f tm bx fr ⟨i,hf,hfin,rfl,rfl,rfl⟩
    have hU:=YE l
    rcases Nat.lt_or_ge i l.length with hlt|hge
    ·have hdl:decide ((i:Int)<((Zv l).length:Int))=true:=decide_eq_true (by omega)
     obtain⟨⟨k1,n1,b1,l1⟩,hy⟩:∃ y,l[i]?=some y:=⟨_,List.getElem?_eq_getElem hlt⟩
     have hv:(Zv l)[((i:Nat):Int).toNat]?=some (.agg [.int .i64 k1,.int .u64 (n1:Int),.sl (b1.map E.byte),.sl (Zv l1)]):=by
      rw[Int.toNat_natCast,Yl,List.getElem?_map,hy];rfl
     have hmem:=List.mem_of_getElem? hy
     have hc:=ih _ hmem (Wh hws _ hmem)
     have hdr:l.drop i=It.mk k1 n1 b1 l1::l.drop (i+1):=by
      rw[List.drop_eq_getElem_cons hlt];congr 1
      exact(List.getElem?_eq_some_iff.1 hy).2
     rw[hdr,Y9]at hfin
     have ei:IntKind.i64.wrap ((i:Int)+1)=((i+1:Nat):Int):=by rw[IntWalk.i64_in _ (by omega)];omega
     cases hq:Yz (.mk k1 n1 b1 l1) with
     | false=>
      rw[hq]at hc hfin
      rw[Bool.false_and]at hfin
      subst hfin
      repeat'(first|(apply Zb (hc);kernel_rfl;(iterate 4 exact U))|(apply Zi Za;exact U)|(apply Zg Za;exact U)|(apply Zp Za;exact U)|refine Zd U Qt ?_|refine Yf ?_|refine Zn Za U U U U ?_|(apply Zu Za;(iterate 6 exact U);(first|exact Qt|rotate_left);(first|with_reducible assumption|decide +kernel|exact U);(first|exact Zk rfl|with_reducible assumption|decide +kernel|rotate_left)))
      all_goals exact Qe
     | true=>
      rw[hq]at hc hfin
      rw[Bool.true_and]at hfin
      repeat'(first|rw[ei]|(apply Zb (hc);kernel_rfl;(iterate 4 exact U))|(apply Zi Za;exact U)|(apply Zg Za;exact U)|(apply Zp Za;exact U)|refine Zd U Qt ?_|refine Zf U Qt ?_|refine Zn Za U U U U ?_|(apply Zu Za;(iterate 6 exact U);(first|exact Qt|rotate_left);(first|with_reducible assumption|decide +kernel|exact U);(first|exact Zk rfl|with_reducible assumption|decide +kernel|rotate_left)))
      refine Lands.mk' (m:=f-1) (by omega) ⟨i+1,by omega,hfin,rfl,rfl,rfl⟩ ?_ rfl rfl rfl rfl rfl rfl
      exact .cons rfl (.cons rfl .nil)
    ·have hdl:decide ((i:Int)<((Zv l).length:Int))=false:=decide_eq_false (by omega)
     rw[List.drop_eq_nil_of_le hge]at hfin
     have hfin:true=fin:=hfin
     subst hfin
     repeat'(first|(apply Zi Za;exact U)|(apply Zg Za;exact U)|(apply Zp Za;exact U)|refine Zf U Qt ?_|refine Zn Za U U U U ?_)
     all_goals exact Qe
 ·have t0:(k==0)=false:=by simpa using k0
  have t2:(k==2)=false:=by simpa using k2
  have t3:(k==3)=false:=by simpa using k3
  have t4:(k==4)=false:=by simpa using k4
  have e:Yz (.mk k n b l)=false:=by rw[Yz];simp[Wp,k0,k2,k3,k4]
  rw[e]
  refine AP.ofA (Zl Tryz.func182 U Tryz.ntmps182 U U ?_)
  repeat'(first|(apply Zg Za;exact U)|refine Zf U Qt ?_)
  all_goals exact Qe
theorem Xc [Known](x:It)(hw:wfI x)(hs:YD x<=1000):AP Tryz.prog 155 [itD x] (.bool (ZC x)) []:=by
 have h1:=Sp x hw 7 (by omega)
 have h2:=So 257 (by omega) x hs
 have h3:=Sw x hw
 replace h1:AP Tryz.prog _ [itD x,.int .i64 7] (.int .i64 (QA x 7:Int)) []:=h1
 replace h2:AP Tryz.prog _ [itD x,.int .i64 257] (.int .i64 (W2 x 257:Int)) []:=h2
 rw[<- Mb]
 have e1:decide ((QA x 7:Int)<=6)=decide (QA x 7<=6):=by rw[decide_eq_decide];omega
 have e2:decide ((W2 x 257:Int)<=256)=decide (W2 x 257<=256):=by rw[decide_eq_decide];omega
 generalize decide (QA x 7<=6)=p at *
 generalize decide (W2 x 257<=256)=q at *
 generalize Yz x=r at *
 obtain⟨k,n,b,l⟩:=x
 cases p<;>cases q
 all_goals
  refine AP.ofA (Zl Tryz.func155 U Tryz.ntmps155 U U ?_)
  repeat'(first|(apply Zb (h1);kernel_rfl;(iterate 4 exact U))|(apply Zb (h2);kernel_rfl;(iterate 4 exact U))|(apply Zb (h3);kernel_rfl;(iterate 4 exact U))|(apply Zi Za;exact U)|(apply Zg Za;exact U)|refine Ze U U U Qt ?_|refine Zt U U U Qt ?_|refine Zj U Qt U U ?_|refine Zh U Qt U U ?_)
  all_goals exact Qe
theorem Ts (h:Hd):∃ c t,ZP h=c::t:=by
 unfold ZP
 split
 ·exact⟨_,_,rfl⟩
 ·exact⟨_,_,rfl⟩
theorem UX [Known]:∀(x:It),wfI x->Yz x=true->(ZI x).length<=1099511627776->AP Tryz.prog 75 [itD x] (byE (ZI x)) []:=by
 refine It.ind fun k n b l ih hw hfi hlim=>?_
 obtain⟨hn,hb,hl,hws⟩:=hw
 rw[Yz,Bool.and_eq_true]at hfi
 obtain⟨ho,hfs⟩:=hfi
 have hlen:=Zw l
 have hk7:=Q1 ho
 have hr:Z0 (k,(It.mk k n b l).hn,false)=true:=by simp[Z0];exact hk7
 have hhn:(It.mk k n b l).hn<18446744073709551616:=by simp only[It.hn];(repeat' split)<;>omega
 have hput:ZI (.mk k n b l)=ZP (k,(It.mk k n b l).hn,false)++(b++ZO l):=by rw[ZI,if_pos hr]
 have hW:=IR (k,(It.mk k n b l).hn,false) hr hhn
 obtain⟨c0,t0,hcw⟩:=Ts (k,(It.mk k n b l).hn,false)
 rw[hput]at hlim ⊢
 rw[hcw]at hW hlim ⊢
 have hU0:=Yr (c0::t0)
 have hU1:=Yr b
 clear hr hhn hcw hput
 have eb:IntKind.u64.wrap (((b.map E.byte).length:Nat):Int)=((b.length:Nat):Int):=by rw[List.length_map,IntKind.wrap_u64];omega
 have el:IntKind.u64.wrap (((Zv l).length:Nat):Int)=((l.length:Nat):Int):=by rw[hlen,IntKind.wrap_u64];omega
 rcases Xt ho with⟨rfl,rfl,rfl⟩ | ⟨rfl,rfl,rfl⟩ | ⟨rfl,rfl,rfl,_⟩ | ⟨rfl,rfl,rfl⟩
 ·replace hW:AT Tryz.prog _ [.agg [.int .i64 0,.int .u64 (n:Int),.bool false]] [] [] _ [] _:=hW
  refine AP.ofA (Zl Tryz.func75 U Tryz.ntmps75 U U ?_)
  repeat'(first|(apply Yq [] [] (hW);kernel_rfl;(iterate 10 exact U))|refine Yu 70 ?_|refine YI ?_|(apply Zi Za;exact U)|(apply Zg Za;exact U)|(apply Zp Za;exact U)|refine Zf U Qt ?_|refine Zn Za U U U U ?_|refine ZX Za U U U U U U ?_)
  all_goals(apply Zq [];(apply Zc Za;exact U);(iterate 4 exact U))
  ·rw[ZO,List.append_nil,List.append_nil]
  ·rfl
 ·replace hW:AT Tryz.prog _ [.agg [.int .i64 2,.int .u64 (b.length:Int),.bool false]] [] [] _ [] _:=hW
  rcases b with _|⟨c1,b⟩
  ·refine AP.ofA ?_
   refine Zl Tryz.func75 rfl Tryz.ntmps75 rfl rfl ?_
   repeat'(first|rw[eb]|(apply Yq [] [] (hW);kernel_rfl;(iterate 10 exact U))|refine Yu 70 ?_|refine YI ?_|(apply Zi Za;exact U)|(apply Zg Za;exact U)|(apply Zp Za;exact U)|refine Zd U Qt ?_|refine Zf U Qt ?_|refine Zn Za U U U U ?_|refine ZX Za U U U U U U ?_)
   all_goals(apply Zq [];(apply Zc Za;exact U);(iterate 4 exact U))
   ·rw[ZO,List.append_nil,List.append_nil]
   ·rfl
  ·refine AP.ofA ?_
   refine Zl Tryz.func75 rfl Tryz.ntmps75 rfl rfl ?_
   repeat'(first|rw[eb]|(apply Yq [] [] (hW);kernel_rfl;(iterate 10 exact U))|refine Yu 70 ?_|refine YI ?_|(apply Zi Za;exact U)|(apply Zg Za;exact U)|(apply Zp Za;exact U)|refine Zd U Qt ?_|refine Zf U Qt ?_|refine Zn Za U U U U ?_|(apply ZR Za;(iterate 6 exact U);(first|with_reducible assumption|decide +kernel|exact U|rotate_left);exact U;exact U;(first|exact Zk rfl|with_reducible assumption|decide +kernel|rotate_left);(first|exact Zk rfl|with_reducible assumption|decide +kernel|rotate_left);(first|exact Qt|rotate_left);(first|exact Qt|rotate_left);(first|exact Qt|rotate_left);exact U;exact U))
   all_goals first|(apply Zq [];(apply Zc Za;exact U);(iterate 4 exact U))|(first|rfl|(simp only[List.length_append,List.length_cons,List.length_nil,List.length_map,Zw];done)|(simp only[List.length_append,List.length_cons,List.length_nil,List.length_map,Zw]at *;(try unfold maxLen);(try simp only[Nat.add_mul]);omega))
   ·rw[ZO,List.append_nil];exact congrArg (D.sl .ext) (List.map_append (f:=E.byte) (l₁:=c0::t0) (l₂:=c1::b)).symm
   ·rfl
 ·replace hW:AT Tryz.prog _ [.agg [.int .i64 3,.int .u64 (b.length:Int),.bool false]] [] [] _ [] _:=hW
  rcases b with _|⟨c1,b⟩
  ·refine AP.ofA ?_
   refine Zl Tryz.func75 rfl Tryz.ntmps75 rfl rfl ?_
   repeat'(first|rw[eb]|(apply Yq [] [] (hW);kernel_rfl;(iterate 10 exact U))|refine Yu 70 ?_|refine YI ?_|(apply Zi Za;exact U)|(apply Zg Za;exact U)|(apply Zp Za;exact U)|refine Zd U Qt ?_|refine Zf U Qt ?_|refine Zn Za U U U U ?_|refine ZX Za U U U U U U ?_)
   all_goals(apply Zq [];(apply Zc Za;exact U);(iterate 4 exact U))
   ·rw[ZO,List.append_nil,List.append_nil]
   ·rfl
  ·refine AP.ofA ?_
   refine Zl Tryz.func75 rfl Tryz.ntmps75 rfl rfl ?_
   repeat'(first|rw[eb]|(apply Yq [] [] (hW);kernel_rfl;(iterate 10 exact U))|refine Yu 70 ?_|refine YI ?_|(apply Zi Za;exact U)|(apply Zg Za;exact U)|(apply Zp Za;exact U)|refine Zd U Qt ?_|refine Zf U Qt ?_|refine Zn Za U U U U ?_|(apply ZR Za;(iterate 6 exact U);(first|with_reducible assumption|decide +kernel|exact U|rotate_left);exact U;exact U;(first|exact Zk rfl|with_reducible assumption|decide +kernel|rotate_left);(first|exact Zk rfl|with_reducible assumption|decide +kernel|rotate_left);(first|exact Qt|rotate_left);(first|exact Qt|rotate_left);(first|exact Qt|rotate_left);exact U;exact U))
   all_goals first|(apply Zq [];(apply Zc Za;exact U);(iterate 4 exact U))|(first|rfl|(simp only[List.length_append,List.length_cons,List.length_nil,List.length_map,Zw];done)|(simp only[List.length_append,List.length_cons,List.length_nil,List.length_map,Zw]at *;(try unfold maxLen);(try simp only[Nat.add_mul]);omega))
   ·rw[ZO,List.append_nil];exact congrArg (D.sl .ext) (List.map_append (f:=E.byte) (l₁:=c0::t0) (l₂:=c1::b)).symm
   ·rfl
 ·replace hW:AT Tryz.prog _ [.agg [.int .i64 4,.int .u64 (l.length:Int),.bool false]] [] [] _ [] _:=hW
  refine AP.ofA (Zl Tryz.func75 U Tryz.ntmps75 U U ?_)
  repeat'(first|rw[el]|(apply Yq [] [] (hW);kernel_rfl;(iterate 10 exact U))|(apply Zi Za;exact U)|(apply Zg Za;exact U)|refine Zd U Qt ?_|refine Zn Za U U U U ?_|refine ZX Za U U U U U U ?_)
  refine ZJ (fun f tm bx fr=>∃(i c:Nat) (M:List E),f+i=l.length/\c=M.length/\M=((c0::t0)++ZO (l.take i)).map E.byte/\tm=[(1,.ptr 0 0),(4,.sl (.own 0) M),(5,.int .i64 (i:Int))]/\bx=[itC 4 0 [] l,[.int .i64 4,.int .u64 (l.length:Int),.bool false]]/\fr=[⟨c,1,5⟩]) (l.length+1) (Lands.mk' (m:=l.length) (Nat.lt_succ_self _) ⟨0,(c0::t0).length,(c0::t0).map E.byte,rfl,by rw[List.length_map],by rw[List.take_zero,ZO,List.append_nil],rfl,rfl,rfl⟩ ?_ rfl rfl rfl rfl rfl rfl) ?_
  ·exact .cons rfl (.cons rfl (.cons rfl .nil))
  rintro f tm bx fr ⟨i,c,M,hf,hc,hM,rfl,rfl,rfl⟩
  subst hc
  have hU:=YE l
  have hUM:Uni 1 M:=by rw[hM];exact Yr _
  have hMl:M.length=(c0::t0).length+(ZO (l.take i)).length:=by rw[hM,List.length_map,List.length_append]
  rcases Nat.lt_or_ge i l.length with hlt|hge
  ·have hdl:decide ((i:Int)<((Zv l).length:Int))=true:=decide_eq_true (by omega)
   obtain⟨⟨k1,n1,b2,l1⟩,hy⟩:∃ y,l[i]?=some y:=⟨_,List.getElem?_eq_getElem hlt⟩
   have hv:(Zv l)[((i:Nat):Int).toNat]?=some (.agg [.int .i64 k1,.int .u64 (n1:Int),.sl (b2.map E.byte),.sl (Zv l1)]):=by
    rw[Int.toNat_natCast,Yl,List.getElem?_map,hy];rfl
   have hmem:=List.mem_of_getElem? hy
   have hps:=WQ hy
   have hpl:=Vl l (i+1)
   have hps2:=congrArg List.length hps
   rw[List.length_append]at hps2
   rw[List.length_append,List.nil_append]at hlim
   have hfy:=XJ hfs _ hmem
   have hc:=ih _ hmem (Wh hws _ hmem) hfy (by omega)
   rw[Yz,Bool.and_eq_true]at hfy
   have hk1:=Q1 hfy.1
   have hpos:=Gz (x:=.mk k1 n1 b2 l1) hk1
   generalize ZI (.mk k1 n1 b2 l1)=Q at hc hps hps2 hpos
   obtain⟨q0,Q,rfl⟩:∃ q0 Q',Q=q0::Q':=by
    cases Q with
    | nil=>simp at hpos
    | cons q Q=>exact⟨q,Q,rfl⟩
   have hUQ:=Yr (q0::Q)
   have ei:IntKind.i64.wrap ((i:Int)+1)=((i+1:Nat):Int):=by rw[IntWalk.i64_in _ (by omega)];omega
   repeat'(first|rw[ei]|(apply Zb (hc);kernel_rfl;(iterate 4 exact U))|(apply Zi Za;exact U)|(apply Zg Za;exact U)|(apply Zp Za;exact U)|refine Zd U Qt ?_|refine Zn Za U U U U ?_|(apply ZR Za;(iterate 6 exact U);(first|with_reducible assumption|decide +kernel|exact U|rotate_left);exact U;exact U;(first|exact Zk rfl|with_reducible assumption|decide +kernel|rotate_left);(first|exact Zk rfl|with_reducible assumption|decide +kernel|rotate_left);(first|exact Qt|rotate_left);(first|exact Qt|rotate_left);(first|exact Qt|rotate_left);exact U;exact U)|(apply Zu Za;(iterate 6 exact U);(first|exact Qt|rotate_left);(first|with_reducible assumption|decide +kernel|exact U);(first|exact Zk rfl|with_reducible assumption|decide +kernel|rotate_left)))
   all_goals first|(first|rfl|(simp only[List.length_append,List.length_cons,List.length_nil,List.length_map,Zw];done)|(simp only[List.length_append,List.length_cons,List.length_nil,List.length_map,Zw]at *;(try unfold maxLen);(try simp only[Nat.add_mul]);omega))|skip
   refine Lands.mk' (m:=f-1) (by omega) ⟨i+1,M.length+((q0::Q).map E.byte).length,M++(q0::Q).map E.byte,by omega,by rw[List.length_append],by rw[hM,hps,<- List.map_append,List.append_assoc],rfl,rfl,rfl⟩ ?_ rfl rfl rfl rfl rfl rfl
   exact .cons rfl (.cons rfl (.cons rfl .nil))
  ·have hdl:decide ((i:Int)<((Zv l).length:Int))=false:=decide_eq_false (by omega)
   rw[List.take_of_length_le hge]at hM
   repeat'(first|(apply Zi Za;exact U)|(apply Zg Za;exact U)|(apply Zp Za;exact U)|refine Zf U Qt ?_|refine Zn Za U U U U ?_)
   all_goals(apply Zq [];(apply Zc Za;exact U);(iterate 4 exact U))
   ·rw[hM];rfl
   ·rfl
theorem K7 [Known](r:RepV)(hf:Fit r.of):AP Tryz.prog 25 [.agg (Y6 r)] (.bool (Yj r)) []:=by
 have hI:=JD r.of r.t r.q hf
 unfold Yj
 rw[show decide ((r.rs:Int)<=255)=decide ((r.rs:Int)<256) from by rw[decide_eq_decide];omega]
 generalize Yv r.of r.t r.q=e3 at *
 obtain⟨a,b,c,rs,tm,⟨i,n,s,h,d⟩,t,q⟩:=r
 clear hf
 try dsimp only at *
 cases t1:decide ((rs:Int)<256)<;>cases t2:decide ((tm:Int)<=1099511627776)<;>cases a<;>cases b<;>cases c
 all_goals
  refine AP.ofA (Zl Tryz.func25 U Tryz.ntmps25 U U ?_)
  repeat'(first|(apply Zb (hI);kernel_rfl;(iterate 4 exact U))|(apply Zi Za;exact U)|(apply Zg Za;exact U)|(apply Ze;(iterate 3 exact U);(first|with_reducible assumption|decide +kernel|(solve|simp only[bn])))|(apply Zt;(iterate 3 exact U);(first|with_reducible assumption|decide +kernel|(solve|simp only[bn])))|(apply Zm;(iterate 3 exact U);(first|with_reducible assumption|decide +kernel|(solve|simp only[bn])))|(apply Zj;exact U;(first|with_reducible assumption|decide +kernel|(solve|simp only[bn]));exact U;exact U)|(apply Zh;exact U;(first|with_reducible assumption|decide +kernel|(solve|simp only[bn]));exact U;exact U))
  all_goals exact Qe
theorem IV [Known](b:Bool):AP Tryz.prog 120 [.bool b] (itD (.mk 0 (nb b) [] [])) []:=by
 cases b
 all_goals
  refine AP.ofA (Zl Tryz.func120 U Tryz.ntmps120 U U ?_)
  repeat'(first|(apply Zg Za;exact U)|(apply Zp Za;exact U)|(apply Zd;exact U;(first|with_reducible assumption|decide +kernel|(solve|simp only[bn])))|(apply Zf;exact U;(first|with_reducible assumption|decide +kernel|(solve|simp only[bn]))))
  all_goals exact Qe
theorem XK [Known](L:List E):AP Tryz.prog 119 [.sl .ext L] (.agg [.int .i64 4,.int .u64 0,.sl .ext [],.sl .ext L]) []:=by
 refine AP.ofA (Zl Tryz.func119 U Tryz.ntmps119 U U ?_)
 repeat'(first|(apply Zg Za;exact U))
 all_goals exact Qe
theorem FB [Known](ra rb rc:Bool)(rrs rtm:Nat)(ji:Bool)(jn js:Nat)(jh jd:List UInt8)(rt rq:Nat)(ak:Int)(an:Nat)(ab:List UInt8)(al:List It)(bk:Int)(bn:Nat)(bb:List UInt8)(bl:List It)(ck:Int)(cn:Nat)(cb:List UInt8)(cl:List It)(wk:Int)(wn:Nat)(wb:List UInt8)(wl:List It)
  (hA:AP Tryz.prog 120 [.bool ra] (.agg (itC ak an ab al)) [])
  (hB:AP Tryz.prog 120 [.bool rb] (.agg (itC bk bn bb bl)) [])
  (hC:AP Tryz.prog 120 [.bool rc] (.agg (itC ck cn cb cl)) [])
  (hW:AP Tryz.prog 118 [.agg [.bool ji,.int .u64 (jn:Int),.int .u64 (js:Int),.str jh,.str jd,.int .u64 (rt:Int),.int .u64 (rq:Int)]] (.agg (itC wk wn wb wl)) [])
  (h3:AP Tryz.prog 119 [.sl .ext [.agg [.int .i64 ak,.int .u64 (an:Int),.sl (ab.map E.byte),.sl (Zv al)],.agg [.int .i64 bk,.int .u64 (bn:Int),.sl (bb.map E.byte),.sl (Zv bl)],.agg [.int .i64 ck,.int .u64 (cn:Int),.sl (cb.map E.byte),.sl (Zv cl)]]] (.agg [.int .i64 4,.int .u64 0,.sl .ext [],.sl .ext [.agg [.int .i64 ak,.int .u64 (an:Int),.sl (ab.map E.byte),.sl (Zv al)],.agg [.int .i64 bk,.int .u64 (bn:Int),.sl (bb.map E.byte),.sl (Zv bl)],.agg [.int .i64 ck,.int .u64 (cn:Int),.sl (cb.map E.byte),.sl (Zv cl)]]]) [])
  (h4:AP Tryz.prog 119 [.sl .ext [.agg [.int .i64 4,.int .u64 0,.sl [],.sl [.agg [.int .i64 ak,.int .u64 (an:Int),.sl (ab.map E.byte),.sl (Zv al)],.agg [.int .i64 bk,.int .u64 (bn:Int),.sl (bb.map E.byte),.sl (Zv bl)],.agg [.int .i64 ck,.int .u64 (cn:Int),.sl (cb.map E.byte),.sl (Zv cl)]]],nmE rrs,nmE rtm,.agg [.int .i64 wk,.int .u64 (wn:Int),.sl (wb.map E.byte),.sl (Zv wl)]]] (.agg [.int .i64 4,.int .u64 0,.sl .ext [],.sl .ext [.agg [.int .i64 4,.int .u64 0,.sl [],.sl [.agg [.int .i64 ak,.int .u64 (an:Int),.sl (ab.map E.byte),.sl (Zv al)],.agg [.int .i64 bk,.int .u64 (bn:Int),.sl (bb.map E.byte),.sl (Zv bl)],.agg [.int .i64 ck,.int .u64 (cn:Int),.sl (cb.map E.byte),.sl (Zv cl)]]],nmE rrs,nmE rtm,.agg [.int .i64 wk,.int .u64 (wn:Int),.sl (wb.map E.byte),.sl (Zv wl)]]]) [])
  (h2:AP Tryz.prog 119 [.sl .ext [nmE 1,.agg [.int .i64 4,.int .u64 0,.sl [],.sl [.agg [.int .i64 4,.int .u64 0,.sl [],.sl [.agg [.int .i64 ak,.int .u64 (an:Int),.sl (ab.map E.byte),.sl (Zv al)],.agg [.int .i64 bk,.int .u64 (bn:Int),.sl (bb.map E.byte),.sl (Zv bl)],.agg [.int .i64 ck,.int .u64 (cn:Int),.sl (cb.map E.byte),.sl (Zv cl)]]],nmE rrs,nmE rtm,.agg [.int .i64 wk,.int .u64 (wn:Int),.sl (wb.map E.byte),.sl (Zv wl)]]]]] (.agg [.int .i64 4,.int .u64 0,.sl .ext [],.sl .ext [nmE 1,.agg [.int .i64 4,.int .u64 0,.sl [],.sl [.agg [.int .i64 4,.int .u64 0,.sl [],.sl [.agg [.int .i64 ak,.int .u64 (an:Int),.sl (ab.map E.byte),.sl (Zv al)],.agg [.int .i64 bk,.int .u64 (bn:Int),.sl (bb.map E.byte),.sl (Zv bl)],.agg [.int .i64 ck,.int .u64 (cn:Int),.sl (cb.map E.byte),.sl (Zv cl)]]],nmE rrs,nmE rtm,.agg [.int .i64 wk,.int .u64 (wn:Int),.sl (wb.map E.byte),.sl (Zv wl)]]]]]) []) :
  AP Tryz.prog 72 [.agg [.bool ra,.bool rb,.bool rc,.int .u64 (rrs:Int),.int .u64 (rtm:Int),.bool ji,.int .u64 (jn:Int),.int .u64 (js:Int),.str jh,.str jd,.int .u64 (rt:Int),.int .u64 (rq:Int)]] (.agg [.int .i64 4,.int .u64 0,.sl .ext [],.sl .ext [nmE 1,.agg [.int .i64 4,.int .u64 0,.sl [],.sl [.agg [.int .i64 4,.int .u64 0,.sl [],.sl [.agg [.int .i64 ak,.int .u64 (an:Int),.sl (ab.map E.byte),.sl (Zv al)],.agg [.int .i64 bk,.int .u64 (bn:Int),.sl (bb.map E.byte),.sl (Zv bl)],.agg [.int .i64 ck,.int .u64 (cn:Int),.sl (cb.map E.byte),.sl (Zv cl)]]],nmE rrs,nmE rtm,.agg [.int .i64 wk,.int .u64 (wn:Int),.sl (wb.map E.byte),.sl (Zv wl)]]]]]) []:=by
 refine AP.ofA (Zl Tryz.func72 U Tryz.ntmps72 U U ?_)
 repeat'(first|(apply Zb (hA);kernel_rfl;(iterate 4 exact U))|(apply Zb (hB);kernel_rfl;(iterate 4 exact U))|(apply Zb (hC);kernel_rfl;(iterate 4 exact U))|(apply Zb (hW);kernel_rfl;(iterate 4 exact U))|(apply Zb (h3);kernel_rfl;(iterate 4 exact U))|(apply Zb (h4);kernel_rfl;(iterate 4 exact U))|(apply Zb (h2);kernel_rfl;(iterate 4 exact U))|(apply Zi Za;exact U)|(apply Zg Za;exact U)|refine ZM Za U U U U U U U U U U U U ?_|(apply Zo 12 ZB;decide +kernel;kernel_rfl;kernel_rfl;kernel_rfl;exact U;exact U)|(apply Zo 13 ZB;decide +kernel;kernel_rfl;kernel_rfl;kernel_rfl;exact U;exact U)|(apply Zs;(iterate 4 exact U))|exact AE.nil _ _ _ _|(apply Zx;exact U)|(apply Z1;exact U)|(apply Zz;exact U;exact U;decide +kernel;exact U)|(apply ZA;exact U)|(apply Ym;exact U)|exact AO.nil _ _ _|(apply Zr;(decide +kernel))|(apply ZU;(iterate 3 exact U))|exact AOs.nil|exact ZF rfl rfl|exact WH rfl rfl rfl rfl rfl|exact YK rfl rfl)
 all_goals exact Qe
theorem Ij [Known](r:RepV)(h:Yj r=true):AP Tryz.prog 72 [.agg (Y6 r)] (itD (Ya r)) []:=by
 obtain⟨_,_,h3⟩:=Um h
 have hW:=K6 r.of r.t r.q h3
 have hA:=IV r.a
 have hB:=IV r.b
 have hC:=IV r.c
 unfold Ya JN
 generalize Yw r.of r.t r.q=w at *
 clear h h3
 obtain⟨a,b,c,rs,tm,⟨i,n,s,hh,d⟩,t,q⟩:=r
 obtain⟨wk,wn,wb,wl⟩:=w
 try dsimp only at *
 exact FB a b c rs tm i n s hh d t q 0 (nb a) [] [] 0 (nb b) [] [] 0 (nb c) [] [] wk wn wb wl hA hB hC hW (XK _) (XK _) (XK _)
theorem Tt {r:RepV}(h:Yj r=true):Yz (Ya r)=true:=by
 have:=VS h
 rw[YY]at this
 simp only[Bool.and_eq_true]at this
 exact this.2.2
theorem Tu [Known](r:RepV)(h:Yj r=true)(hl:(ZI (Ya r)).length<=1099511627776):AP Tryz.prog 26 [.agg (Y6 r)] (byE (ZI (Ya r))) []:=by
 have hI:=Ij r h
 have hP:=UX (Ya r) (UW h) (Tt h) hl
 generalize ZI (Ya r)=P at *
 clear hl
 generalize Ya r=y at *
 obtain⟨a,b,c,rs,tm,⟨i,n,s,hh,d⟩,t,q⟩:=r
 obtain⟨yk,yn,yb,yl⟩:=y
 try dsimp only at *
 refine AP.ofA (Zl Tryz.func26 U Tryz.ntmps26 U U ?_)
 repeat'(first|(apply Zb (hI);kernel_rfl;(iterate 4 exact U))|(apply Zb (hP);kernel_rfl;(iterate 4 exact U))|(apply Zi Za;exact U)|(apply Zg Za;exact U))
 all_goals exact Qe
end Go.Proofs.YtmljabhmajehnaaGreatDoor
end
