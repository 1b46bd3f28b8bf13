/- The document's items: which may be, their bytes. -/
import Derived.Test.YtmljabhmajehnaaGreatDoorO30
import Derived.Test.YtmljabhmajehnaaGreatDoorO16
import Derived.Test.YtmljabhmajehnaaGreatDoorO20
import Derived.Test.YtmljabhmajehnaaGreatDoorO28
import Derived.Test.YtmljabhmajehnaaGreatDoorO21
import Derived.Test.YtmljabhmajehnaaGreatDoorO22
import Derived.Test.YtmljabhmajehnaaGreatDoorO10
set_option linter.unusedVariables false
set_option linter.unusedSimpArgs false
section
open Go.RowKit Go.Pl Go.Av
namespace Go.Proofs.YtmljabhmajehnaaGreatDoor
set_option maxHeartbeats 4000000
theorem XA:∀ {l:List It},Y4 l=true->∀ y ∈ l,Yw y=true
 | x::l,h,y,hy=>by
  rw[Y4,Bool.and_eq_true]at h
  rcases List.mem_cons.1 hy with rfl|hy
  ·exact h.1
  ·exact XA h.2 y hy
theorem n0' (n:Nat):((n:Int) != 0) = !decide (n=0):=by rw[bne,n0]
theorem DY {α:Type}{f:α->E}(b:List α):(((b.map f).length:Int) != 0) = !b.isEmpty:=by rw[bne,BJ]
theorem SR [Known]:∀(x:It),wfI x->AP Tryz.prog 182 [itD x] (.bool (Yw x)) []:=by
 refine It.ind fun k n b l ih hw=>?_
 obtain⟨_,hb,hl,hws⟩:=hw
 have e1:=BJ (f:=E.byte) b
 have e2:=Bk l
 have e3:=n0 n
 have hv:=XZ b hb
 have hlen:=Zv l
 have hE:∀ P:Bool,(P&&l.isEmpty&&Y4 l)=(P&&l.isEmpty):=fun P=>by
  cases l with
  | nil=>rw[Y4,Bool.and_true]
  | cons x l=>simp
 by_cases k0:k=0
 ·subst k0
  have e:Yw (.mk 0 n b l)=(b.isEmpty&&l.isEmpty):=by rw[Yw];exact hE _
  rw[e]
  cases hbe:b.isEmpty<;>cases hle:l.isEmpty
  all_goals
   rw[hbe]at e1
   rw[hle]at e2
   refine AP.ofA (Zl Tryz.func182 U Tryz.ntmps182 U U ?_)
   repeat'(first|rw[e1]|rw[e2]|(apply Zh Za;exact U)|(apply Zg Za;exact U)|refine Ze U U U Qt ?_|refine Zr U U U Qt ?_|refine Zk U Qt U U ?_|refine Zi U Qt U U ?_|refine Zd U Qt ?_|refine Zm Za U U U U ?_)
   all_goals exact Qe
 by_cases k2:k=2
 ·subst k2
  have e:Yw (.mk 2 n b l)=(decide (n=0)&&l.isEmpty):=by rw[Yw];exact hE _
  rw[e]
  cases hbe:decide (n=0)<;>cases hle:l.isEmpty
  all_goals
   rw[hbe]at e3
   rw[hle]at e2
   refine AP.ofA (Zl Tryz.func182 U Tryz.ntmps182 U U ?_)
   repeat'(first|rw[e2]|rw[e3]|(apply Zh Za;exact U)|(apply Zg Za;exact U)|refine Ze U U U Qt ?_|refine Zr U U U Qt ?_|refine Zk U Qt U U ?_|refine Zi U Qt U U ?_|refine Zd U Qt ?_|refine Zf U Qt ?_|refine Zm Za U U U U ?_)
   all_goals exact Qe
 by_cases k3:k=3
 ·subst k3
  have e:Yw (.mk 3 n b l)=(decide (n=0)&&l.isEmpty&&ZM b):=by
   rw[Yw]
   have e:Wb 3 n b l=(decide (n=0)&&(l.isEmpty&&ZM b)):=rfl
   rw[e]
   cases l with
   | nil=>rw[Y4];simp
   | cons x l=>simp
  rw[e]
  cases hbe:decide (n=0)<;>cases hle:l.isEmpty
  all_goals
   rw[hbe]at e3
   rw[hle]at e2
   refine AP.ofA (Zl Tryz.func182 U Tryz.ntmps182 U U ?_)
   repeat'(first|rw[e2]|rw[e3]|(apply Zb (hv);kernel_rfl;(iterate 4 exact U))|(apply Zh Za;exact U)|(apply Zg Za;exact U)|refine Ze U U U Qt ?_|refine Zr U U U Qt ?_|refine Zk U Qt U U ?_|refine Zi U Qt U U ?_|refine Zd U Qt ?_|refine Zf U Qt ?_|refine Zm Za U U U U ?_)
   all_goals exact Qe
 by_cases k4:k=4
 ·subst k4
  have e:Yw (.mk 4 n b l)=((decide (n=0)&&b.isEmpty)&&Y4 l):=by rw[Yw];rfl
  rw[e]
  have f1:=n0' n
  have f2:=DY (f:=E.byte) b
  cases hbe:decide (n=0) with
  | false=>
   rw[hbe]at f1
   replace f1:((n:Int) != 0)=true:=f1
   refine AP.ofA (Zl Tryz.func182 U Tryz.ntmps182 U U ?_)
   repeat'(first|(apply Zh Za;exact U)|(apply Zg Za;exact U)|(apply Zo Za;exact U)|refine Zn U U U Qt ?_|refine Zk U Qt U U ?_|refine Zd U Qt ?_|refine Zf U Qt ?_)
   all_goals exact Qe
  | true=>
   rw[hbe]at f1
   replace f1:((n:Int) != 0)=false:=f1
   cases hle:b.isEmpty with
   | false=>
    rw[hle]at f2
    replace f2:(((b.map E.byte).length:Int) != 0)=true:=f2
    refine AP.ofA (Zl Tryz.func182 U Tryz.ntmps182 U U ?_)
    repeat'(first|(apply Zh Za;exact U)|(apply Zg Za;exact U)|(apply Zo Za;exact U)|refine Ze U U U Qt ?_|refine Zi U Qt U U ?_|refine Zd U Qt ?_|refine Zf U Qt ?_|refine Zm Za U U U U ?_)
    all_goals exact Qe
   | true=>
    rw[hle]at f2
    replace f2:(((b.map E.byte).length:Int) != 0)=false:=f2
    rw[Bool.true_and,Bool.true_and]
    generalize hfin:Y4 l=fin
    refine AP.ofA (Zl Tryz.func182 U Tryz.ntmps182 U U ?_)
    repeat'(first|(apply Zh Za;exact U)|(apply Zg Za;exact U)|(apply Zo Za;exact U)|refine Ze U U U Qt ?_|refine Zi U Qt U U ?_|refine Zd U Qt ?_|refine Zf U Qt ?_|refine Zm Za U U U U ?_)
    refine ZJ (fun f tm bx fr=>∃ i:Nat,f+i=l.length/\Y4 (l.drop i)=fin/\tm=[(1,.ptr 0 0),(3,.int .i64 (i:Int))]/\bx=[itC 4 n b l]/\fr=[]) (l.length+1) (Lands.mk' (m:=l.length) (Nat.lt_succ_self _) ⟨0,rfl,hfin,rfl,rfl,rfl⟩ ?_ rfl rfl rfl rfl rfl rfl) ?_
    ·exact .cons rfl (.cons rfl .nil)
    rintro f tm bx fr ⟨i,hf,hfin,rfl,rfl,rfl⟩
    have hU:=Wl l
    rcases Nat.lt_or_ge i l.length with hlt|hge
    ·have hdl:decide ((i:Int)<((Zx l).length:Int))=true:=decide_eq_true (by omega)
     obtain⟨⟨k1,n1,b1,l1⟩,hy⟩:∃ y,l[i]?=some y:=⟨_,List.getElem?_eq_getElem hlt⟩
     have hv:(Zx l)[((i:Nat):Int).toNat]?=some (.agg [.int .i64 k1,.int .u64 (n1:Int),.sl (b1.map E.byte),.sl (Zx l1)]):=by
      rw[Int.toNat_natCast,Yj,List.getElem?_map,hy];rfl
     have hmem:=List.mem_of_getElem? hy
     have hc:=ih _ hmem (Y8 hws _ hmem)
     have hdr:l.drop i=It.mk k1 n1 b1 l1::l.drop (i+1):=by
      rw[List.drop_eq_getElem_cons hlt];congr 1
      exact(List.getElem?_eq_some_iff.1 hy).2
     rw[hdr,Y4]at hfin
     have ei:IntKind.i64.wrap ((i:Int)+1)=((i+1:Nat):Int):=by rw[IntWalk.i64_in _ (by omega)];omega
     cases hq:Yw (.mk k1 n1 b1 l1) with
     | false=>
      rw[hq]at hc hfin
      rw[Bool.false_and]at hfin
      subst hfin
      repeat'(first|(apply Zb (hc);kernel_rfl;(iterate 4 exact U))|(apply Zh Za;exact U)|(apply Zg Za;exact U)|(apply Zo Za;exact U)|refine Zd U Qt ?_|refine Z0 ?_|refine Zm Za U U U U ?_|(apply Zu Za;(iterate 6 exact U);(first|exact Qt|rotate_left);(first|with_reducible assumption|decide +kernel|exact U);(first|exact Zj rfl|with_reducible assumption|decide +kernel|rotate_left)))
      all_goals exact Qe
     | true=>
      rw[hq]at hc hfin
      rw[Bool.true_and]at hfin
      repeat'(first|rw[ei]|(apply Zb (hc);kernel_rfl;(iterate 4 exact U))|(apply Zh Za;exact U)|(apply Zg Za;exact U)|(apply Zo Za;exact U)|refine Zd U Qt ?_|refine Zf U Qt ?_|refine Zm Za U U U U ?_|(apply Zu Za;(iterate 6 exact U);(first|exact Qt|rotate_left);(first|with_reducible assumption|decide +kernel|exact U);(first|exact Zj rfl|with_reducible assumption|decide +kernel|rotate_left)))
      refine Lands.mk' (m:=f-1) (by omega) ⟨i+1,by omega,hfin,rfl,rfl,rfl⟩ ?_ rfl rfl rfl rfl rfl rfl
      exact .cons rfl (.cons rfl .nil)
    ·have hdl:decide ((i:Int)<((Zx l).length:Int))=false:=decide_eq_false (by omega)
     rw[List.drop_eq_nil_of_le hge]at hfin
     have hfin:true=fin:=hfin
     subst hfin
     repeat'(first|(apply Zh Za;exact U)|(apply Zg Za;exact U)|(apply Zo Za;exact U)|refine Zf U Qt ?_|refine Zm Za U U U U ?_)
     all_goals exact Qe
 ·have t0:(k==0)=false:=by simpa using k0
  have t2:(k==2)=false:=by simpa using k2
  have t3:(k==3)=false:=by simpa using k3
  have t4:(k==4)=false:=by simpa using k4
  have e:Yw (.mk k n b l)=false:=by rw[Yw];simp[Wb,k0,k2,k3,k4]
  rw[e]
  refine AP.ofA (Zl Tryz.func182 U Tryz.ntmps182 U U ?_)
  repeat'(first|(apply Zg Za;exact U)|refine Zf U Qt ?_)
  all_goals exact Qe
theorem J6 [Known](x:It)(hw:wfI x)(hs:YC x<=1000):AP Tryz.prog 155 [itD x] (.bool (ZB x)) []:=by
 have h1:=SQ x hw 7 (by omega)
 have h2:=SP 257 (by omega) x hs
 have h3:=SR x hw
 replace h1:AP Tryz.prog _ [itD x,.int .i64 7] (.int .i64 (Qw x 7:Int)) []:=h1
 replace h2:AP Tryz.prog _ [itD x,.int .i64 257] (.int .i64 (W8 x 257:Int)) []:=h2
 rw[<- Mv]
 have e1:decide ((Qw x 7:Int)<=6)=decide (Qw x 7<=6):=by rw[decide_eq_decide];omega
 have e2:decide ((W8 x 257:Int)<=256)=decide (W8 x 257<=256):=by rw[decide_eq_decide];omega
 generalize decide (Qw x 7<=6)=p at *
 generalize decide (W8 x 257<=256)=q at *
 generalize Yw x=r at *
 obtain⟨k,n,b,l⟩:=x
 cases p<;>cases q
 all_goals
  refine AP.ofA (Zl Tryz.func155 U Tryz.ntmps155 U U ?_)
  repeat'(first|(apply Zb (h1);kernel_rfl;(iterate 4 exact U))|(apply Zb (h2);kernel_rfl;(iterate 4 exact U))|(apply Zb (h3);kernel_rfl;(iterate 4 exact U))|(apply Zh Za;exact U)|(apply Zg Za;exact U)|refine Ze U U U Qt ?_|refine Zr U U U Qt ?_|refine Zk U Qt U U ?_|refine Zi U Qt U U ?_)
  all_goals exact Qe
theorem Tu (h:Hd):∃ c t,ZU h=c::t:=by
 unfold ZU
 split
 ·exact⟨_,_,rfl⟩
 ·exact⟨_,_,rfl⟩
theorem Vi [Known]:∀(x:It),wfI x->Yw x=true->(ZN x).length<=1099511627776->AP Tryz.prog 75 [itD x] (byE (ZN x)) []:=by
 refine It.ind fun k n b l ih hw hfi hlim=>?_
 obtain⟨hn,hb,hl,hws⟩:=hw
 rw[Yw,Bool.and_eq_true]at hfi
 obtain⟨ho,hfs⟩:=hfi
 have hlen:=Zv l
 have hk7:=Q5 ho
 have hr:Z3 (k,(It.mk k n b l).hn,false)=true:=by simp[Z3];exact hk7
 have hhn:(It.mk k n b l).hn<18446744073709551616:=by simp only[It.hn];(repeat' split)<;>omega
 have hput:ZN (.mk k n b l)=ZU (k,(It.mk k n b l).hn,false)++(b++ZV l):=by rw[ZN,if_pos hr]
 have hW:=IT (k,(It.mk k n b l).hn,false) hr hhn
 obtain⟨c0,t0,hcw⟩:=Tu (k,(It.mk k n b l).hn,false)
 rw[hput]at hlim ⊢
 rw[hcw]at hW hlim ⊢
 have hU0:=Ym (c0::t0)
 have hU1:=Ym b
 clear hr hhn hcw hput
 have eb:IntKind.u64.wrap (((b.map E.byte).length:Nat):Int)=((b.length:Nat):Int):=by rw[List.length_map,IntKind.wrap_u64];omega
 have el:IntKind.u64.wrap (((Zx l).length:Nat):Int)=((l.length:Nat):Int):=by rw[hlen,IntKind.wrap_u64];omega
 rcases Xr ho with⟨rfl,rfl,rfl⟩ | ⟨rfl,rfl,rfl⟩ | ⟨rfl,rfl,rfl,_⟩ | ⟨rfl,rfl,rfl⟩
 ·replace hW:AT Tryz.prog _ [.agg [.int .i64 0,.int .u64 (n:Int),.bool false]] [] [] _ [] _:=hW
  refine AP.ofA (Zl Tryz.func75 U Tryz.ntmps75 U U ?_)
  repeat'(first|(apply Yn [] [] (hW);kernel_rfl;(iterate 10 exact U))|refine Yo 70 ?_|refine YH ?_|(apply Zh Za;exact U)|(apply Zg Za;exact U)|(apply Zo Za;exact U)|refine Zf U Qt ?_|refine Zm Za U U U U ?_|refine Z1 Za U U U U U U ?_)
  all_goals(apply Zp [];(apply Zc Za;exact U);(iterate 4 exact U))
  ·rw[ZV,List.append_nil,List.append_nil]
  ·rfl
 ·replace hW:AT Tryz.prog _ [.agg [.int .i64 2,.int .u64 (b.length:Int),.bool false]] [] [] _ [] _:=hW
  rcases b with _|⟨c1,b⟩
  ·refine AP.ofA ?_
   refine Zl Tryz.func75 rfl Tryz.ntmps75 rfl rfl ?_
   repeat'(first|rw[eb]|(apply Yn [] [] (hW);kernel_rfl;(iterate 10 exact U))|refine Yo 70 ?_|refine YH ?_|(apply Zh Za;exact U)|(apply Zg Za;exact U)|(apply Zo Za;exact U)|refine Zd U Qt ?_|refine Zf U Qt ?_|refine Zm Za U U U U ?_|refine Z1 Za U U U U U U ?_)
   all_goals(apply Zp [];(apply Zc Za;exact U);(iterate 4 exact U))
   ·rw[ZV,List.append_nil,List.append_nil]
   ·rfl
  ·refine AP.ofA ?_
   refine Zl Tryz.func75 rfl Tryz.ntmps75 rfl rfl ?_
   repeat'(first|rw[eb]|(apply Yn [] [] (hW);kernel_rfl;(iterate 10 exact U))|refine Yo 70 ?_|refine YH ?_|(apply Zh Za;exact U)|(apply Zg Za;exact U)|(apply Zo Za;exact U)|refine Zd U Qt ?_|refine Zf U Qt ?_|refine Zm Za U U U U ?_|(apply ZR Za;(iterate 6 exact U);(first|with_reducible assumption|decide +kernel|exact U|rotate_left);exact U;exact U;(first|exact Zj rfl|with_reducible assumption|decide +kernel|rotate_left);(first|exact Zj rfl|with_reducible assumption|decide +kernel|rotate_left);(first|exact Qt|rotate_left);(first|exact Qt|rotate_left);(first|exact Qt|rotate_left);exact U;exact U))
   all_goals first|(apply Zp [];(apply Zc Za;exact U);(iterate 4 exact U))|(first|rfl|(simp only[List.length_append,List.length_cons,List.length_nil,List.length_map,Zv];done)|(simp only[List.length_append,List.length_cons,List.length_nil,List.length_map,Zv]at *;(try unfold maxLen);(try simp only[Nat.add_mul]);omega))
   ·rw[ZV,List.append_nil];exact congrArg (D.sl .ext) (List.map_append (f:=E.byte) (l₁:=c0::t0) (l₂:=c1::b)).symm
   ·rfl
 ·replace hW:AT Tryz.prog _ [.agg [.int .i64 3,.int .u64 (b.length:Int),.bool false]] [] [] _ [] _:=hW
  rcases b with _|⟨c1,b⟩
  ·refine AP.ofA ?_
   refine Zl Tryz.func75 rfl Tryz.ntmps75 rfl rfl ?_
   repeat'(first|rw[eb]|(apply Yn [] [] (hW);kernel_rfl;(iterate 10 exact U))|refine Yo 70 ?_|refine YH ?_|(apply Zh Za;exact U)|(apply Zg Za;exact U)|(apply Zo Za;exact U)|refine Zd U Qt ?_|refine Zf U Qt ?_|refine Zm Za U U U U ?_|refine Z1 Za U U U U U U ?_)
   all_goals(apply Zp [];(apply Zc Za;exact U);(iterate 4 exact U))
   ·rw[ZV,List.append_nil,List.append_nil]
   ·rfl
  ·refine AP.ofA ?_
   refine Zl Tryz.func75 rfl Tryz.ntmps75 rfl rfl ?_
   repeat'(first|rw[eb]|(apply Yn [] [] (hW);kernel_rfl;(iterate 10 exact U))|refine Yo 70 ?_|refine YH ?_|(apply Zh Za;exact U)|(apply Zg Za;exact U)|(apply Zo Za;exact U)|refine Zd U Qt ?_|refine Zf U Qt ?_|refine Zm Za U U U U ?_|(apply ZR Za;(iterate 6 exact U);(first|with_reducible assumption|decide +kernel|exact U|rotate_left);exact U;exact U;(first|exact Zj rfl|with_reducible assumption|decide +kernel|rotate_left);(first|exact Zj rfl|with_reducible assumption|decide +kernel|rotate_left);(first|exact Qt|rotate_left);(first|exact Qt|rotate_left);(first|exact Qt|rotate_left);exact U;exact U))
   all_goals first|(apply Zp [];(apply Zc Za;exact U);(iterate 4 exact U))|(first|rfl|(simp only[List.length_append,List.length_cons,List.length_nil,List.length_map,Zv];done)|(simp only[List.length_append,List.length_cons,List.length_nil,List.length_map,Zv]at *;(try unfold maxLen);(try simp only[Nat.add_mul]);omega))
   ·rw[ZV,List.append_nil];exact congrArg (D.sl .ext) (List.map_append (f:=E.byte) (l₁:=c0::t0) (l₂:=c1::b)).symm
   ·rfl
 ·replace hW:AT Tryz.prog _ [.agg [.int .i64 4,.int .u64 (l.length:Int),.bool false]] [] [] _ [] _:=hW
  refine AP.ofA (Zl Tryz.func75 U Tryz.ntmps75 U U ?_)
  repeat'(first|rw[el]|(apply Yn [] [] (hW);kernel_rfl;(iterate 10 exact U))|(apply Zh Za;exact U)|(apply Zg Za;exact U)|refine Zd U Qt ?_|refine Zm Za U U U U ?_|refine Z1 Za U U U U U U ?_)
  refine ZJ (fun f tm bx fr=>∃(i c:Nat) (M:List E),f+i=l.length/\c=M.length/\M=((c0::t0)++ZV (l.take i)).map E.byte/\tm=[(1,.ptr 0 0),(4,.sl (.own 0) M),(5,.int .i64 (i:Int))]/\bx=[itC 4 0 [] l,[.int .i64 4,.int .u64 (l.length:Int),.bool false]]/\fr=[⟨c,1,5⟩]) (l.length+1) (Lands.mk' (m:=l.length) (Nat.lt_succ_self _) ⟨0,(c0::t0).length,(c0::t0).map E.byte,rfl,by rw[List.length_map],by rw[List.take_zero,ZV,List.append_nil],rfl,rfl,rfl⟩ ?_ rfl rfl rfl rfl rfl rfl) ?_
  ·exact .cons rfl (.cons rfl (.cons rfl .nil))
  rintro f tm bx fr ⟨i,c,M,hf,hc,hM,rfl,rfl,rfl⟩
  subst hc
  have hU:=Wl l
  have hUM:Uni 1 M:=by rw[hM];exact Ym _
  have hMl:M.length=(c0::t0).length+(ZV (l.take i)).length:=by rw[hM,List.length_map,List.length_append]
  rcases Nat.lt_or_ge i l.length with hlt|hge
  ·have hdl:decide ((i:Int)<((Zx l).length:Int))=true:=decide_eq_true (by omega)
   obtain⟨⟨k1,n1,b2,l1⟩,hy⟩:∃ y,l[i]?=some y:=⟨_,List.getElem?_eq_getElem hlt⟩
   have hv:(Zx l)[((i:Nat):Int).toNat]?=some (.agg [.int .i64 k1,.int .u64 (n1:Int),.sl (b2.map E.byte),.sl (Zx l1)]):=by
    rw[Int.toNat_natCast,Yj,List.getElem?_map,hy];rfl
   have hmem:=List.mem_of_getElem? hy
   have hps:=WR hy
   have hpl:=Vv l (i+1)
   have hps2:=congrArg List.length hps
   rw[List.length_append]at hps2
   rw[List.length_append,List.nil_append]at hlim
   have hfy:=XA hfs _ hmem
   have hc:=ih _ hmem (Y8 hws _ hmem) hfy (by omega)
   rw[Yw,Bool.and_eq_true]at hfy
   have hk1:=Q5 hfy.1
   have hpos:=GC (x:=.mk k1 n1 b2 l1) hk1
   generalize ZN (.mk k1 n1 b2 l1)=Q at hc hps hps2 hpos
   obtain⟨q0,Q,rfl⟩:∃ q0 Q',Q=q0::Q':=by
    cases Q with
    | nil=>simp at hpos
    | cons q Q=>exact⟨q,Q,rfl⟩
   have hUQ:=Ym (q0::Q)
   have ei:IntKind.i64.wrap ((i:Int)+1)=((i+1:Nat):Int):=by rw[IntWalk.i64_in _ (by omega)];omega
   repeat'(first|rw[ei]|(apply Zb (hc);kernel_rfl;(iterate 4 exact U))|(apply Zh Za;exact U)|(apply Zg Za;exact U)|(apply Zo Za;exact U)|refine Zd U Qt ?_|refine Zm Za U U U U ?_|(apply ZR Za;(iterate 6 exact U);(first|with_reducible assumption|decide +kernel|exact U|rotate_left);exact U;exact U;(first|exact Zj rfl|with_reducible assumption|decide +kernel|rotate_left);(first|exact Zj rfl|with_reducible assumption|decide +kernel|rotate_left);(first|exact Qt|rotate_left);(first|exact Qt|rotate_left);(first|exact Qt|rotate_left);exact U;exact U)|(apply Zu Za;(iterate 6 exact U);(first|exact Qt|rotate_left);(first|with_reducible assumption|decide +kernel|exact U);(first|exact Zj rfl|with_reducible assumption|decide +kernel|rotate_left)))
   all_goals first|(first|rfl|(simp only[List.length_append,List.length_cons,List.length_nil,List.length_map,Zv];done)|(simp only[List.length_append,List.length_cons,List.length_nil,List.length_map,Zv]at *;(try unfold maxLen);(try simp only[Nat.add_mul]);omega))|skip
   refine Lands.mk' (m:=f-1) (by omega) ⟨i+1,M.length+((q0::Q).map E.byte).length,M++(q0::Q).map E.byte,by omega,by rw[List.length_append],by rw[hM,hps,<- List.map_append,List.append_assoc],rfl,rfl,rfl⟩ ?_ rfl rfl rfl rfl rfl rfl
   exact .cons rfl (.cons rfl (.cons rfl .nil))
  ·have hdl:decide ((i:Int)<((Zx l).length:Int))=false:=decide_eq_false (by omega)
   rw[List.take_of_length_le hge]at hM
   repeat'(first|(apply Zh Za;exact U)|(apply Zg Za;exact U)|(apply Zo Za;exact U)|refine Zf U Qt ?_|refine Zm Za U U U U ?_)
   all_goals(apply Zp [];(apply Zc Za;exact U);(iterate 4 exact U))
   ·rw[hM];rfl
   ·rfl
theorem XC [Known](L:List E):AP Tryz.prog 122 [.sl .ext L] (.agg [.int .i64 4,.int .u64 0,.sl .ext [],.sl .ext L]) []:=by
 refine AP.ofA (Zl Tryz.func122 U Tryz.ntmps122 U U ?_)
 repeat'(first|(apply Zg Za;exact U))
 all_goals exact Qe
theorem Hh [Known](l:List It)(hl:l.length<=2199023255488)(c:List E):AP Tryz.prog 156 [.sl .ext (Zx l),.sl .ext c] (.agg [.int .i64 4,.int .u64 0,.sl .ext [],.sl .ext (Zx l++[.agg [.int .i64 2,.int .u64 0,.sl c,.sl []]])]) []:=by
 have hlen:=Zv l
 have hU:=Wl l
 have hL:=XC (Zx l++[.agg [.int .i64 2,.int .u64 0,.sl c,.sl []]])
 cases l with
 | nil=>
  refine AP.ofA (Zl Tryz.func156 U Tryz.ntmps156 U U ?_)
  repeat'(first|(apply Zb (hL);kernel_rfl;(iterate 4 exact U))|refine ZT Za U U U U U U (Zj rfl) (List.cons_ne_nil _ _) U Qd Qd U U U ?_|(apply Zh Za;exact U)|(apply Zg Za;exact U)|refine ZO Za U U U U U U U U U U U U ?_|refine Z1 Za U U U U U U ?_)
  all_goals exact Qe
 | cons x l=>
  have hne:Zx (x::l) ≠ []:=by rw[Zx];exact List.cons_ne_nil _ _
  generalize Zx (x::l)=L at *
  have hLl:L.length<=2199023255488:=by omega
  refine AP.ofA (Zl Tryz.func156 U Tryz.ntmps156 U U ?_)
  repeat'(first|(apply Zb (hL);kernel_rfl;(iterate 4 exact U))|(apply Zh Za;exact U)|(apply Zg Za;exact U)|refine ZO Za U U U U U U U U U U U U ?_|(apply ZR Za;(iterate 6 exact U);(first|with_reducible assumption|decide +kernel|exact U|rotate_left);exact U;exact U;(first|exact Zj rfl|with_reducible assumption|decide +kernel|rotate_left);(first|exact Zj rfl|with_reducible assumption|decide +kernel|rotate_left);(first|exact Qt|rotate_left);(first|exact Qt|rotate_left);(first|exact Qt|rotate_left);exact U;exact U)|(apply WG Za;(iterate 6 exact U);(first|exact Zj rfl|with_reducible assumption|decide +kernel|rotate_left);(first|exact Qt|rotate_left);(first|exact Qt|rotate_left);(first|exact Qt|rotate_left);(iterate 3 exact U)))
  all_goals first|((apply Zp [];(apply Zc Za;exact U);(iterate 4 exact U)))|skip
  all_goals first|rfl|(first|rfl|(simp only[List.length_append,List.length_cons,List.length_nil,List.length_map,Zv];done)|(simp only[List.length_append,List.length_cons,List.length_nil,List.length_map,Zv]at *;(try unfold maxLen);(try simp only[Nat.add_mul]);omega))|(simp;done)|(simp;omega)|(simp;unfold maxLen;omega)
def Y7 (l:List It)(s:Nat):It × Bool:=match s with
 | 0=>(.mk 4 0 [] l,ZB (.mk 4 0 [] l))
 | s+1=>match ZB (ZX (s+1) l) with
  | true=>(UP (s+1) l,true)
  | false=>(z0,false)
theorem XD (z:Nat):IntKind.u8.wrap (((z:Nat):Int).tmod 256)=((z % 256:Nat):Int):=by
 rw[Int.tmod_eq_emod_of_nonneg (Int.natCast_nonneg _),IntKind.wrap_u8];omega
theorem XF (z:Nat)(h:z<4294967296):IntKind.u32.wrap (((z:Nat):Int).tdiv 256)=((z/256:Nat):Int):=by
 rw[Int.tdiv_eq_ediv_of_nonneg (Int.natCast_nonneg _),IntKind.wrap_u32];omega
theorem SS (b:List UInt8):∃ z:Nat,z<65536/\Qi b=(z:Int)/\[E.int .u8 ((z/256 % 256:Nat):Int),E.int .u8 ((z % 256:Nat):Int)]=(Uy 1 b).map E.byte:=by
 obtain⟨h1,h2⟩:=O5 b
 generalize (65535 ^^^ ruN 33800 65535 (b.map UInt8.toNat))=z at *
 refine⟨z,h2,h1,?_⟩
 rw[Tf]
 unfold SH shU
 rw[if_pos rfl,h1,show min (8:Int).toNat IntKind.u16.bits=8 from rfl,Int.fdiv_eq_ediv_of_nonneg _ (by decide),IntKind.wrap_u8,IntKind.wrap_u8]
 have e1:((z/256 % 256:Nat):Int)=(z:Int)/2 ^ 8 % 256:=by omega
 have e2:((z % 256:Nat):Int)=(z:Int) % 256:=by omega
 rw[e1,e2]
theorem ST (b:List UInt8):∃ z:Nat,z<4294967296/\UO b=(z:Int)/\[E.int .u8 ((z/256/256/256 % 256:Nat):Int),E.int .u8 ((z/256/256 % 256:Nat):Int),E.int .u8 ((z/256 % 256:Nat):Int),E.int .u8 ((z % 256:Nat):Int)]=(Uy 2 b).map E.byte:=by
 obtain⟨h1,h2⟩:=Ha b
 generalize (4294967295 ^^^ ruN 2197175160 4294967295 (b.map UInt8.toNat))=z at *
 refine⟨z,h2,h1,?_⟩
 rw[Tf]
 unfold SH shU
 rw[if_neg (by decide),h1,show min (24:Int).toNat IntKind.u32.bits=24 from rfl,show min (16:Int).toNat IntKind.u32.bits=16 from rfl,show min (8:Int).toNat IntKind.u32.bits=8 from rfl,Int.fdiv_eq_ediv_of_nonneg _ (by decide),Int.fdiv_eq_ediv_of_nonneg _ (by decide),Int.fdiv_eq_ediv_of_nonneg _ (by decide),IntKind.wrap_u8,IntKind.wrap_u8,IntKind.wrap_u8,IntKind.wrap_u8]
 have e1:((z/256/256/256 % 256:Nat):Int)=(z:Int)/2 ^ 24 % 256:=by omega
 have e2:((z/256/256 % 256:Nat):Int)=(z:Int)/2 ^ 16 % 256:=by omega
 have e3:((z/256 % 256:Nat):Int)=(z:Int)/2 ^ 8 % 256:=by omega
 have e4:((z % 256:Nat):Int)=(z:Int) % 256:=by omega
 rw[e1,e2,e3,e4]
theorem KY [Known][KnownU8](l:List It)(s:Nat)(hs:s<=2)(hws:wfs l)(hl:l.length<=1000000)(hsz:Yk l<=900)(hlim:(ZN (ZX s l)).length<=1000000000) :
  AP Tryz.prog 123 [.sl .ext (Zx l),.int .i64 (s:Int)] (.tup [itD (Y7 l s).1,.bool (Y7 l s).2]) []:=by
 have hlen:=Zv l
 have hL:=XC (Zx l)
 unfold Y7
 match s,hs with
 | 0,_=>
  have hw:wfI (.mk 4 0 [] l):=⟨by decide,by simp,by omega,hws⟩
  have hR:=J6 (.mk 4 0 [] l) hw (by rw[YC];omega)
  dsimp only
  generalize ZB (.mk 4 0 [] l)=R at *
  replace hR:AP Tryz.prog 155 [.agg [.int .i64 4,.int .u64 0,.sl .ext [],.sl .ext (Zx l)]] (.bool R) []:=hR
  show AP Tryz.prog _ _ (.tup [.agg [.int .i64 4,.int .u64 0,.sl .ext [],.sl .ext (Zx l)],.bool R]) []
  refine AP.ofA (Zl Tryz.func123 U Tryz.ntmps123 U U ?_)
  repeat'(first|(apply Zb (hL);kernel_rfl;(iterate 4 exact U))|(apply Zb (hR);kernel_rfl;(iterate 4 exact U))|(apply Zh Za;exact U)|(apply Zg Za;exact U)|refine Zd U Qt ?_)
  all_goals exact Qe
 | s+1,hs=>
  have hs':s+1=1\/s+1=2:=by omega
  have hwz:=Nl hs' hws hl
  have hszz:YC (ZX (s+1) l)<=1000:=by
   have h:∀(l r:List It),Yk (l++r)=Yk l+Yk r:=fun l r=>by
    induction l with
    | nil=>simp[Yk]
    | cons x l ih=>rw[List.cons_append,Yk,ih,Yk];omega
   unfold ZX
   simp only[YC,h,Yk]
   omega
  have hR:=J6 (ZX (s+1) l) hwz hszz
  have hW1:=Hh l (by omega) (List.replicate (2*(s+1)) (.int .u8 0))
  have eZ:itD (ZX (s+1) l)=.agg [.int .i64 4,.int .u64 0,.sl .ext [],.sl .ext (Zx l++[.agg [.int .i64 2,.int .u64 0,.sl (List.replicate (2*(s+1)) (.int .u8 0)),.sl []]])]:=by
   unfold ZX
   show D.agg [.int .i64 4,.int .u64 0,.sl .ext [],.sl .ext (Zx (l++[.mk 2 0 (List.replicate (2*(s+1)) 0) []]))]=_
   rw[WQ]
   have:(List.replicate (2*(s+1)) (0:UInt8)).map E.byte=List.replicate (2*(s+1)) (.int .u8 0):=by rw[List.map_replicate];rfl
   show D.agg [.int .i64 4,.int .u64 0,.sl .ext [],.sl .ext (Zx l++[.agg [.int .i64 2,.int .u64 0,.sl ((List.replicate (2*(s+1)) (0:UInt8)).map E.byte),.sl []]])]=_
   rw[this]
  rw[eZ]at hR
  dsimp only
  cases hr:ZB (ZX (s+1) l) with
  | false=>
   rw[hr]at hR
   clear hszz hwz hlim eZ hr
   generalize Zx l=L at *
   obtain rfl|rfl:s=0\/s=1:=by omega
   all_goals
    refine AP.ofA (Zl Tryz.func123 U Tryz.ntmps123 U U ?_)
    repeat'(first|(apply VR Za (l:=2);(iterate 12 exact U))|(apply VR Za (l:=4);(iterate 12 exact U))|(apply Zb (hW1);kernel_rfl;(iterate 4 exact U))|(apply Zb (hR);kernel_rfl;(iterate 4 exact U))|(apply Zh Za;exact U)|(apply Zg Za;exact U)|(apply Zo Za;exact U)|refine Zd U Qt ?_|refine Zf U Qt ?_)
    all_goals exact Qe
  | true=>
   rw[hr]at hR
   have hf:Yw (ZX (s+1) l)=true:=by
    have:=hr
    rw[Ws]at this
    simp only[Bool.and_eq_true]at this
    exact this.2.2
   have hP:=Vi (ZX (s+1) l) hwz hf (by omega)
   rw[eZ]at hP
   have hSh:=Ms (ZN (ZX (s+1) l)) (by omega)
   have hLo:=Re (ZN (ZX (s+1) l)) (by omega)
   have eO:itD (UP (s+1) l)=.agg [.int .i64 4,.int .u64 0,.sl .ext [],.sl .ext (Zx l++[.agg [.int .i64 2,.int .u64 0,.sl ((Uy (s+1) (ZN (ZX (s+1) l))).map E.byte),.sl []]])]:=by
    unfold UP
    show D.agg [.int .i64 4,.int .u64 0,.sl .ext [],.sl .ext (Zx (l++[.mk 2 0 (Uy (s+1) (ZN (ZX (s+1) l))) []]))]=_
    rw[WQ]
    rfl
   dsimp only
   rw[eO]
   have hW2:=Hh l (by omega) ((Uy (s+1) (ZN (ZX (s+1) l))).map E.byte)
   generalize ZN (ZX (s+1) l)=P at *
   clear hszz hwz hlim eZ hr hf eO
   obtain⟨z1,hz1,es1,ec1⟩:=SS P
   obtain⟨z2,hz2,es2,ec2⟩:=ST P
   rw[es1]at hSh
   rw[es2]at hLo
   have w1:IntKind.u32.wrap (z1:Int)=(z1:Int):=IntWalk.u32_in _ (by omega)
   generalize Zx l=L at *
   obtain rfl|rfl:s=0\/s=1:=by omega
   ·rw[show(0+1:Nat)=1 from rfl,<- ec1]at hW2 ⊢
    have r0:=XD z1
    have q0:=XF z1 (by omega)
    have r1:=XD (z1/256)
    have q1:=XF (z1/256) (by omega)
    refine AP.ofA (Zl Tryz.func123 U Tryz.ntmps123 U U ?_)
    repeat'(first|(apply VR Za (l:=2);(iterate 12 exact U))|(apply Zb (hW1);kernel_rfl;(iterate 4 exact U))|(apply Zb (hW2);kernel_rfl;(iterate 4 exact U))|(apply Zb (hR);kernel_rfl;(iterate 4 exact U))|(apply Zb (hP);kernel_rfl;(iterate 4 exact U))|(apply Zb (hSh);kernel_rfl;(iterate 4 exact U))|rw[w1]|rw[r0]|rw[q0]|rw[r1]|rw[q1]|refine Yo 20 ?_|refine YH ?_|refine Wk Za U U U U U U U U U U U (Zj rfl) (Zj rfl) (List.cons_ne_nil _ _) Qd Qd U U ?_|(apply Zh Za;exact U)|(apply Zg Za;exact U)|(apply Zo Za;exact U)|refine Zd U Qt ?_|refine Zf U Qt ?_|refine ZO Za U U U U U U U U U U U U ?_|refine Z1 Za U U U U U U ?_|(apply U4;exact U;exact U;(first|exact Qt|rotate_left);exact U)|(apply U5;exact U;exact U;(first|exact Qt|rotate_left);exact U))
    all_goals exact Qe
   ·rw[show(1+1:Nat)=2 from rfl,<- ec2]at hW2 ⊢
    have r0:=XD z2
    have q0:=XF z2 (by omega)
    have r1:=XD (z2/256)
    have q1:=XF (z2/256) (by omega)
    have r2:=XD (z2/256/256)
    have q2:=XF (z2/256/256) (by omega)
    have r3:=XD (z2/256/256/256)
    have q3:=XF (z2/256/256/256) (by omega)
    refine AP.ofA (Zl Tryz.func123 U Tryz.ntmps123 U U ?_)
    repeat'(first|(apply VR Za (l:=4);(iterate 12 exact U))|(apply Zb (hW1);kernel_rfl;(iterate 4 exact U))|(apply Zb (hW2);kernel_rfl;(iterate 4 exact U))|(apply Zb (hR);kernel_rfl;(iterate 4 exact U))|(apply Zb (hP);kernel_rfl;(iterate 4 exact U))|(apply Zb (hSh);kernel_rfl;(iterate 4 exact U))|(apply Zb (hLo);kernel_rfl;(iterate 4 exact U))|rw[w1]|rw[r0]|rw[q0]|rw[r1]|rw[q1]|rw[r2]|rw[q2]|rw[r3]|rw[q3]|refine Yo 20 ?_|refine YH ?_|refine Wk Za U U U U U U U U U U U (Zj rfl) (Zj rfl) (List.cons_ne_nil _ _) Qd Qd U U ?_|(apply Zh Za;exact U)|(apply Zg Za;exact U)|(apply Zo Za;exact U)|refine Zd U Qt ?_|refine Zf U Qt ?_|refine ZO Za U U U U U U U U U U U U ?_|refine Z1 Za U U U U U U ?_|(apply U4;exact U;exact U;(first|exact Qt|rotate_left);exact U)|(apply U5;exact U;exact U;(first|exact Qt|rotate_left);exact U))
    all_goals exact Qe
theorem UX:∀(l r:List It),Yk (l++r)=Yk l+Yk r
 | [],r=>by simp[Yk]
 | x::l,r=>by rw[List.cons_append,Yk,UX l r,Yk];omega
theorem UY:∀(l r:List It) (d:Nat),YO (l++r) d=(YO l d&&YO r d)
 | [],r,d=>by simp[YO]
 | x::l,r,d=>by rw[List.cons_append,YO,UY l r d,YO,Bool.and_assoc]
theorem UZ:∀(l r:List It),Y4 (l++r)=(Y4 l&&Y4 r)
 | [],r=>by simp[Y4]
 | x::l,r=>by rw[List.cons_append,Y4,UZ l r,Y4,Bool.and_assoc]
theorem KZ (l:List It)(b c:List UInt8):ZB (.mk 4 0 [] (l++[.mk 2 0 b []]))=ZB (.mk 4 0 [] (l++[.mk 2 0 c []])):=by
 rw[Ws,Ws]
 have o:∀ x:List UInt8,Wb 4 0 [] (l++[.mk 2 0 x []])=true:=fun x=>by simp[Wb]
 have h1:YV (.mk 4 0 [] (l++[.mk 2 0 b []])) 6=YV (.mk 4 0 [] (l++[.mk 2 0 c []])) 6:=by
  rw[YV,YV,UY,UY];rfl
 have h2:YC (.mk 4 0 [] (l++[.mk 2 0 b []]))=YC (.mk 4 0 [] (l++[.mk 2 0 c []])):=by
  rw[YC,YC,UX,UX];rfl
 have h3:Yw (.mk 4 0 [] (l++[.mk 2 0 b []]))=Yw (.mk 4 0 [] (l++[.mk 2 0 c []])):=by
  rw[Yw,Yw,o,o,UZ,UZ];rfl
 rw[h1,h2,h3]
theorem Ib {n:Nat}{b:List UInt8}{l:List It}(h:ZB (.mk 4 n b l)=true):l.all ZB=true:=by
 rw[Ws]at h
 simp only[Bool.and_eq_true,decide_eq_true_eq]at h
 obtain⟨h1,h2,h3⟩:=h
 rw[YV]at h1
 rw[YC]at h2
 rw[Yw,Bool.and_eq_true]at h3
 refine List.all_eq_true.2 fun y hy=>?_
 rw[Ws]
 simp only[Bool.and_eq_true,decide_eq_true_eq]
 have:=Xz y hy
 exact⟨KM y 5 6 (OV h1 y hy) (by omega),by omega,XA h3.2 y hy⟩
theorem K0 {l:List It}{b:List UInt8}(h:ZB (.mk 4 0 [] (l++[.mk 2 0 b []]))=true):l.all ZB=true:=by
 have:=Ib h
 rw[List.all_append,Bool.and_eq_true]at this
 exact this.1
def NA (l:List It)(a:Int):It × Int:=match decide (a<0)||decide (a ≥ (l.length:Int)) with
 | true=>(z0,1)
 | false=>match decide (Wn l a ≥ 0) with
  | false=>(z0,3)
  | true=>match(Y7 l (Wn l a).toNat).2 with
   | true=>((Y7 l (Wn l a).toNat).1,0)
   | false=>(z0,3)
theorem dS1 (l:List It):Y7 l 1=match ZB (ZX 1 l) with|true=>(UP 1 l,true)|false=>(z0,false):=rfl
theorem dS2 (l:List It):Y7 l 2=match ZB (ZX 2 l) with|true=>(UP 2 l,true)|false=>(z0,false):=rfl
theorem NB (l:List It)(a:Int):VU l a=NA l a:=by
 unfold VU NA
 cases decide (a<0)||decide (a ≥ (l.length:Int)) with
 | true=>rfl
 | false=>
 dsimp only
 rcases QN l a with h|⟨h,_⟩
 ·rw[h,show decide ((-1:Int) ≥ 0)=false from rfl,Bool.and_false]
 rcases h with h|h|h
 ·rw[h,show decide ((0:Int) ≥ 0)=true from rfl,Bool.and_true,show decide ((0:Int)>0)=false from rfl]
  dsimp only[Y7,Int.toNat_zero]
  cases hr:ZB (.mk 4 0 [] l) with
  | true=>rw[Ib hr];first|done|rfl
  | false=>cases l.all ZB<;>simp[Y7,hr]
 ·rw[h,show decide ((1:Int) ≥ 0)=true from rfl,Bool.and_true,show decide ((1:Int)>0)=true from rfl]
  show(match l.all ZB with|false=>(z0,(3:Int))|true=>(match ZB (ZX 1 l) with|false=>(z0,3)|true=>match ZB (UP 1 l) with|false=>(z0,3)|true=>(UP 1 l,0)))=match(Y7 l 1).2 with|true=>((Y7 l 1).1,0)|false=>(z0,3)
  have ho:ZB (UP 1 l)=ZB (ZX 1 l):=KZ l _ _
  rw[ho,dS1]
  cases hr:ZB (ZX 1 l) with
  | true=>rw[show l.all ZB=true from K0 hr]
  | false=>cases l.all ZB<;>rfl
 ·rw[h,show decide ((2:Int) ≥ 0)=true from rfl,Bool.and_true,show decide ((2:Int)>0)=true from rfl]
  show(match l.all ZB with|false=>(z0,(3:Int))|true=>(match ZB (ZX 2 l) with|false=>(z0,3)|true=>match ZB (UP 2 l) with|false=>(z0,3)|true=>(UP 2 l,0)))=match(Y7 l 2).2 with|true=>((Y7 l 2).1,0)|false=>(z0,3)
  have ho:ZB (UP 2 l)=ZB (ZX 2 l):=KZ l _ _
  rw[ho,dS2]
  cases hr:ZB (ZX 2 l) with
  | true=>rw[show l.all ZB=true from K0 hr]
  | false=>cases l.all ZB<;>rfl
end Go.Proofs.YtmljabhmajehnaaGreatDoor
end
section
open Go.RowKit Go.Pl
namespace Go.Av
section
variable {P:Program} {Q:X->St->Prop} {n:Nat} {ee:Nat × Nat} {tm:List (Nat × D)} {bx bx':List (List D)} {fr fr':List Fr} {b0:Bs} {g:G} {w:World} {a:Act} {T:Tab}
variable {ops:Array Oper} {rest:List Oper} {t ty:Nat} {pos:String} {after:Array Edge}
end
end Go.Av
end
section
open Go.RowKit Go.Pl Go.Av
namespace Go.Proofs.YtmljabhmajehnaaGreatDoor
set_option maxHeartbeats 4000000
end Go.Proofs.YtmljabhmajehnaaGreatDoor
end
