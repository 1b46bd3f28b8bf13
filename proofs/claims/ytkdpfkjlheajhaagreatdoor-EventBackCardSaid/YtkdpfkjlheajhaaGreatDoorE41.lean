/- Package request: a request, read. -/
import Derived.Test.YtkdpfkjlheajhaaGreatDoorE37
import Derived.Test.YtkdpfkjlheajhaaGreatDoorE38
import Derived.Test.YtkdpfkjlheajhaaGreatDoorE39
import Derived.Test.YtkdpfkjlheajhaaGreatDoorE40
set_option linter.unusedVariables false
set_option linter.unusedSimpArgs false
section
open Go.RowKit Go.Pl Go.Av
namespace Go.Proofs.YtkdpfkjlheajhaaGreatDoor
set_option maxHeartbeats 4000000
theorem Ua [Known][KnownSc][KnownPow](s:Rd)(hb:s.2.length<=1000000):AQ Tryz.prog 99 [.ptr 0 0] (UJ s) (.agg (eC (nmS s).1)) (UJ (nmS s).2):=by
 have hT:=JQ s hb
 have hl:=(Qz s).2
 unfold nmS
 generalize Vc s=p at *
 obtain⟨t,e,q⟩:=p
 have hP:=M2 t (by dsimp only at hl;omega)
 generalize (if(VK t).2 then(VK t).1 else ZN)=x at *
 generalize (if(VK t).2 then(0:Int) else 3)=w at *
 obtain⟨xi,xn,xs,xh,xd⟩:=x
 obtain⟨e0,b⟩:=s
 dsimp only at hT ⊢
 replace hP:AP Tryz.prog _ [.str t] (.tup [.agg [.bool xi,.int .u64 (xn:Int),.int .u64 (xs:Int),.str xh,.str xd],.int .i64 w]) []:=hP
 refine AQ.weak (Zl Tryz.func99 Z Tryz.ntmps99 Z Z ?_)
 repeat'(first|(apply Zh [0] (hT);kernel_rfl;(iterate 7 exact Z))|(apply Zb (hP);kernel_rfl;(iterate 4 exact Z))|refine Vl Za Z Z Z Z Z Z Z Z Z ?_|(apply Zi Za;exact Z)|(apply Zg Za;exact Z)|refine Vl Za Z Z Z Z Z Z Z Z Z ?_)
 all_goals(apply Zs [0];(apply Zc Za;exact Z);(iterate 4 exact Z))
 all_goals rfl
theorem U3 (s:Rd):(nmS s).2.2.length<=s.2.length:=(Qz s).1
theorem Z3 (s:Rd):(ZP s).2.2.length<=s.2.length:=O3 _ s
theorem M3 (s:Rd):(GP s).2.2.length<=s.2.length:=O3 1 s
def BD:RqV:=⟨0,0,ZN,ZN,0,0,0,[],0,0,false⟩
abbrev WS (b:List UInt8):D:=.tup [.agg (rqC (match Uc b with|true=>(Yn b).1|false=>BD)),.int .i64 (match Uc b with|true=>0|false=>3)]
theorem ZW {b:List UInt8}(h:Uc b=false):WS b=.tup [.agg (rqC BD),.int .i64 3]:=by unfold WS;rw[h]
theorem Wb {b:List UInt8}(h:Uc b=true):WS b=.tup [.agg (rqC (Yn b).1),.int .i64 0]:=by unfold WS;rw[h]
theorem Zz {i:Nat}{z:Bool}(h:(i==0)=z):((i:Int) != 0) = !z:=by
 subst h
 rw[bne]
 congr 1
 rw[Bool.eq_iff_iff,beq_iff_eq,beq_iff_eq];omega
theorem Xp {b:List UInt8}(h:Yj (Yn b).1=false):Uc b=false:=by unfold Uc;rw[h];rfl
theorem Xq {b:List UInt8}(h:(WI (Yn b).2==0)=false):Uc b=false:=by unfold Uc;rw[h];simp
theorem Xr {b:List UInt8}(h:(ZQ (Yn b).1==b)=false):Uc b=false:=by unfold Uc;rw[h];simp
theorem Xs {b:List UInt8}(h1:Yj (Yn b).1=true)(h2:(WI (Yn b).2==0)=true)(h3:(ZQ (Yn b).1==b)=true):Uc b=true:=by unfold Uc;rw[h1,h2,h3];rfl
theorem Dw [Known][KnownPow](b:List UInt8)(id:Nat)(ei:Bool)(en:Nat)(es:Nat)(eh:List UInt8)(ed:List UInt8)(pol:Int)(e0 e1 e2 e3:Int)(eN:Nat)(q0 q1 q2 q3 q4:List UInt8)
  (hN:AQ Tryz.prog 68 [.sl .ext (b.map E.byte)] [] (.ptr 0 0) [[.int .i64 e0,.bool true,.sl .ext (q0.map E.byte)]]) (h0:AQ Tryz.prog 69 [.ptr 0 0] [[.int .i64 e0,.bool true,.sl .ext (q0.map E.byte)]] (.int .u64 (id:Int)) [[.int .i64 e1,.bool true,.sl .ext (q1.map E.byte)]]) (h1:AQ Tryz.prog 70 [.ptr 0 0] [[.int .i64 e1,.bool true,.sl .ext (q1.map E.byte)]] (.int .i64 1) [[.int .i64 e2,.bool true,.sl .ext (q2.map E.byte)]])
  (h2:AQ Tryz.prog 99 [.ptr 0 0] [[.int .i64 e2,.bool true,.sl .ext (q2.map E.byte)]] (.agg [.bool ei,.int .u64 (en:Int),.int .u64 (es:Int),.str eh,.str ed]) [[.int .i64 e3,.bool true,.sl .ext (q3.map E.byte)]])
  (h3:AQ Tryz.prog 70 [.ptr 0 0] [[.int .i64 e3,.bool true,.sl .ext (q3.map E.byte)]] (.int .i64 pol) [[.int .i64 (eN:Int),.bool true,.sl .ext (q4.map E.byte)]])
  (hg:Yn b=((⟨id,1,⟨ei,en,es,eh,ed⟩,ZN,pol,0,0,[],0,0,false⟩:RqV),(eN,q4))):AP Tryz.prog 71 [.sl .ext (b.map E.byte)] (WS b) []:=by
 have hE:=YD (eN,q4)
 have hB:=Wn (ZQ (⟨id,1,⟨ei,en,es,eh,ed⟩,ZN,pol,0,0,[],0,0,false⟩:RqV)) b
 cases hr:Yj (⟨id,1,⟨ei,en,es,eh,ed⟩,ZN,pol,0,0,[],0,0,false⟩:RqV) with
 | false=>
  rw[ZW (Xp (by rw[hg];exact hr))]
  exact(QN b id ei en es eh ed false 0 0 [] [] pol 0 0 [] 0 0 false e0 e1 e2 e3 (eN:Int) 3 0 q0 q1 q2 q3 q4 [] hN h0 h1 h2 h3 (UK _ hr)).1 rfl
 | true=>
  have hW:=Vd _ hr
  cases he:(WI (eN,q4)==0) with
  | false=>
   rw[ZW (Xq (by rw[hg];exact he))]
   exact(QN b id ei en es eh ed false 0 0 [] [] pol 0 0 [] 0 0 false e0 e1 e2 e3 (eN:Int) 0 _ q0 q1 q2 q3 q4 _ hN h0 h1 h2 h3 hW).2.1 rfl hE (Zz he)
  | true=>
   cases hz:(ZQ (⟨id,1,⟨ei,en,es,eh,ed⟩,ZN,pol,0,0,[],0,0,false⟩:RqV)==b) with
   | false=>
    rw[ZW (Xr (by rw[hg];exact hz))]
    rw[hz]at hB
    exact(QN b id ei en es eh ed false 0 0 [] [] pol 0 0 [] 0 0 false e0 e1 e2 e3 (eN:Int) 0 _ q0 q1 q2 q3 q4 _ hN h0 h1 h2 h3 hW).2.2.1 rfl hE (Zz he) hB
   | true=>
    rw[Wb (Xs (by rw[hg];exact hr) (by rw[hg];exact he) (by rw[hg];exact hz)),hg]
    rw[hz]at hB
    exact(QN b id ei en es eh ed false 0 0 [] [] pol 0 0 [] 0 0 false e0 e1 e2 e3 (eN:Int) 0 _ q0 q1 q2 q3 q4 _ hN h0 h1 h2 h3 hW).2.2.2 rfl hE (Zz he) hB
theorem Dx [Known][KnownSc][KnownPow](b:List UInt8)(hb:b.length<=100000)(hk:(ZP (ZE (0,b)).2).1=1):AP Tryz.prog 71 [byE b] (WS b) []:=by
 have h0:=Yq (0,b) (by dsimp only;omega)
 have m0:=Z9 (0,b)
 dsimp only at m0
 have h1:=Yk (ZE (0,b)).2 (by omega)
 have m1:=Z3 (ZE (0,b)).2
 have l0:=U3 (ZP (ZE (0,b)).2).2
 have l1:=Z3 (nmS (ZP (ZE (0,b)).2).2).2
 rw[show(Yv 1099511627776 (ZE (0,b)).2).1=1 from hk]at h1
 exact Dw b _ _ _ _ _ _ _ _ _ _ _ _ _ _ _ _ _ (ZU b (by omega)) h0 h1 (Ua (ZP (ZE (0,b)).2).2 (by omega)) (Yk (nmS (ZP (ZE (0,b)).2).2).2 (by omega)) (by unfold Yn;rw[hk];rfl)
theorem Dy [Known][KnownPow](b:List UInt8)(id:Nat)(ei:Bool)(en:Nat)(es:Nat)(eh:List UInt8)(ed:List UInt8)(e0 e1 e2:Int)(eN:Nat)(q0 q1 q2 q3:List UInt8)
  (hN:AQ Tryz.prog 68 [.sl .ext (b.map E.byte)] [] (.ptr 0 0) [[.int .i64 e0,.bool true,.sl .ext (q0.map E.byte)]]) (h0:AQ Tryz.prog 69 [.ptr 0 0] [[.int .i64 e0,.bool true,.sl .ext (q0.map E.byte)]] (.int .u64 (id:Int)) [[.int .i64 e1,.bool true,.sl .ext (q1.map E.byte)]]) (h1:AQ Tryz.prog 70 [.ptr 0 0] [[.int .i64 e1,.bool true,.sl .ext (q1.map E.byte)]] (.int .i64 2) [[.int .i64 e2,.bool true,.sl .ext (q2.map E.byte)]])
  (h2:AQ Tryz.prog 99 [.ptr 0 0] [[.int .i64 e2,.bool true,.sl .ext (q2.map E.byte)]] (.agg [.bool ei,.int .u64 (en:Int),.int .u64 (es:Int),.str eh,.str ed]) [[.int .i64 (eN:Int),.bool true,.sl .ext (q3.map E.byte)]])
  (hg:Yn b=((⟨id,2,⟨ei,en,es,eh,ed⟩,ZN,0,0,0,[],0,0,false⟩:RqV),(eN,q3))):AP Tryz.prog 71 [.sl .ext (b.map E.byte)] (WS b) []:=by
 have hE:=YD (eN,q3)
 have hB:=Wn (ZQ (⟨id,2,⟨ei,en,es,eh,ed⟩,ZN,0,0,0,[],0,0,false⟩:RqV)) b
 cases hr:Yj (⟨id,2,⟨ei,en,es,eh,ed⟩,ZN,0,0,0,[],0,0,false⟩:RqV) with
 | false=>
  rw[ZW (Xp (by rw[hg];exact hr))]
  exact(QO b id ei en es eh ed false 0 0 [] [] 0 0 0 [] 0 0 false e0 e1 e2 (eN:Int) 3 0 q0 q1 q2 q3 [] hN h0 h1 h2 (UK _ hr)).1 rfl
 | true=>
  have hW:=Vd _ hr
  cases he:(WI (eN,q3)==0) with
  | false=>
   rw[ZW (Xq (by rw[hg];exact he))]
   exact(QO b id ei en es eh ed false 0 0 [] [] 0 0 0 [] 0 0 false e0 e1 e2 (eN:Int) 0 _ q0 q1 q2 q3 _ hN h0 h1 h2 hW).2.1 rfl hE (Zz he)
  | true=>
   cases hz:(ZQ (⟨id,2,⟨ei,en,es,eh,ed⟩,ZN,0,0,0,[],0,0,false⟩:RqV)==b) with
   | false=>
    rw[ZW (Xr (by rw[hg];exact hz))]
    rw[hz]at hB
    exact(QO b id ei en es eh ed false 0 0 [] [] 0 0 0 [] 0 0 false e0 e1 e2 (eN:Int) 0 _ q0 q1 q2 q3 _ hN h0 h1 h2 hW).2.2.1 rfl hE (Zz he) hB
   | true=>
    rw[Wb (Xs (by rw[hg];exact hr) (by rw[hg];exact he) (by rw[hg];exact hz)),hg]
    rw[hz]at hB
    exact(QO b id ei en es eh ed false 0 0 [] [] 0 0 0 [] 0 0 false e0 e1 e2 (eN:Int) 0 _ q0 q1 q2 q3 _ hN h0 h1 h2 hW).2.2.2 rfl hE (Zz he) hB
theorem Dz [Known][KnownSc][KnownPow](b:List UInt8)(hb:b.length<=100000)(hk:(ZP (ZE (0,b)).2).1=2):AP Tryz.prog 71 [byE b] (WS b) []:=by
 have h0:=Yq (0,b) (by dsimp only;omega)
 have m0:=Z9 (0,b)
 dsimp only at m0
 have h1:=Yk (ZE (0,b)).2 (by omega)
 have m1:=Z3 (ZE (0,b)).2
 have l0:=U3 (ZP (ZE (0,b)).2).2
 rw[show(Yv 1099511627776 (ZE (0,b)).2).1=2 from hk]at h1
 exact Dy b _ _ _ _ _ _ _ _ _ _ _ _ _ _ (ZU b (by omega)) h0 h1 (Ua (ZP (ZE (0,b)).2).2 (by omega)) (by unfold Yn;rw[hk];rfl)
theorem DA [Known][KnownPow](b:List UInt8)(id:Nat)(ei:Bool)(en:Nat)(es:Nat)(eh:List UInt8)(ed:List UInt8)(pol:Int)(e0 e1 e2 e3:Int)(eN:Nat)(q0 q1 q2 q3 q4:List UInt8)
  (hN:AQ Tryz.prog 68 [.sl .ext (b.map E.byte)] [] (.ptr 0 0) [[.int .i64 e0,.bool true,.sl .ext (q0.map E.byte)]]) (h0:AQ Tryz.prog 69 [.ptr 0 0] [[.int .i64 e0,.bool true,.sl .ext (q0.map E.byte)]] (.int .u64 (id:Int)) [[.int .i64 e1,.bool true,.sl .ext (q1.map E.byte)]]) (h1:AQ Tryz.prog 70 [.ptr 0 0] [[.int .i64 e1,.bool true,.sl .ext (q1.map E.byte)]] (.int .i64 3) [[.int .i64 e2,.bool true,.sl .ext (q2.map E.byte)]])
  (h2:AQ Tryz.prog 99 [.ptr 0 0] [[.int .i64 e2,.bool true,.sl .ext (q2.map E.byte)]] (.agg [.bool ei,.int .u64 (en:Int),.int .u64 (es:Int),.str eh,.str ed]) [[.int .i64 e3,.bool true,.sl .ext (q3.map E.byte)]])
  (h3:AQ Tryz.prog 70 [.ptr 0 0] [[.int .i64 e3,.bool true,.sl .ext (q3.map E.byte)]] (.int .i64 pol) [[.int .i64 (eN:Int),.bool true,.sl .ext (q4.map E.byte)]])
  (hg:Yn b=((⟨id,3,⟨ei,en,es,eh,ed⟩,ZN,pol,0,0,[],0,0,false⟩:RqV),(eN,q4))):AP Tryz.prog 71 [.sl .ext (b.map E.byte)] (WS b) []:=by
 have hE:=YD (eN,q4)
 have hB:=Wn (ZQ (⟨id,3,⟨ei,en,es,eh,ed⟩,ZN,pol,0,0,[],0,0,false⟩:RqV)) b
 cases hr:Yj (⟨id,3,⟨ei,en,es,eh,ed⟩,ZN,pol,0,0,[],0,0,false⟩:RqV) with
 | false=>
  rw[ZW (Xp (by rw[hg];exact hr))]
  exact(QP b id ei en es eh ed false 0 0 [] [] pol 0 0 [] 0 0 false e0 e1 e2 e3 (eN:Int) 3 0 q0 q1 q2 q3 q4 [] hN h0 h1 h2 h3 (UK _ hr)).1 rfl
 | true=>
  have hW:=Vd _ hr
  cases he:(WI (eN,q4)==0) with
  | false=>
   rw[ZW (Xq (by rw[hg];exact he))]
   exact(QP b id ei en es eh ed false 0 0 [] [] pol 0 0 [] 0 0 false e0 e1 e2 e3 (eN:Int) 0 _ q0 q1 q2 q3 q4 _ hN h0 h1 h2 h3 hW).2.1 rfl hE (Zz he)
  | true=>
   cases hz:(ZQ (⟨id,3,⟨ei,en,es,eh,ed⟩,ZN,pol,0,0,[],0,0,false⟩:RqV)==b) with
   | false=>
    rw[ZW (Xr (by rw[hg];exact hz))]
    rw[hz]at hB
    exact(QP b id ei en es eh ed false 0 0 [] [] pol 0 0 [] 0 0 false e0 e1 e2 e3 (eN:Int) 0 _ q0 q1 q2 q3 q4 _ hN h0 h1 h2 h3 hW).2.2.1 rfl hE (Zz he) hB
   | true=>
    rw[Wb (Xs (by rw[hg];exact hr) (by rw[hg];exact he) (by rw[hg];exact hz)),hg]
    rw[hz]at hB
    exact(QP b id ei en es eh ed false 0 0 [] [] pol 0 0 [] 0 0 false e0 e1 e2 e3 (eN:Int) 0 _ q0 q1 q2 q3 q4 _ hN h0 h1 h2 h3 hW).2.2.2 rfl hE (Zz he) hB
theorem DB [Known][KnownSc][KnownPow](b:List UInt8)(hb:b.length<=100000)(hk:(ZP (ZE (0,b)).2).1=3):AP Tryz.prog 71 [byE b] (WS b) []:=by
 have h0:=Yq (0,b) (by dsimp only;omega)
 have m0:=Z9 (0,b)
 dsimp only at m0
 have h1:=Yk (ZE (0,b)).2 (by omega)
 have m1:=Z3 (ZE (0,b)).2
 have l0:=U3 (ZP (ZE (0,b)).2).2
 have l1:=Z3 (nmS (ZP (ZE (0,b)).2).2).2
 rw[show(Yv 1099511627776 (ZE (0,b)).2).1=3 from hk]at h1
 exact DA b _ _ _ _ _ _ _ _ _ _ _ _ _ _ _ _ _ (ZU b (by omega)) h0 h1 (Ua (ZP (ZE (0,b)).2).2 (by omega)) (Yk (nmS (ZP (ZE (0,b)).2).2).2 (by omega)) (by unfold Yn;rw[hk];rfl)
theorem DC [Known][KnownPow](b:List UInt8)(id:Nat)(ei:Bool)(en:Nat)(es:Nat)(eh:List UInt8)(ed:List UInt8)(di:Bool)(dn:Nat)(dq:Nat)(dh:List UInt8)(dd:List UInt8)(pay:List UInt8)(life:Nat)(on:Bool)(e0 e1 e2 e3 e4 e5 e6:Int)(eN:Nat)(q0 q1 q2 q3 q4 q5 q6 q7:List UInt8)
  (hN:AQ Tryz.prog 68 [.sl .ext (b.map E.byte)] [] (.ptr 0 0) [[.int .i64 e0,.bool true,.sl .ext (q0.map E.byte)]]) (h0:AQ Tryz.prog 69 [.ptr 0 0] [[.int .i64 e0,.bool true,.sl .ext (q0.map E.byte)]] (.int .u64 (id:Int)) [[.int .i64 e1,.bool true,.sl .ext (q1.map E.byte)]]) (h1:AQ Tryz.prog 70 [.ptr 0 0] [[.int .i64 e1,.bool true,.sl .ext (q1.map E.byte)]] (.int .i64 4) [[.int .i64 e2,.bool true,.sl .ext (q2.map E.byte)]])
  (h2:AQ Tryz.prog 99 [.ptr 0 0] [[.int .i64 e2,.bool true,.sl .ext (q2.map E.byte)]] (.agg [.bool ei,.int .u64 (en:Int),.int .u64 (es:Int),.str eh,.str ed]) [[.int .i64 e3,.bool true,.sl .ext (q3.map E.byte)]])
  (h3:AQ Tryz.prog 99 [.ptr 0 0] [[.int .i64 e3,.bool true,.sl .ext (q3.map E.byte)]] (.agg [.bool di,.int .u64 (dn:Int),.int .u64 (dq:Int),.str dh,.str dd]) [[.int .i64 e4,.bool true,.sl .ext (q4.map E.byte)]])
  (h4:AQ Tryz.prog 72 [.ptr 0 0] [[.int .i64 e4,.bool true,.sl .ext (q4.map E.byte)]] (.sl .ext (pay.map E.byte)) [[.int .i64 e5,.bool true,.sl .ext (q5.map E.byte)]])
  (h5:AQ Tryz.prog 69 [.ptr 0 0] [[.int .i64 e5,.bool true,.sl .ext (q5.map E.byte)]] (.int .u64 (life:Int)) [[.int .i64 e6,.bool true,.sl .ext (q6.map E.byte)]])
  (h6:AQ Tryz.prog 100 [.ptr 0 0] [[.int .i64 e6,.bool true,.sl .ext (q6.map E.byte)]] (.bool on) [[.int .i64 (eN:Int),.bool true,.sl .ext (q7.map E.byte)]])
  (hg:Yn b=((⟨id,4,⟨ei,en,es,eh,ed⟩,⟨di,dn,dq,dh,dd⟩,0,0,0,pay,life,0,on⟩:RqV),(eN,q7))):AP Tryz.prog 71 [.sl .ext (b.map E.byte)] (WS b) []:=by
 have hE:=YD (eN,q7)
 have hB:=Wn (ZQ (⟨id,4,⟨ei,en,es,eh,ed⟩,⟨di,dn,dq,dh,dd⟩,0,0,0,pay,life,0,on⟩:RqV)) b
 cases hr:Yj (⟨id,4,⟨ei,en,es,eh,ed⟩,⟨di,dn,dq,dh,dd⟩,0,0,0,pay,life,0,on⟩:RqV) with
 | false=>
  rw[ZW (Xp (by rw[hg];exact hr))]
  exact(QQ b id ei en es eh ed di dn dq dh dd 0 0 0 pay life 0 on e0 e1 e2 e3 e4 e5 e6 (eN:Int) 3 0 q0 q1 q2 q3 q4 q5 q6 q7 [] hN h0 h1 h2 h3 h4 h5 h6 (UK _ hr)).1 rfl
 | true=>
  have hW:=Vd _ hr
  cases he:(WI (eN,q7)==0) with
  | false=>
   rw[ZW (Xq (by rw[hg];exact he))]
   exact(QQ b id ei en es eh ed di dn dq dh dd 0 0 0 pay life 0 on e0 e1 e2 e3 e4 e5 e6 (eN:Int) 0 _ q0 q1 q2 q3 q4 q5 q6 q7 _ hN h0 h1 h2 h3 h4 h5 h6 hW).2.1 rfl hE (Zz he)
  | true=>
   cases hz:(ZQ (⟨id,4,⟨ei,en,es,eh,ed⟩,⟨di,dn,dq,dh,dd⟩,0,0,0,pay,life,0,on⟩:RqV)==b) with
   | false=>
    rw[ZW (Xr (by rw[hg];exact hz))]
    rw[hz]at hB
    exact(QQ b id ei en es eh ed di dn dq dh dd 0 0 0 pay life 0 on e0 e1 e2 e3 e4 e5 e6 (eN:Int) 0 _ q0 q1 q2 q3 q4 q5 q6 q7 _ hN h0 h1 h2 h3 h4 h5 h6 hW).2.2.1 rfl hE (Zz he) hB
   | true=>
    rw[Wb (Xs (by rw[hg];exact hr) (by rw[hg];exact he) (by rw[hg];exact hz)),hg]
    rw[hz]at hB
    exact(QQ b id ei en es eh ed di dn dq dh dd 0 0 0 pay life 0 on e0 e1 e2 e3 e4 e5 e6 (eN:Int) 0 _ q0 q1 q2 q3 q4 q5 q6 q7 _ hN h0 h1 h2 h3 h4 h5 h6 hW).2.2.2 rfl hE (Zz he) hB
theorem DD [Known][KnownSc][KnownPow](b:List UInt8)(hb:b.length<=100000)(hk:(ZP (ZE (0,b)).2).1=4):AP Tryz.prog 71 [byE b] (WS b) []:=by
 rcases ha:ZE (0,b) with⟨id,s1⟩
 rw[ha]at hk
 dsimp only at hk
 rcases hk2:ZP s1 with⟨k,s2⟩
 rw[hk2]at hk
 dsimp only at hk
 subst hk
 rcases hp:nmS s2 with⟨ep,s3⟩
 rcases hq:nmS s3 with⟨ds,s4⟩
 rcases ht:Vc s4 with⟨pay,s5⟩
 rcases hl:ZE s5 with⟨life,s6⟩
 rcases ho:GP s6 with⟨on,s7⟩
 have h0:=Yq (0,b) (by dsimp only;omega)
 have m0:=Z9 (0,b)
 rw[ha]at h0 m0
 dsimp only at h0 m0
 have h1:=Yk s1 (by omega)
 have m1:=Z3 s1
 have hk3:Yv 1099511627776 s1=(4,s2):=hk2
 rw[hk3]at h1
 rw[hk2]at m1
 dsimp only at h1 m1
 have h2:=Ua s2 (by omega)
 have m2:=U3 s2
 rw[hp]at h2 m2
 dsimp only at h2 m2
 have h3:=Ua s3 (by omega)
 have m3:=U3 s3
 rw[hq]at h3 m3
 dsimp only at h3 m3
 have h4:=JQ s4 (by omega)
 have m4:=(Qz s4).1
 rw[ht]at h4 m4
 dsimp only at h4 m4
 have h5:=Yq s5 (by omega)
 have m5:=Z9 s5
 rw[hl]at h5 m5
 dsimp only at h5 m5
 have h6:=GO s6 (by omega)
 have e1:(((Yv 1 s6).1:Int)==1)=on:=congrArg Prod.fst ho
 have e2:(Yv 1 s6).2=s7:=congrArg Prod.snd ho
 rw[e1,e2]at h6
 have hg:Yn b=((⟨id,4,ep,ds,0,0,0,pay,life,0,on⟩:RqV),s7):=by
  unfold Yn
  rw[ha]
  dsimp only
  rw[hk2]
  dsimp only
  simp only[Iz,Nat.reduceBEq,Bool.or_self,Bool.false_eq_true,if_false,if_true,hp,hq,ht,hl,ho]
  rfl
 clear ha hk2 hk3 hp hq ht hl ho e1 e2 m0 m1 m2 m3 m4 m5
 obtain⟨ei,en,es,eh,ed⟩:=ep
 obtain⟨di,dn,dq,dh,dd⟩:=ds
 obtain⟨a1,a2⟩:=s1
 obtain⟨b1,b2⟩:=s2
 obtain⟨c1,c2⟩:=s3
 obtain⟨d1,d2⟩:=s4
 obtain⟨f1,f2⟩:=s5
 obtain⟨g1,g2⟩:=s6
 obtain⟨i1,i2⟩:=s7
 exact DC b id ei en es eh ed di dn dq dh dd pay life on 0 (a1:Int) (b1:Int) (c1:Int) (d1:Int) (f1:Int) (g1:Int) i1 b a2 b2 c2 d2 f2 g2 i2 (ZU b (by omega)) h0 h1 h2 h3 h4 h5 h6 hg
theorem DE [Known][KnownPow](b:List UInt8)(id:Nat)(num:Int)(e0 e1 e2:Int)(eN:Nat)(q0 q1 q2 q3:List UInt8)
  (hN:AQ Tryz.prog 68 [.sl .ext (b.map E.byte)] [] (.ptr 0 0) [[.int .i64 e0,.bool true,.sl .ext (q0.map E.byte)]]) (h0:AQ Tryz.prog 69 [.ptr 0 0] [[.int .i64 e0,.bool true,.sl .ext (q0.map E.byte)]] (.int .u64 (id:Int)) [[.int .i64 e1,.bool true,.sl .ext (q1.map E.byte)]]) (h1:AQ Tryz.prog 70 [.ptr 0 0] [[.int .i64 e1,.bool true,.sl .ext (q1.map E.byte)]] (.int .i64 5) [[.int .i64 e2,.bool true,.sl .ext (q2.map E.byte)]])
  (h2:AQ Tryz.prog 70 [.ptr 0 0] [[.int .i64 e2,.bool true,.sl .ext (q2.map E.byte)]] (.int .i64 num) [[.int .i64 (eN:Int),.bool true,.sl .ext (q3.map E.byte)]])
  (hg:Yn b=((⟨id,5,ZN,ZN,0,num,0,[],0,0,false⟩:RqV),(eN,q3))):AP Tryz.prog 71 [.sl .ext (b.map E.byte)] (WS b) []:=by
 have hE:=YD (eN,q3)
 have hB:=Wn (ZQ (⟨id,5,ZN,ZN,0,num,0,[],0,0,false⟩:RqV)) b
 cases hr:Yj (⟨id,5,ZN,ZN,0,num,0,[],0,0,false⟩:RqV) with
 | false=>
  rw[ZW (Xp (by rw[hg];exact hr))]
  exact(QR b id false 0 0 [] [] false 0 0 [] [] 0 num 0 [] 0 0 false e0 e1 e2 (eN:Int) 3 0 q0 q1 q2 q3 [] hN h0 h1 h2 (UK _ hr)).1 rfl
 | true=>
  have hW:=Vd _ hr
  cases he:(WI (eN,q3)==0) with
  | false=>
   rw[ZW (Xq (by rw[hg];exact he))]
   exact(QR b id false 0 0 [] [] false 0 0 [] [] 0 num 0 [] 0 0 false e0 e1 e2 (eN:Int) 0 _ q0 q1 q2 q3 _ hN h0 h1 h2 hW).2.1 rfl hE (Zz he)
  | true=>
   cases hz:(ZQ (⟨id,5,ZN,ZN,0,num,0,[],0,0,false⟩:RqV)==b) with
   | false=>
    rw[ZW (Xr (by rw[hg];exact hz))]
    rw[hz]at hB
    exact(QR b id false 0 0 [] [] false 0 0 [] [] 0 num 0 [] 0 0 false e0 e1 e2 (eN:Int) 0 _ q0 q1 q2 q3 _ hN h0 h1 h2 hW).2.2.1 rfl hE (Zz he) hB
   | true=>
    rw[Wb (Xs (by rw[hg];exact hr) (by rw[hg];exact he) (by rw[hg];exact hz)),hg]
    rw[hz]at hB
    exact(QR b id false 0 0 [] [] false 0 0 [] [] 0 num 0 [] 0 0 false e0 e1 e2 (eN:Int) 0 _ q0 q1 q2 q3 _ hN h0 h1 h2 hW).2.2.2 rfl hE (Zz he) hB
theorem DF [Known][KnownSc][KnownPow](b:List UInt8)(hb:b.length<=100000)(hk:(ZP (ZE (0,b)).2).1=5):AP Tryz.prog 71 [byE b] (WS b) []:=by
 have h0:=Yq (0,b) (by dsimp only;omega)
 have m0:=Z9 (0,b)
 dsimp only at m0
 have h1:=Yk (ZE (0,b)).2 (by omega)
 have m1:=Z3 (ZE (0,b)).2
 have l0:=Z3 (ZP (ZE (0,b)).2).2
 rw[show(Yv 1099511627776 (ZE (0,b)).2).1=5 from hk]at h1
 exact DE b _ _ _ _ _ _ _ _ _ _ (ZU b (by omega)) h0 h1 (Yk (ZP (ZE (0,b)).2).2 (by omega)) (by unfold Yn;rw[hk];rfl)
theorem DG [Known][KnownPow](b:List UInt8)(id:Nat)(ei:Bool)(en:Nat)(es:Nat)(eh:List UInt8)(ed:List UInt8)(e0 e1 e2:Int)(eN:Nat)(q0 q1 q2 q3:List UInt8)
  (hN:AQ Tryz.prog 68 [.sl .ext (b.map E.byte)] [] (.ptr 0 0) [[.int .i64 e0,.bool true,.sl .ext (q0.map E.byte)]]) (h0:AQ Tryz.prog 69 [.ptr 0 0] [[.int .i64 e0,.bool true,.sl .ext (q0.map E.byte)]] (.int .u64 (id:Int)) [[.int .i64 e1,.bool true,.sl .ext (q1.map E.byte)]]) (h1:AQ Tryz.prog 70 [.ptr 0 0] [[.int .i64 e1,.bool true,.sl .ext (q1.map E.byte)]] (.int .i64 6) [[.int .i64 e2,.bool true,.sl .ext (q2.map E.byte)]])
  (h2:AQ Tryz.prog 99 [.ptr 0 0] [[.int .i64 e2,.bool true,.sl .ext (q2.map E.byte)]] (.agg [.bool ei,.int .u64 (en:Int),.int .u64 (es:Int),.str eh,.str ed]) [[.int .i64 (eN:Int),.bool true,.sl .ext (q3.map E.byte)]])
  (hg:Yn b=((⟨id,6,⟨ei,en,es,eh,ed⟩,ZN,0,0,0,[],0,0,false⟩:RqV),(eN,q3))):AP Tryz.prog 71 [.sl .ext (b.map E.byte)] (WS b) []:=by
 have hE:=YD (eN,q3)
 have hB:=Wn (ZQ (⟨id,6,⟨ei,en,es,eh,ed⟩,ZN,0,0,0,[],0,0,false⟩:RqV)) b
 cases hr:Yj (⟨id,6,⟨ei,en,es,eh,ed⟩,ZN,0,0,0,[],0,0,false⟩:RqV) with
 | false=>
  rw[ZW (Xp (by rw[hg];exact hr))]
  exact(QS b id ei en es eh ed false 0 0 [] [] 0 0 0 [] 0 0 false e0 e1 e2 (eN:Int) 3 0 q0 q1 q2 q3 [] hN h0 h1 h2 (UK _ hr)).1 rfl
 | true=>
  have hW:=Vd _ hr
  cases he:(WI (eN,q3)==0) with
  | false=>
   rw[ZW (Xq (by rw[hg];exact he))]
   exact(QS b id ei en es eh ed false 0 0 [] [] 0 0 0 [] 0 0 false e0 e1 e2 (eN:Int) 0 _ q0 q1 q2 q3 _ hN h0 h1 h2 hW).2.1 rfl hE (Zz he)
  | true=>
   cases hz:(ZQ (⟨id,6,⟨ei,en,es,eh,ed⟩,ZN,0,0,0,[],0,0,false⟩:RqV)==b) with
   | false=>
    rw[ZW (Xr (by rw[hg];exact hz))]
    rw[hz]at hB
    exact(QS b id ei en es eh ed false 0 0 [] [] 0 0 0 [] 0 0 false e0 e1 e2 (eN:Int) 0 _ q0 q1 q2 q3 _ hN h0 h1 h2 hW).2.2.1 rfl hE (Zz he) hB
   | true=>
    rw[Wb (Xs (by rw[hg];exact hr) (by rw[hg];exact he) (by rw[hg];exact hz)),hg]
    rw[hz]at hB
    exact(QS b id ei en es eh ed false 0 0 [] [] 0 0 0 [] 0 0 false e0 e1 e2 (eN:Int) 0 _ q0 q1 q2 q3 _ hN h0 h1 h2 hW).2.2.2 rfl hE (Zz he) hB
theorem DH [Known][KnownSc][KnownPow](b:List UInt8)(hb:b.length<=100000)(hk:(ZP (ZE (0,b)).2).1=6):AP Tryz.prog 71 [byE b] (WS b) []:=by
 have h0:=Yq (0,b) (by dsimp only;omega)
 have m0:=Z9 (0,b)
 dsimp only at m0
 have h1:=Yk (ZE (0,b)).2 (by omega)
 have m1:=Z3 (ZE (0,b)).2
 have l0:=U3 (ZP (ZE (0,b)).2).2
 rw[show(Yv 1099511627776 (ZE (0,b)).2).1=6 from hk]at h1
 exact DG b _ _ _ _ _ _ _ _ _ _ _ _ _ _ (ZU b (by omega)) h0 h1 (Ua (ZP (ZE (0,b)).2).2 (by omega)) (by unfold Yn;rw[hk];rfl)
theorem DI [Known][KnownPow](b:List UInt8)(id:Nat)(ei:Bool)(en:Nat)(es:Nat)(eh:List UInt8)(ed:List UInt8)(tik:Int)(e0 e1 e2 e3:Int)(eN:Nat)(q0 q1 q2 q3 q4:List UInt8)
  (hN:AQ Tryz.prog 68 [.sl .ext (b.map E.byte)] [] (.ptr 0 0) [[.int .i64 e0,.bool true,.sl .ext (q0.map E.byte)]]) (h0:AQ Tryz.prog 69 [.ptr 0 0] [[.int .i64 e0,.bool true,.sl .ext (q0.map E.byte)]] (.int .u64 (id:Int)) [[.int .i64 e1,.bool true,.sl .ext (q1.map E.byte)]]) (h1:AQ Tryz.prog 70 [.ptr 0 0] [[.int .i64 e1,.bool true,.sl .ext (q1.map E.byte)]] (.int .i64 7) [[.int .i64 e2,.bool true,.sl .ext (q2.map E.byte)]])
  (h2:AQ Tryz.prog 99 [.ptr 0 0] [[.int .i64 e2,.bool true,.sl .ext (q2.map E.byte)]] (.agg [.bool ei,.int .u64 (en:Int),.int .u64 (es:Int),.str eh,.str ed]) [[.int .i64 e3,.bool true,.sl .ext (q3.map E.byte)]])
  (h3:AQ Tryz.prog 70 [.ptr 0 0] [[.int .i64 e3,.bool true,.sl .ext (q3.map E.byte)]] (.int .i64 tik) [[.int .i64 (eN:Int),.bool true,.sl .ext (q4.map E.byte)]])
  (hg:Yn b=((⟨id,7,⟨ei,en,es,eh,ed⟩,ZN,0,0,tik,[],0,0,false⟩:RqV),(eN,q4))):AP Tryz.prog 71 [.sl .ext (b.map E.byte)] (WS b) []:=by
 have hE:=YD (eN,q4)
 have hB:=Wn (ZQ (⟨id,7,⟨ei,en,es,eh,ed⟩,ZN,0,0,tik,[],0,0,false⟩:RqV)) b
 cases hr:Yj (⟨id,7,⟨ei,en,es,eh,ed⟩,ZN,0,0,tik,[],0,0,false⟩:RqV) with
 | false=>
  rw[ZW (Xp (by rw[hg];exact hr))]
  exact(QT b id ei en es eh ed false 0 0 [] [] 0 0 tik [] 0 0 false e0 e1 e2 e3 (eN:Int) 3 0 q0 q1 q2 q3 q4 [] hN h0 h1 h2 h3 (UK _ hr)).1 rfl
 | true=>
  have hW:=Vd _ hr
  cases he:(WI (eN,q4)==0) with
  | false=>
   rw[ZW (Xq (by rw[hg];exact he))]
   exact(QT b id ei en es eh ed false 0 0 [] [] 0 0 tik [] 0 0 false e0 e1 e2 e3 (eN:Int) 0 _ q0 q1 q2 q3 q4 _ hN h0 h1 h2 h3 hW).2.1 rfl hE (Zz he)
  | true=>
   cases hz:(ZQ (⟨id,7,⟨ei,en,es,eh,ed⟩,ZN,0,0,tik,[],0,0,false⟩:RqV)==b) with
   | false=>
    rw[ZW (Xr (by rw[hg];exact hz))]
    rw[hz]at hB
    exact(QT b id ei en es eh ed false 0 0 [] [] 0 0 tik [] 0 0 false e0 e1 e2 e3 (eN:Int) 0 _ q0 q1 q2 q3 q4 _ hN h0 h1 h2 h3 hW).2.2.1 rfl hE (Zz he) hB
   | true=>
    rw[Wb (Xs (by rw[hg];exact hr) (by rw[hg];exact he) (by rw[hg];exact hz)),hg]
    rw[hz]at hB
    exact(QT b id ei en es eh ed false 0 0 [] [] 0 0 tik [] 0 0 false e0 e1 e2 e3 (eN:Int) 0 _ q0 q1 q2 q3 q4 _ hN h0 h1 h2 h3 hW).2.2.2 rfl hE (Zz he) hB
theorem DJ [Known][KnownSc][KnownPow](b:List UInt8)(hb:b.length<=100000)(hk:(ZP (ZE (0,b)).2).1=7):AP Tryz.prog 71 [byE b] (WS b) []:=by
 have h0:=Yq (0,b) (by dsimp only;omega)
 have m0:=Z9 (0,b)
 dsimp only at m0
 have h1:=Yk (ZE (0,b)).2 (by omega)
 have m1:=Z3 (ZE (0,b)).2
 have l0:=U3 (ZP (ZE (0,b)).2).2
 have l1:=Z3 (nmS (ZP (ZE (0,b)).2).2).2
 rw[show(Yv 1099511627776 (ZE (0,b)).2).1=7 from hk]at h1
 exact DI b _ _ _ _ _ _ _ _ _ _ _ _ _ _ _ _ _ (ZU b (by omega)) h0 h1 (Ua (ZP (ZE (0,b)).2).2 (by omega)) (Yk (nmS (ZP (ZE (0,b)).2).2).2 (by omega)) (by unfold Yn;rw[hk];rfl)
theorem DK [Known][KnownPow](b:List UInt8)(id:Nat)(num:Int)(e0 e1 e2:Int)(eN:Nat)(q0 q1 q2 q3:List UInt8)
  (hN:AQ Tryz.prog 68 [.sl .ext (b.map E.byte)] [] (.ptr 0 0) [[.int .i64 e0,.bool true,.sl .ext (q0.map E.byte)]]) (h0:AQ Tryz.prog 69 [.ptr 0 0] [[.int .i64 e0,.bool true,.sl .ext (q0.map E.byte)]] (.int .u64 (id:Int)) [[.int .i64 e1,.bool true,.sl .ext (q1.map E.byte)]]) (h1:AQ Tryz.prog 70 [.ptr 0 0] [[.int .i64 e1,.bool true,.sl .ext (q1.map E.byte)]] (.int .i64 8) [[.int .i64 e2,.bool true,.sl .ext (q2.map E.byte)]])
  (h2:AQ Tryz.prog 70 [.ptr 0 0] [[.int .i64 e2,.bool true,.sl .ext (q2.map E.byte)]] (.int .i64 num) [[.int .i64 (eN:Int),.bool true,.sl .ext (q3.map E.byte)]])
  (hg:Yn b=((⟨id,8,ZN,ZN,0,num,0,[],0,0,false⟩:RqV),(eN,q3))):AP Tryz.prog 71 [.sl .ext (b.map E.byte)] (WS b) []:=by
 have hE:=YD (eN,q3)
 have hB:=Wn (ZQ (⟨id,8,ZN,ZN,0,num,0,[],0,0,false⟩:RqV)) b
 cases hr:Yj (⟨id,8,ZN,ZN,0,num,0,[],0,0,false⟩:RqV) with
 | false=>
  rw[ZW (Xp (by rw[hg];exact hr))]
  exact(QU b id false 0 0 [] [] false 0 0 [] [] 0 num 0 [] 0 0 false e0 e1 e2 (eN:Int) 3 0 q0 q1 q2 q3 [] hN h0 h1 h2 (UK _ hr)).1 rfl
 | true=>
  have hW:=Vd _ hr
  cases he:(WI (eN,q3)==0) with
  | false=>
   rw[ZW (Xq (by rw[hg];exact he))]
   exact(QU b id false 0 0 [] [] false 0 0 [] [] 0 num 0 [] 0 0 false e0 e1 e2 (eN:Int) 0 _ q0 q1 q2 q3 _ hN h0 h1 h2 hW).2.1 rfl hE (Zz he)
  | true=>
   cases hz:(ZQ (⟨id,8,ZN,ZN,0,num,0,[],0,0,false⟩:RqV)==b) with
   | false=>
    rw[ZW (Xr (by rw[hg];exact hz))]
    rw[hz]at hB
    exact(QU b id false 0 0 [] [] false 0 0 [] [] 0 num 0 [] 0 0 false e0 e1 e2 (eN:Int) 0 _ q0 q1 q2 q3 _ hN h0 h1 h2 hW).2.2.1 rfl hE (Zz he) hB
   | true=>
    rw[Wb (Xs (by rw[hg];exact hr) (by rw[hg];exact he) (by rw[hg];exact hz)),hg]
    rw[hz]at hB
    exact(QU b id false 0 0 [] [] false 0 0 [] [] 0 num 0 [] 0 0 false e0 e1 e2 (eN:Int) 0 _ q0 q1 q2 q3 _ hN h0 h1 h2 hW).2.2.2 rfl hE (Zz he) hB
theorem DL [Known][KnownSc][KnownPow](b:List UInt8)(hb:b.length<=100000)(hk:(ZP (ZE (0,b)).2).1=8):AP Tryz.prog 71 [byE b] (WS b) []:=by
 have h0:=Yq (0,b) (by dsimp only;omega)
 have m0:=Z9 (0,b)
 dsimp only at m0
 have h1:=Yk (ZE (0,b)).2 (by omega)
 have m1:=Z3 (ZE (0,b)).2
 have l0:=Z3 (ZP (ZE (0,b)).2).2
 rw[show(Yv 1099511627776 (ZE (0,b)).2).1=8 from hk]at h1
 exact DK b _ _ _ _ _ _ _ _ _ _ (ZU b (by omega)) h0 h1 (Yk (ZP (ZE (0,b)).2).2 (by omega)) (by unfold Yn;rw[hk];rfl)
theorem DM [Known][KnownPow](b:List UInt8)(id:Nat)(num:Int)(e0 e1 e2:Int)(eN:Nat)(q0 q1 q2 q3:List UInt8)
  (hN:AQ Tryz.prog 68 [.sl .ext (b.map E.byte)] [] (.ptr 0 0) [[.int .i64 e0,.bool true,.sl .ext (q0.map E.byte)]]) (h0:AQ Tryz.prog 69 [.ptr 0 0] [[.int .i64 e0,.bool true,.sl .ext (q0.map E.byte)]] (.int .u64 (id:Int)) [[.int .i64 e1,.bool true,.sl .ext (q1.map E.byte)]]) (h1:AQ Tryz.prog 70 [.ptr 0 0] [[.int .i64 e1,.bool true,.sl .ext (q1.map E.byte)]] (.int .i64 9) [[.int .i64 e2,.bool true,.sl .ext (q2.map E.byte)]])
  (h2:AQ Tryz.prog 70 [.ptr 0 0] [[.int .i64 e2,.bool true,.sl .ext (q2.map E.byte)]] (.int .i64 num) [[.int .i64 (eN:Int),.bool true,.sl .ext (q3.map E.byte)]])
  (hg:Yn b=((⟨id,9,ZN,ZN,0,num,0,[],0,0,false⟩:RqV),(eN,q3))):AP Tryz.prog 71 [.sl .ext (b.map E.byte)] (WS b) []:=by
 have hE:=YD (eN,q3)
 have hB:=Wn (ZQ (⟨id,9,ZN,ZN,0,num,0,[],0,0,false⟩:RqV)) b
 cases hr:Yj (⟨id,9,ZN,ZN,0,num,0,[],0,0,false⟩:RqV) with
 | false=>
  rw[ZW (Xp (by rw[hg];exact hr))]
  exact(QV b id false 0 0 [] [] false 0 0 [] [] 0 num 0 [] 0 0 false e0 e1 e2 (eN:Int) 3 0 q0 q1 q2 q3 [] hN h0 h1 h2 (UK _ hr)).1 rfl
 | true=>
  have hW:=Vd _ hr
  cases he:(WI (eN,q3)==0) with
  | false=>
   rw[ZW (Xq (by rw[hg];exact he))]
   exact(QV b id false 0 0 [] [] false 0 0 [] [] 0 num 0 [] 0 0 false e0 e1 e2 (eN:Int) 0 _ q0 q1 q2 q3 _ hN h0 h1 h2 hW).2.1 rfl hE (Zz he)
  | true=>
   cases hz:(ZQ (⟨id,9,ZN,ZN,0,num,0,[],0,0,false⟩:RqV)==b) with
   | false=>
    rw[ZW (Xr (by rw[hg];exact hz))]
    rw[hz]at hB
    exact(QV b id false 0 0 [] [] false 0 0 [] [] 0 num 0 [] 0 0 false e0 e1 e2 (eN:Int) 0 _ q0 q1 q2 q3 _ hN h0 h1 h2 hW).2.2.1 rfl hE (Zz he) hB
   | true=>
    rw[Wb (Xs (by rw[hg];exact hr) (by rw[hg];exact he) (by rw[hg];exact hz)),hg]
    rw[hz]at hB
    exact(QV b id false 0 0 [] [] false 0 0 [] [] 0 num 0 [] 0 0 false e0 e1 e2 (eN:Int) 0 _ q0 q1 q2 q3 _ hN h0 h1 h2 hW).2.2.2 rfl hE (Zz he) hB
theorem DN [Known][KnownSc][KnownPow](b:List UInt8)(hb:b.length<=100000)(hk:(ZP (ZE (0,b)).2).1=9):AP Tryz.prog 71 [byE b] (WS b) []:=by
 have h0:=Yq (0,b) (by dsimp only;omega)
 have m0:=Z9 (0,b)
 dsimp only at m0
 have h1:=Yk (ZE (0,b)).2 (by omega)
 have m1:=Z3 (ZE (0,b)).2
 have l0:=Z3 (ZP (ZE (0,b)).2).2
 rw[show(Yv 1099511627776 (ZE (0,b)).2).1=9 from hk]at h1
 exact DM b _ _ _ _ _ _ _ _ _ _ (ZU b (by omega)) h0 h1 (Yk (ZP (ZE (0,b)).2).2 (by omega)) (by unfold Yn;rw[hk];rfl)
theorem BE [Known][KnownPow](b:List UInt8)(id:Nat)(on:Bool)(e0 e1 e2:Int)(eN:Nat)(q0 q1 q2 q3:List UInt8)
  (hN:AQ Tryz.prog 68 [.sl .ext (b.map E.byte)] [] (.ptr 0 0) [[.int .i64 e0,.bool true,.sl .ext (q0.map E.byte)]]) (h0:AQ Tryz.prog 69 [.ptr 0 0] [[.int .i64 e0,.bool true,.sl .ext (q0.map E.byte)]] (.int .u64 (id:Int)) [[.int .i64 e1,.bool true,.sl .ext (q1.map E.byte)]]) (h1:AQ Tryz.prog 70 [.ptr 0 0] [[.int .i64 e1,.bool true,.sl .ext (q1.map E.byte)]] (.int .i64 10) [[.int .i64 e2,.bool true,.sl .ext (q2.map E.byte)]])
  (h2:AQ Tryz.prog 100 [.ptr 0 0] [[.int .i64 e2,.bool true,.sl .ext (q2.map E.byte)]] (.bool on) [[.int .i64 (eN:Int),.bool true,.sl .ext (q3.map E.byte)]])
  (hg:Yn b=((⟨id,10,ZN,ZN,0,0,0,[],0,0,on⟩:RqV),(eN,q3))):AP Tryz.prog 71 [.sl .ext (b.map E.byte)] (WS b) []:=by
 have hE:=YD (eN,q3)
 have hB:=Wn (ZQ (⟨id,10,ZN,ZN,0,0,0,[],0,0,on⟩:RqV)) b
 cases hr:Yj (⟨id,10,ZN,ZN,0,0,0,[],0,0,on⟩:RqV) with
 | false=>
  rw[ZW (Xp (by rw[hg];exact hr))]
  exact(U0 b id false 0 0 [] [] false 0 0 [] [] 0 0 0 [] 0 0 on e0 e1 e2 (eN:Int) 3 0 q0 q1 q2 q3 [] hN h0 h1 h2 (UK _ hr)).1 rfl
 | true=>
  have hW:=Vd _ hr
  cases he:(WI (eN,q3)==0) with
  | false=>
   rw[ZW (Xq (by rw[hg];exact he))]
   exact(U0 b id false 0 0 [] [] false 0 0 [] [] 0 0 0 [] 0 0 on e0 e1 e2 (eN:Int) 0 _ q0 q1 q2 q3 _ hN h0 h1 h2 hW).2.1 rfl hE (Zz he)
  | true=>
   cases hz:(ZQ (⟨id,10,ZN,ZN,0,0,0,[],0,0,on⟩:RqV)==b) with
   | false=>
    rw[ZW (Xr (by rw[hg];exact hz))]
    rw[hz]at hB
    exact(U0 b id false 0 0 [] [] false 0 0 [] [] 0 0 0 [] 0 0 on e0 e1 e2 (eN:Int) 0 _ q0 q1 q2 q3 _ hN h0 h1 h2 hW).2.2.1 rfl hE (Zz he) hB
   | true=>
    rw[Wb (Xs (by rw[hg];exact hr) (by rw[hg];exact he) (by rw[hg];exact hz)),hg]
    rw[hz]at hB
    exact(U0 b id false 0 0 [] [] false 0 0 [] [] 0 0 0 [] 0 0 on e0 e1 e2 (eN:Int) 0 _ q0 q1 q2 q3 _ hN h0 h1 h2 hW).2.2.2 rfl hE (Zz he) hB
theorem BF [Known][KnownSc][KnownPow](b:List UInt8)(hb:b.length<=100000)(hk:(ZP (ZE (0,b)).2).1=10):AP Tryz.prog 71 [byE b] (WS b) []:=by
 have h0:=Yq (0,b) (by dsimp only;omega)
 have m0:=Z9 (0,b)
 dsimp only at m0
 have h1:=Yk (ZE (0,b)).2 (by omega)
 have m1:=Z3 (ZE (0,b)).2
 have l0:=M3 (ZP (ZE (0,b)).2).2
 rw[show(Yv 1099511627776 (ZE (0,b)).2).1=10 from hk]at h1
 exact BE b _ _ _ _ _ _ _ _ _ _ (ZU b (by omega)) h0 h1 (GO (ZP (ZE (0,b)).2).2 (by omega)) (by unfold Yn;rw[hk];rfl)
theorem BG [Known][KnownPow](b:List UInt8)(id:Nat)(e0 e1:Int)(eN:Nat)(q0 q1 q2:List UInt8)
  (hN:AQ Tryz.prog 68 [.sl .ext (b.map E.byte)] [] (.ptr 0 0) [[.int .i64 e0,.bool true,.sl .ext (q0.map E.byte)]]) (h0:AQ Tryz.prog 69 [.ptr 0 0] [[.int .i64 e0,.bool true,.sl .ext (q0.map E.byte)]] (.int .u64 (id:Int)) [[.int .i64 e1,.bool true,.sl .ext (q1.map E.byte)]]) (h1:AQ Tryz.prog 70 [.ptr 0 0] [[.int .i64 e1,.bool true,.sl .ext (q1.map E.byte)]] (.int .i64 11) [[.int .i64 (eN:Int),.bool true,.sl .ext (q2.map E.byte)]])
  (hg:Yn b=((⟨id,11,ZN,ZN,0,0,0,[],0,0,false⟩:RqV),(eN,q2))):AP Tryz.prog 71 [.sl .ext (b.map E.byte)] (WS b) []:=by
 have hE:=YD (eN,q2)
 have hB:=Wn (ZQ (⟨id,11,ZN,ZN,0,0,0,[],0,0,false⟩:RqV)) b
 cases hr:Yj (⟨id,11,ZN,ZN,0,0,0,[],0,0,false⟩:RqV) with
 | false=>
  rw[ZW (Xp (by rw[hg];exact hr))]
  exact(U1 b id false 0 0 [] [] false 0 0 [] [] 0 0 0 [] 0 0 false e0 e1 (eN:Int) 3 0 q0 q1 q2 [] hN h0 h1 (UK _ hr)).1 rfl
 | true=>
  have hW:=Vd _ hr
  cases he:(WI (eN,q2)==0) with
  | false=>
   rw[ZW (Xq (by rw[hg];exact he))]
   exact(U1 b id false 0 0 [] [] false 0 0 [] [] 0 0 0 [] 0 0 false e0 e1 (eN:Int) 0 _ q0 q1 q2 _ hN h0 h1 hW).2.1 rfl hE (Zz he)
  | true=>
   cases hz:(ZQ (⟨id,11,ZN,ZN,0,0,0,[],0,0,false⟩:RqV)==b) with
   | false=>
    rw[ZW (Xr (by rw[hg];exact hz))]
    rw[hz]at hB
    exact(U1 b id false 0 0 [] [] false 0 0 [] [] 0 0 0 [] 0 0 false e0 e1 (eN:Int) 0 _ q0 q1 q2 _ hN h0 h1 hW).2.2.1 rfl hE (Zz he) hB
   | true=>
    rw[Wb (Xs (by rw[hg];exact hr) (by rw[hg];exact he) (by rw[hg];exact hz)),hg]
    rw[hz]at hB
    exact(U1 b id false 0 0 [] [] false 0 0 [] [] 0 0 0 [] 0 0 false e0 e1 (eN:Int) 0 _ q0 q1 q2 _ hN h0 h1 hW).2.2.2 rfl hE (Zz he) hB
theorem BH [Known][KnownSc][KnownPow](b:List UInt8)(hb:b.length<=100000)(hk:(ZP (ZE (0,b)).2).1=11):AP Tryz.prog 71 [byE b] (WS b) []:=by
 have h0:=Yq (0,b) (by dsimp only;omega)
 have m0:=Z9 (0,b)
 dsimp only at m0
 have h1:=Yk (ZE (0,b)).2 (by omega)
 have m1:=Z3 (ZE (0,b)).2
 rw[show(Yv 1099511627776 (ZE (0,b)).2).1=11 from hk]at h1
 exact BG b _ _ _ _ _ _ _ (ZU b (by omega)) h0 h1  (by unfold Yn;rw[hk];rfl)
theorem BI [Known][KnownPow](b:List UInt8)(id:Nat)(tok:Nat)(e0 e1 e2:Int)(eN:Nat)(q0 q1 q2 q3:List UInt8)
  (hN:AQ Tryz.prog 68 [.sl .ext (b.map E.byte)] [] (.ptr 0 0) [[.int .i64 e0,.bool true,.sl .ext (q0.map E.byte)]]) (h0:AQ Tryz.prog 69 [.ptr 0 0] [[.int .i64 e0,.bool true,.sl .ext (q0.map E.byte)]] (.int .u64 (id:Int)) [[.int .i64 e1,.bool true,.sl .ext (q1.map E.byte)]]) (h1:AQ Tryz.prog 70 [.ptr 0 0] [[.int .i64 e1,.bool true,.sl .ext (q1.map E.byte)]] (.int .i64 12) [[.int .i64 e2,.bool true,.sl .ext (q2.map E.byte)]])
  (h2:AQ Tryz.prog 69 [.ptr 0 0] [[.int .i64 e2,.bool true,.sl .ext (q2.map E.byte)]] (.int .u64 (tok:Int)) [[.int .i64 (eN:Int),.bool true,.sl .ext (q3.map E.byte)]])
  (hg:Yn b=((⟨id,12,ZN,ZN,0,0,0,[],0,tok,false⟩:RqV),(eN,q3))):AP Tryz.prog 71 [.sl .ext (b.map E.byte)] (WS b) []:=by
 have hE:=YD (eN,q3)
 have hB:=Wn (ZQ (⟨id,12,ZN,ZN,0,0,0,[],0,tok,false⟩:RqV)) b
 cases hr:Yj (⟨id,12,ZN,ZN,0,0,0,[],0,tok,false⟩:RqV) with
 | false=>
  rw[ZW (Xp (by rw[hg];exact hr))]
  exact(U2 b id false 0 0 [] [] false 0 0 [] [] 0 0 0 [] 0 tok false e0 e1 e2 (eN:Int) 3 0 q0 q1 q2 q3 [] hN h0 h1 h2 (UK _ hr)).1 rfl
 | true=>
  have hW:=Vd _ hr
  cases he:(WI (eN,q3)==0) with
  | false=>
   rw[ZW (Xq (by rw[hg];exact he))]
   exact(U2 b id false 0 0 [] [] false 0 0 [] [] 0 0 0 [] 0 tok false e0 e1 e2 (eN:Int) 0 _ q0 q1 q2 q3 _ hN h0 h1 h2 hW).2.1 rfl hE (Zz he)
  | true=>
   cases hz:(ZQ (⟨id,12,ZN,ZN,0,0,0,[],0,tok,false⟩:RqV)==b) with
   | false=>
    rw[ZW (Xr (by rw[hg];exact hz))]
    rw[hz]at hB
    exact(U2 b id false 0 0 [] [] false 0 0 [] [] 0 0 0 [] 0 tok false e0 e1 e2 (eN:Int) 0 _ q0 q1 q2 q3 _ hN h0 h1 h2 hW).2.2.1 rfl hE (Zz he) hB
   | true=>
    rw[Wb (Xs (by rw[hg];exact hr) (by rw[hg];exact he) (by rw[hg];exact hz)),hg]
    rw[hz]at hB
    exact(U2 b id false 0 0 [] [] false 0 0 [] [] 0 0 0 [] 0 tok false e0 e1 e2 (eN:Int) 0 _ q0 q1 q2 q3 _ hN h0 h1 h2 hW).2.2.2 rfl hE (Zz he) hB
theorem BJ [Known][KnownSc][KnownPow](b:List UInt8)(hb:b.length<=100000)(hk:(ZP (ZE (0,b)).2).1=12):AP Tryz.prog 71 [byE b] (WS b) []:=by
 have h0:=Yq (0,b) (by dsimp only;omega)
 have m0:=Z9 (0,b)
 dsimp only at m0
 have h1:=Yk (ZE (0,b)).2 (by omega)
 have m1:=Z3 (ZE (0,b)).2
 have l0:=Z9 (ZP (ZE (0,b)).2).2
 rw[show(Yv 1099511627776 (ZE (0,b)).2).1=12 from hk]at h1
 exact BI b _ _ _ _ _ _ _ _ _ _ (ZU b (by omega)) h0 h1 (Yq (ZP (ZE (0,b)).2).2 (by omega)) (by unfold Yn;rw[hk];rfl)
theorem DO [Known][KnownPow](b:List UInt8)(kd:Int)(id:Nat)(e0 e1:Int)(eN:Nat)(q0 q1 q2:List UInt8)
  (k1:(kd==1)=false) (k2:(kd==2)=false) (k3:(kd==3)=false) (k4:(kd==4)=false) (k5:(kd==5)=false) (k6:(kd==6)=false) (k7:(kd==7)=false) (k8:(kd==8)=false) (k9:(kd==9)=false) (k10:(kd==10)=false) (k12:(kd==12)=false)
  (hN:AQ Tryz.prog 68 [.sl .ext (b.map E.byte)] [] (.ptr 0 0) [[.int .i64 e0,.bool true,.sl .ext (q0.map E.byte)]]) (h0:AQ Tryz.prog 69 [.ptr 0 0] [[.int .i64 e0,.bool true,.sl .ext (q0.map E.byte)]] (.int .u64 (id:Int)) [[.int .i64 e1,.bool true,.sl .ext (q1.map E.byte)]]) (h1:AQ Tryz.prog 70 [.ptr 0 0] [[.int .i64 e1,.bool true,.sl .ext (q1.map E.byte)]] (.int .i64 kd) [[.int .i64 (eN:Int),.bool true,.sl .ext (q2.map E.byte)]])
  (hg:Yn b=((⟨id,kd,ZN,ZN,0,0,0,[],0,0,false⟩:RqV),(eN,q2))):AP Tryz.prog 71 [.sl .ext (b.map E.byte)] (WS b) []:=by
 have hE:=YD (eN,q2)
 have hB:=Wn (ZQ (⟨id,kd,ZN,ZN,0,0,0,[],0,0,false⟩:RqV)) b
 cases hr:Yj (⟨id,kd,ZN,ZN,0,0,0,[],0,0,false⟩:RqV) with
 | false=>
  rw[ZW (Xp (by rw[hg];exact hr))]
  exact(QW b kd id false 0 0 [] [] false 0 0 [] [] 0 0 0 [] 0 0 false e0 e1 (eN:Int) 3 0 q0 q1 q2 [] k1 k2 k3 k4 k5 k6 k7 k8 k9 k10 k12 hN h0 h1 (UK _ hr)).1 rfl
 | true=>
  have hW:=Vd _ hr
  cases he:(WI (eN,q2)==0) with
  | false=>
   rw[ZW (Xq (by rw[hg];exact he))]
   exact(QW b kd id false 0 0 [] [] false 0 0 [] [] 0 0 0 [] 0 0 false e0 e1 (eN:Int) 0 _ q0 q1 q2 _ k1 k2 k3 k4 k5 k6 k7 k8 k9 k10 k12 hN h0 h1 hW).2.1 rfl hE (Zz he)
  | true=>
   cases hz:(ZQ (⟨id,kd,ZN,ZN,0,0,0,[],0,0,false⟩:RqV)==b) with
   | false=>
    rw[ZW (Xr (by rw[hg];exact hz))]
    rw[hz]at hB
    exact(QW b kd id false 0 0 [] [] false 0 0 [] [] 0 0 0 [] 0 0 false e0 e1 (eN:Int) 0 _ q0 q1 q2 _ k1 k2 k3 k4 k5 k6 k7 k8 k9 k10 k12 hN h0 h1 hW).2.2.1 rfl hE (Zz he) hB
   | true=>
    rw[Wb (Xs (by rw[hg];exact hr) (by rw[hg];exact he) (by rw[hg];exact hz)),hg]
    rw[hz]at hB
    exact(QW b kd id false 0 0 [] [] false 0 0 [] [] 0 0 0 [] 0 0 false e0 e1 (eN:Int) 0 _ q0 q1 q2 _ k1 k2 k3 k4 k5 k6 k7 k8 k9 k10 k12 hN h0 h1 hW).2.2.2 rfl hE (Zz he) hB
theorem DP [Known][KnownSc][KnownPow](b:List UInt8)(hb:b.length<=100000)(k1:(((ZP (ZE (0,b)).2).1:Int)==1)=false)(k2:(((ZP (ZE (0,b)).2).1:Int)==2)=false)(k3:(((ZP (ZE (0,b)).2).1:Int)==3)=false)(k4:(((ZP (ZE (0,b)).2).1:Int)==4)=false)(k5:(((ZP (ZE (0,b)).2).1:Int)==5)=false)(k6:(((ZP (ZE (0,b)).2).1:Int)==6)=false)(k7:(((ZP (ZE (0,b)).2).1:Int)==7)=false)(k8:(((ZP (ZE (0,b)).2).1:Int)==8)=false)(k9:(((ZP (ZE (0,b)).2).1:Int)==9)=false)(k10:(((ZP (ZE (0,b)).2).1:Int)==10)=false)(k12:(((ZP (ZE (0,b)).2).1:Int)==12)=false):AP Tryz.prog 71 [byE b] (WS b) []:=by
 have h0:=Yq (0,b) (by dsimp only;omega)
 have m0:=Z9 (0,b)
 dsimp only at m0
 have h1:=Yk (ZE (0,b)).2 (by omega)
 have m1:=Z3 (ZE (0,b)).2
 exact DO b _ _ _ _ _ _ _ _ k1 k2 k3 k4 k5 k6 k7 k8 k9 k10 k12 (ZU b (by omega)) h0 h1  (by
   have kk:∀ i:Nat,(((ZP (ZE (0,b)).2).1:Int)==(i:Int))=((ZP (ZE (0,b)).2).1==i):=fun i=>by rw[Bool.eq_iff_iff,beq_iff_eq,beq_iff_eq];omega
   unfold Yn Iz
   rw[show((ZP (ZE (0,b)).2).1==1)=false from(kk 1).symm.trans k1,show((ZP (ZE (0,b)).2).1==2)=false from(kk 2).symm.trans k2,show((ZP (ZE (0,b)).2).1==3)=false from(kk 3).symm.trans k3,show((ZP (ZE (0,b)).2).1==4)=false from(kk 4).symm.trans k4,show((ZP (ZE (0,b)).2).1==5)=false from(kk 5).symm.trans k5,show((ZP (ZE (0,b)).2).1==6)=false from(kk 6).symm.trans k6,show((ZP (ZE (0,b)).2).1==7)=false from(kk 7).symm.trans k7,show((ZP (ZE (0,b)).2).1==8)=false from(kk 8).symm.trans k8,show((ZP (ZE (0,b)).2).1==9)=false from(kk 9).symm.trans k9,show((ZP (ZE (0,b)).2).1==10)=false from(kk 10).symm.trans k10,show((ZP (ZE (0,b)).2).1==12)=false from(kk 12).symm.trans k12]
   rfl)
theorem HK [Known][KnownSc][KnownPow](b:List UInt8)(hb:b.length<=100000):AP Tryz.prog 71 [byE b] (WS b) []:=by
 rcases Tg (((ZP (ZE (0,b)).2).1:Nat):Int) with h|h|h|h|h|h|h|h|h|h|h|h|⟨k1,k2,k3,k4,k5,k6,k7,k8,k9,k10,k11,k12⟩
 ·exact Dx b hb (by omega)
 ·exact Dz b hb (by omega)
 ·exact DB b hb (by omega)
 ·exact DD b hb (by omega)
 ·exact DF b hb (by omega)
 ·exact DH b hb (by omega)
 ·exact DJ b hb (by omega)
 ·exact DL b hb (by omega)
 ·exact DN b hb (by omega)
 ·exact BF b hb (by omega)
 ·exact BH b hb (by omega)
 ·exact BJ b hb (by omega)
 ·exact DP b hb k1 k2 k3 k4 k5 k6 k7 k8 k9 k10 k12
end Go.Proofs.YtkdpfkjlheajhaaGreatDoor
end
