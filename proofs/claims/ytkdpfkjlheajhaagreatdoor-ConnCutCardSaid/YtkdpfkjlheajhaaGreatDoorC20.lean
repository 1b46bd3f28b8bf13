/- Package request: a request, read. -/
import Derived.Test.YtkdpfkjlheajhaaGreatDoorC17
import Derived.Test.YtkdpfkjlheajhaaGreatDoorC18
import Derived.Test.YtkdpfkjlheajhaaGreatDoorC19
set_option linter.unusedVariables false
set_option linter.unusedSimpArgs false
section
open Go.RowKit Go.Pl Go.Av
namespace Go.Proofs.YtkdpfkjlheajhaaGreatDoor
set_option maxHeartbeats 4000000
theorem Wh [Known][KnownSc][KnownPow](s:Rd)(hb:s.2.length<=1000000):AQ Tryz.prog 99 [.ptr 0 0] (rdD s) (.agg (eC (nmS s).1)) (rdD (nmS s).2):=by
 have hT:=Jt s hb
 have hl:=(UP s).2
 unfold nmS
 generalize VA s=p at *
 obtain⟨t,e,q⟩:=p
 have hP:=KU t (by dsimp only at hl;omega)
 generalize (if(WO t).2 then(WO t).1 else ZD)=x at *
 generalize (if(WO t).2 then(0:Int) else 3)=w at *
 obtain⟨xi,xn,xs,xh,xd⟩:=x
 obtain⟨e0,b⟩:=s
 dsimp only at hT ⊢
 replace hP:AP Tryz.prog _ [.str t] (.tup [.agg [.bool xi,.int .u64 (xn:Int),.int .u64 (xs:Int),.str xh,.str xd],.int .i64 w]) []:=hP
 refine AQ.weak (Zm Tryz.func99 Z Tryz.ntmps99 Z Z ?_)
 repeat'(first|(apply Zh [0] (hT);kernel_rfl;(iterate 7 exact Z))|(apply Zc (hP);kernel_rfl;(iterate 4 exact Z))|refine JJ Za Z Z Z Z Z Z Z Z Z ?_|(apply Zj Za;exact Z)|(apply Zg Za;exact Z)|refine JJ Za Z Z Z Z Z Z Z Z Z ?_)
 all_goals(apply Zu [0];(apply Zd Za;exact Z);(iterate 4 exact Z))
 all_goals rfl
theorem WS (s:Rd):(nmS s).2.2.length<=s.2.length:=(UP s).1
theorem ZS (s:Rd):(ZL s).2.2.length<=s.2.length:=Qw _ s
theorem KV (s:Rd):(X1 s).2.2.length<=s.2.length:=Qw 1 s
def Ju:RqV:=⟨0,0,ZD,ZD,0,0,0,[],0,0,false⟩
abbrev YF (b:List UInt8):D:=.tup [.agg (rqC (match YN b with|true=>(ZI b).1|false=>Ju)),.int .i64 (match YN b with|true=>0|false=>3)]
theorem ZC {b:List UInt8}(h:YN b=false):YF b=.tup [.agg (rqC Ju),.int .i64 3]:=by unfold YF;rw[h]
theorem Z1 {b:List UInt8}(h:YN b=true):YF b=.tup [.agg (rqC (ZI b).1),.int .i64 0]:=by unfold YF;rw[h]
theorem Zs {i:Nat}{z:Bool}(h:(i==0)=z):((i:Int) != 0) = !z:=by
 subst h
 rw[bne]
 congr 1
 rw[Bool.eq_iff_iff,beq_iff_eq,beq_iff_eq];omega
theorem V7 {b:List UInt8}(h:ZQ (ZI b).1=false):YN b=false:=by unfold YN;rw[h];rfl
theorem V8 {b:List UInt8}(h:(WW (ZI b).2==0)=false):YN b=false:=by unfold YN;rw[h];simp
theorem V9 {b:List UInt8}(h:(ZH (ZI b).1==b)=false):YN b=false:=by unfold YN;rw[h];simp
theorem Ua {b:List UInt8}(h1:ZQ (ZI b).1=true)(h2:(WW (ZI b).2==0)=true)(h3:(ZH (ZI b).1==b)=true):YN b=true:=by unfold YN;rw[h1,h2,h3];rfl
theorem G3 [Known][KnownPow](b:List UInt8)(id:Nat)(ei:Bool)(en:Nat)(es:Nat)(eh:List UInt8)(ed:List UInt8)(pol:Int)(e0 e1 e2 e3:Int)(eN:Nat)(q0 q1 q2 q3 q4:List UInt8)
  (hN:AQ Tryz.prog 68 [.sl .ext (b.map E.byte)] [] (.ptr 0 0) [[.int .i64 e0,.bool true,.sl .ext (q0.map E.byte)]]) (h0:AQ Tryz.prog 69 [.ptr 0 0] [[.int .i64 e0,.bool true,.sl .ext (q0.map E.byte)]] (.int .u64 (id:Int)) [[.int .i64 e1,.bool true,.sl .ext (q1.map E.byte)]]) (h1:AQ Tryz.prog 70 [.ptr 0 0] [[.int .i64 e1,.bool true,.sl .ext (q1.map E.byte)]] (.int .i64 1) [[.int .i64 e2,.bool true,.sl .ext (q2.map E.byte)]])
  (h2:AQ Tryz.prog 99 [.ptr 0 0] [[.int .i64 e2,.bool true,.sl .ext (q2.map E.byte)]] (.agg [.bool ei,.int .u64 (en:Int),.int .u64 (es:Int),.str eh,.str ed]) [[.int .i64 e3,.bool true,.sl .ext (q3.map E.byte)]])
  (h3:AQ Tryz.prog 70 [.ptr 0 0] [[.int .i64 e3,.bool true,.sl .ext (q3.map E.byte)]] (.int .i64 pol) [[.int .i64 (eN:Int),.bool true,.sl .ext (q4.map E.byte)]])
  (hg:ZI b=((⟨id,1,⟨ei,en,es,eh,ed⟩,ZD,pol,0,0,[],0,0,false⟩:RqV),(eN,q4))):AP Tryz.prog 71 [.sl .ext (b.map E.byte)] (YF b) []:=by
 have hE:=Yz (eN,q4)
 have hB:=YB (ZH (⟨id,1,⟨ei,en,es,eh,ed⟩,ZD,pol,0,0,[],0,0,false⟩:RqV)) b
 cases hr:ZQ (⟨id,1,⟨ei,en,es,eh,ed⟩,ZD,pol,0,0,[],0,0,false⟩:RqV) with
 | false=>
  rw[ZC (V7 (by rw[hg];exact hr))]
  exact(Ve b id ei en es eh ed false 0 0 [] [] pol 0 0 [] 0 0 false e0 e1 e2 e3 (eN:Int) 3 0 q0 q1 q2 q3 q4 [] hN h0 h1 h2 h3 (WA _ hr)).1 rfl
 | true=>
  have hW:=YZ _ hr
  cases he:(WW (eN,q4)==0) with
  | false=>
   rw[ZC (V8 (by rw[hg];exact he))]
   exact(Ve b id ei en es eh ed false 0 0 [] [] pol 0 0 [] 0 0 false e0 e1 e2 e3 (eN:Int) 0 _ q0 q1 q2 q3 q4 _ hN h0 h1 h2 h3 hW).2.1 rfl hE (Zs he)
  | true=>
   cases hz:(ZH (⟨id,1,⟨ei,en,es,eh,ed⟩,ZD,pol,0,0,[],0,0,false⟩:RqV)==b) with
   | false=>
    rw[ZC (V9 (by rw[hg];exact hz))]
    rw[hz]at hB
    exact(Ve b id ei en es eh ed false 0 0 [] [] pol 0 0 [] 0 0 false e0 e1 e2 e3 (eN:Int) 0 _ q0 q1 q2 q3 q4 _ hN h0 h1 h2 h3 hW).2.2.1 rfl hE (Zs he) hB
   | true=>
    rw[Z1 (Ua (by rw[hg];exact hr) (by rw[hg];exact he) (by rw[hg];exact hz)),hg]
    rw[hz]at hB
    exact(Ve b id ei en es eh ed false 0 0 [] [] pol 0 0 [] 0 0 false e0 e1 e2 e3 (eN:Int) 0 _ q0 q1 q2 q3 q4 _ hN h0 h1 h2 h3 hW).2.2.2 rfl hE (Zs he) hB
theorem G4 [Known][KnownSc][KnownPow](b:List UInt8)(hb:b.length<=1000)(hk:(ZL (Zt (0,b)).2).1=1):AP Tryz.prog 71 [byE b] (YF b) []:=by
 have h0:=Ya (0,b) (by dsimp only;omega)
 have m0:=ZT (0,b)
 dsimp only at m0
 have h1:=Z2 (Zt (0,b)).2 (by omega)
 have m1:=ZS (Zt (0,b)).2
 have l0:=WS (ZL (Zt (0,b)).2).2
 have l1:=ZS (nmS (ZL (Zt (0,b)).2).2).2
 rw[show(Z5 1099511627776 (Zt (0,b)).2).1=1 from hk]at h1
 exact G3 b _ _ _ _ _ _ _ _ _ _ _ _ _ _ _ _ _ (Yy b (by omega)) h0 h1 (Wh (ZL (Zt (0,b)).2).2 (by omega)) (Z2 (nmS (ZL (Zt (0,b)).2).2).2 (by omega)) (by unfold ZI;rw[hk];rfl)
theorem G5 [Known][KnownPow](b:List UInt8)(id:Nat)(ei:Bool)(en:Nat)(es:Nat)(eh:List UInt8)(ed:List UInt8)(e0 e1 e2:Int)(eN:Nat)(q0 q1 q2 q3:List UInt8)
  (hN:AQ Tryz.prog 68 [.sl .ext (b.map E.byte)] [] (.ptr 0 0) [[.int .i64 e0,.bool true,.sl .ext (q0.map E.byte)]]) (h0:AQ Tryz.prog 69 [.ptr 0 0] [[.int .i64 e0,.bool true,.sl .ext (q0.map E.byte)]] (.int .u64 (id:Int)) [[.int .i64 e1,.bool true,.sl .ext (q1.map E.byte)]]) (h1:AQ Tryz.prog 70 [.ptr 0 0] [[.int .i64 e1,.bool true,.sl .ext (q1.map E.byte)]] (.int .i64 2) [[.int .i64 e2,.bool true,.sl .ext (q2.map E.byte)]])
  (h2:AQ Tryz.prog 99 [.ptr 0 0] [[.int .i64 e2,.bool true,.sl .ext (q2.map E.byte)]] (.agg [.bool ei,.int .u64 (en:Int),.int .u64 (es:Int),.str eh,.str ed]) [[.int .i64 (eN:Int),.bool true,.sl .ext (q3.map E.byte)]])
  (hg:ZI b=((⟨id,2,⟨ei,en,es,eh,ed⟩,ZD,0,0,0,[],0,0,false⟩:RqV),(eN,q3))):AP Tryz.prog 71 [.sl .ext (b.map E.byte)] (YF b) []:=by
 have hE:=Yz (eN,q3)
 have hB:=YB (ZH (⟨id,2,⟨ei,en,es,eh,ed⟩,ZD,0,0,0,[],0,0,false⟩:RqV)) b
 cases hr:ZQ (⟨id,2,⟨ei,en,es,eh,ed⟩,ZD,0,0,0,[],0,0,false⟩:RqV) with
 | false=>
  rw[ZC (V7 (by rw[hg];exact hr))]
  exact(Vf b id ei en es eh ed false 0 0 [] [] 0 0 0 [] 0 0 false e0 e1 e2 (eN:Int) 3 0 q0 q1 q2 q3 [] hN h0 h1 h2 (WA _ hr)).1 rfl
 | true=>
  have hW:=YZ _ hr
  cases he:(WW (eN,q3)==0) with
  | false=>
   rw[ZC (V8 (by rw[hg];exact he))]
   exact(Vf b id ei en es eh ed false 0 0 [] [] 0 0 0 [] 0 0 false e0 e1 e2 (eN:Int) 0 _ q0 q1 q2 q3 _ hN h0 h1 h2 hW).2.1 rfl hE (Zs he)
  | true=>
   cases hz:(ZH (⟨id,2,⟨ei,en,es,eh,ed⟩,ZD,0,0,0,[],0,0,false⟩:RqV)==b) with
   | false=>
    rw[ZC (V9 (by rw[hg];exact hz))]
    rw[hz]at hB
    exact(Vf b id ei en es eh ed false 0 0 [] [] 0 0 0 [] 0 0 false e0 e1 e2 (eN:Int) 0 _ q0 q1 q2 q3 _ hN h0 h1 h2 hW).2.2.1 rfl hE (Zs he) hB
   | true=>
    rw[Z1 (Ua (by rw[hg];exact hr) (by rw[hg];exact he) (by rw[hg];exact hz)),hg]
    rw[hz]at hB
    exact(Vf b id ei en es eh ed false 0 0 [] [] 0 0 0 [] 0 0 false e0 e1 e2 (eN:Int) 0 _ q0 q1 q2 q3 _ hN h0 h1 h2 hW).2.2.2 rfl hE (Zs he) hB
theorem G6 [Known][KnownSc][KnownPow](b:List UInt8)(hb:b.length<=1000)(hk:(ZL (Zt (0,b)).2).1=2):AP Tryz.prog 71 [byE b] (YF b) []:=by
 have h0:=Ya (0,b) (by dsimp only;omega)
 have m0:=ZT (0,b)
 dsimp only at m0
 have h1:=Z2 (Zt (0,b)).2 (by omega)
 have m1:=ZS (Zt (0,b)).2
 have l0:=WS (ZL (Zt (0,b)).2).2
 rw[show(Z5 1099511627776 (Zt (0,b)).2).1=2 from hk]at h1
 exact G5 b _ _ _ _ _ _ _ _ _ _ _ _ _ _ (Yy b (by omega)) h0 h1 (Wh (ZL (Zt (0,b)).2).2 (by omega)) (by unfold ZI;rw[hk];rfl)
theorem G7 [Known][KnownPow](b:List UInt8)(id:Nat)(ei:Bool)(en:Nat)(es:Nat)(eh:List UInt8)(ed:List UInt8)(pol:Int)(e0 e1 e2 e3:Int)(eN:Nat)(q0 q1 q2 q3 q4:List UInt8)
  (hN:AQ Tryz.prog 68 [.sl .ext (b.map E.byte)] [] (.ptr 0 0) [[.int .i64 e0,.bool true,.sl .ext (q0.map E.byte)]]) (h0:AQ Tryz.prog 69 [.ptr 0 0] [[.int .i64 e0,.bool true,.sl .ext (q0.map E.byte)]] (.int .u64 (id:Int)) [[.int .i64 e1,.bool true,.sl .ext (q1.map E.byte)]]) (h1:AQ Tryz.prog 70 [.ptr 0 0] [[.int .i64 e1,.bool true,.sl .ext (q1.map E.byte)]] (.int .i64 3) [[.int .i64 e2,.bool true,.sl .ext (q2.map E.byte)]])
  (h2:AQ Tryz.prog 99 [.ptr 0 0] [[.int .i64 e2,.bool true,.sl .ext (q2.map E.byte)]] (.agg [.bool ei,.int .u64 (en:Int),.int .u64 (es:Int),.str eh,.str ed]) [[.int .i64 e3,.bool true,.sl .ext (q3.map E.byte)]])
  (h3:AQ Tryz.prog 70 [.ptr 0 0] [[.int .i64 e3,.bool true,.sl .ext (q3.map E.byte)]] (.int .i64 pol) [[.int .i64 (eN:Int),.bool true,.sl .ext (q4.map E.byte)]])
  (hg:ZI b=((⟨id,3,⟨ei,en,es,eh,ed⟩,ZD,pol,0,0,[],0,0,false⟩:RqV),(eN,q4))):AP Tryz.prog 71 [.sl .ext (b.map E.byte)] (YF b) []:=by
 have hE:=Yz (eN,q4)
 have hB:=YB (ZH (⟨id,3,⟨ei,en,es,eh,ed⟩,ZD,pol,0,0,[],0,0,false⟩:RqV)) b
 cases hr:ZQ (⟨id,3,⟨ei,en,es,eh,ed⟩,ZD,pol,0,0,[],0,0,false⟩:RqV) with
 | false=>
  rw[ZC (V7 (by rw[hg];exact hr))]
  exact(Vg b id ei en es eh ed false 0 0 [] [] pol 0 0 [] 0 0 false e0 e1 e2 e3 (eN:Int) 3 0 q0 q1 q2 q3 q4 [] hN h0 h1 h2 h3 (WA _ hr)).1 rfl
 | true=>
  have hW:=YZ _ hr
  cases he:(WW (eN,q4)==0) with
  | false=>
   rw[ZC (V8 (by rw[hg];exact he))]
   exact(Vg b id ei en es eh ed false 0 0 [] [] pol 0 0 [] 0 0 false e0 e1 e2 e3 (eN:Int) 0 _ q0 q1 q2 q3 q4 _ hN h0 h1 h2 h3 hW).2.1 rfl hE (Zs he)
  | true=>
   cases hz:(ZH (⟨id,3,⟨ei,en,es,eh,ed⟩,ZD,pol,0,0,[],0,0,false⟩:RqV)==b) with
   | false=>
    rw[ZC (V9 (by rw[hg];exact hz))]
    rw[hz]at hB
    exact(Vg b id ei en es eh ed false 0 0 [] [] pol 0 0 [] 0 0 false e0 e1 e2 e3 (eN:Int) 0 _ q0 q1 q2 q3 q4 _ hN h0 h1 h2 h3 hW).2.2.1 rfl hE (Zs he) hB
   | true=>
    rw[Z1 (Ua (by rw[hg];exact hr) (by rw[hg];exact he) (by rw[hg];exact hz)),hg]
    rw[hz]at hB
    exact(Vg b id ei en es eh ed false 0 0 [] [] pol 0 0 [] 0 0 false e0 e1 e2 e3 (eN:Int) 0 _ q0 q1 q2 q3 q4 _ hN h0 h1 h2 h3 hW).2.2.2 rfl hE (Zs he) hB
theorem G8 [Known][KnownSc][KnownPow](b:List UInt8)(hb:b.length<=1000)(hk:(ZL (Zt (0,b)).2).1=3):AP Tryz.prog 71 [byE b] (YF b) []:=by
 have h0:=Ya (0,b) (by dsimp only;omega)
 have m0:=ZT (0,b)
 dsimp only at m0
 have h1:=Z2 (Zt (0,b)).2 (by omega)
 have m1:=ZS (Zt (0,b)).2
 have l0:=WS (ZL (Zt (0,b)).2).2
 have l1:=ZS (nmS (ZL (Zt (0,b)).2).2).2
 rw[show(Z5 1099511627776 (Zt (0,b)).2).1=3 from hk]at h1
 exact G7 b _ _ _ _ _ _ _ _ _ _ _ _ _ _ _ _ _ (Yy b (by omega)) h0 h1 (Wh (ZL (Zt (0,b)).2).2 (by omega)) (Z2 (nmS (ZL (Zt (0,b)).2).2).2 (by omega)) (by unfold ZI;rw[hk];rfl)
theorem G9 [Known][KnownPow](b:List UInt8)(id:Nat)(ei:Bool)(en:Nat)(es:Nat)(eh:List UInt8)(ed:List UInt8)(di:Bool)(dn:Nat)(dq:Nat)(dh:List UInt8)(dd:List UInt8)(pay:List UInt8)(life:Nat)(on:Bool)(e0 e1 e2 e3 e4 e5 e6:Int)(eN:Nat)(q0 q1 q2 q3 q4 q5 q6 q7:List UInt8)
  (hN:AQ Tryz.prog 68 [.sl .ext (b.map E.byte)] [] (.ptr 0 0) [[.int .i64 e0,.bool true,.sl .ext (q0.map E.byte)]]) (h0:AQ Tryz.prog 69 [.ptr 0 0] [[.int .i64 e0,.bool true,.sl .ext (q0.map E.byte)]] (.int .u64 (id:Int)) [[.int .i64 e1,.bool true,.sl .ext (q1.map E.byte)]]) (h1:AQ Tryz.prog 70 [.ptr 0 0] [[.int .i64 e1,.bool true,.sl .ext (q1.map E.byte)]] (.int .i64 4) [[.int .i64 e2,.bool true,.sl .ext (q2.map E.byte)]])
  (h2:AQ Tryz.prog 99 [.ptr 0 0] [[.int .i64 e2,.bool true,.sl .ext (q2.map E.byte)]] (.agg [.bool ei,.int .u64 (en:Int),.int .u64 (es:Int),.str eh,.str ed]) [[.int .i64 e3,.bool true,.sl .ext (q3.map E.byte)]])
  (h3:AQ Tryz.prog 99 [.ptr 0 0] [[.int .i64 e3,.bool true,.sl .ext (q3.map E.byte)]] (.agg [.bool di,.int .u64 (dn:Int),.int .u64 (dq:Int),.str dh,.str dd]) [[.int .i64 e4,.bool true,.sl .ext (q4.map E.byte)]])
  (h4:AQ Tryz.prog 72 [.ptr 0 0] [[.int .i64 e4,.bool true,.sl .ext (q4.map E.byte)]] (.sl .ext (pay.map E.byte)) [[.int .i64 e5,.bool true,.sl .ext (q5.map E.byte)]])
  (h5:AQ Tryz.prog 69 [.ptr 0 0] [[.int .i64 e5,.bool true,.sl .ext (q5.map E.byte)]] (.int .u64 (life:Int)) [[.int .i64 e6,.bool true,.sl .ext (q6.map E.byte)]])
  (h6:AQ Tryz.prog 100 [.ptr 0 0] [[.int .i64 e6,.bool true,.sl .ext (q6.map E.byte)]] (.bool on) [[.int .i64 (eN:Int),.bool true,.sl .ext (q7.map E.byte)]])
  (hg:ZI b=((⟨id,4,⟨ei,en,es,eh,ed⟩,⟨di,dn,dq,dh,dd⟩,0,0,0,pay,life,0,on⟩:RqV),(eN,q7))):AP Tryz.prog 71 [.sl .ext (b.map E.byte)] (YF b) []:=by
 have hE:=Yz (eN,q7)
 have hB:=YB (ZH (⟨id,4,⟨ei,en,es,eh,ed⟩,⟨di,dn,dq,dh,dd⟩,0,0,0,pay,life,0,on⟩:RqV)) b
 cases hr:ZQ (⟨id,4,⟨ei,en,es,eh,ed⟩,⟨di,dn,dq,dh,dd⟩,0,0,0,pay,life,0,on⟩:RqV) with
 | false=>
  rw[ZC (V7 (by rw[hg];exact hr))]
  exact(Vh b id ei en es eh ed di dn dq dh dd 0 0 0 pay life 0 on e0 e1 e2 e3 e4 e5 e6 (eN:Int) 3 0 q0 q1 q2 q3 q4 q5 q6 q7 [] hN h0 h1 h2 h3 h4 h5 h6 (WA _ hr)).1 rfl
 | true=>
  have hW:=YZ _ hr
  cases he:(WW (eN,q7)==0) with
  | false=>
   rw[ZC (V8 (by rw[hg];exact he))]
   exact(Vh b id ei en es eh ed di dn dq dh dd 0 0 0 pay life 0 on e0 e1 e2 e3 e4 e5 e6 (eN:Int) 0 _ q0 q1 q2 q3 q4 q5 q6 q7 _ hN h0 h1 h2 h3 h4 h5 h6 hW).2.1 rfl hE (Zs he)
  | true=>
   cases hz:(ZH (⟨id,4,⟨ei,en,es,eh,ed⟩,⟨di,dn,dq,dh,dd⟩,0,0,0,pay,life,0,on⟩:RqV)==b) with
   | false=>
    rw[ZC (V9 (by rw[hg];exact hz))]
    rw[hz]at hB
    exact(Vh b id ei en es eh ed di dn dq dh dd 0 0 0 pay life 0 on e0 e1 e2 e3 e4 e5 e6 (eN:Int) 0 _ q0 q1 q2 q3 q4 q5 q6 q7 _ hN h0 h1 h2 h3 h4 h5 h6 hW).2.2.1 rfl hE (Zs he) hB
   | true=>
    rw[Z1 (Ua (by rw[hg];exact hr) (by rw[hg];exact he) (by rw[hg];exact hz)),hg]
    rw[hz]at hB
    exact(Vh b id ei en es eh ed di dn dq dh dd 0 0 0 pay life 0 on e0 e1 e2 e3 e4 e5 e6 (eN:Int) 0 _ q0 q1 q2 q3 q4 q5 q6 q7 _ hN h0 h1 h2 h3 h4 h5 h6 hW).2.2.2 rfl hE (Zs he) hB
theorem Ha [Known][KnownSc][KnownPow](b:List UInt8)(hb:b.length<=1000)(hk:(ZL (Zt (0,b)).2).1=4):AP Tryz.prog 71 [byE b] (YF b) []:=by
 rcases ha:Zt (0,b) with⟨id,s1⟩
 rw[ha]at hk
 dsimp only at hk
 rcases hk2:ZL s1 with⟨k,s2⟩
 rw[hk2]at hk
 dsimp only at hk
 subst hk
 rcases hp:nmS s2 with⟨ep,s3⟩
 rcases hq:nmS s3 with⟨ds,s4⟩
 rcases ht:VA s4 with⟨pay,s5⟩
 rcases hl:Zt s5 with⟨life,s6⟩
 rcases ho:X1 s6 with⟨on,s7⟩
 have h0:=Ya (0,b) (by dsimp only;omega)
 have m0:=ZT (0,b)
 rw[ha]at h0 m0
 dsimp only at h0 m0
 have h1:=Z2 s1 (by omega)
 have m1:=ZS s1
 have hk3:Z5 1099511627776 s1=(4,s2):=hk2
 rw[hk3]at h1
 rw[hk2]at m1
 dsimp only at h1 m1
 have h2:=Wh s2 (by omega)
 have m2:=WS s2
 rw[hp]at h2 m2
 dsimp only at h2 m2
 have h3:=Wh s3 (by omega)
 have m3:=WS s3
 rw[hq]at h3 m3
 dsimp only at h3 m3
 have h4:=Jt s4 (by omega)
 have m4:=(UP s4).1
 rw[ht]at h4 m4
 dsimp only at h4 m4
 have h5:=Ya s5 (by omega)
 have m5:=ZT s5
 rw[hl]at h5 m5
 dsimp only at h5 m5
 have h6:=Js s6 (by omega)
 have e1:(((Z5 1 s6).1:Int)==1)=on:=congrArg Prod.fst ho
 have e2:(Z5 1 s6).2=s7:=congrArg Prod.snd ho
 rw[e1,e2]at h6
 have hg:ZI b=((⟨id,4,ep,ds,0,0,0,pay,life,0,on⟩:RqV),s7):=by
  unfold ZI
  rw[ha]
  dsimp only
  rw[hk2]
  dsimp only
  simp only[J2,Nat.reduceBEq,Bool.or_self,Bool.false_eq_true,if_false,if_true,hp,hq,ht,hl,ho]
  rfl
 clear ha hk2 hk3 hp hq ht hl ho e1 e2 m0 m1 m2 m3 m4 m5
 obtain⟨ei,en,es,eh,ed⟩:=ep
 obtain⟨di,dn,dq,dh,dd⟩:=ds
 obtain⟨a1,a2⟩:=s1
 obtain⟨b1,b2⟩:=s2
 obtain⟨c1,c2⟩:=s3
 obtain⟨d1,d2⟩:=s4
 obtain⟨f1,f2⟩:=s5
 obtain⟨g1,g2⟩:=s6
 obtain⟨i1,i2⟩:=s7
 exact G9 b id ei en es eh ed di dn dq dh dd pay life on 0 (a1:Int) (b1:Int) (c1:Int) (d1:Int) (f1:Int) (g1:Int) i1 b a2 b2 c2 d2 f2 g2 i2 (Yy b (by omega)) h0 h1 h2 h3 h4 h5 h6 hg
theorem Hb [Known][KnownPow](b:List UInt8)(id:Nat)(num:Int)(e0 e1 e2:Int)(eN:Nat)(q0 q1 q2 q3:List UInt8)
  (hN:AQ Tryz.prog 68 [.sl .ext (b.map E.byte)] [] (.ptr 0 0) [[.int .i64 e0,.bool true,.sl .ext (q0.map E.byte)]]) (h0:AQ Tryz.prog 69 [.ptr 0 0] [[.int .i64 e0,.bool true,.sl .ext (q0.map E.byte)]] (.int .u64 (id:Int)) [[.int .i64 e1,.bool true,.sl .ext (q1.map E.byte)]]) (h1:AQ Tryz.prog 70 [.ptr 0 0] [[.int .i64 e1,.bool true,.sl .ext (q1.map E.byte)]] (.int .i64 5) [[.int .i64 e2,.bool true,.sl .ext (q2.map E.byte)]])
  (h2:AQ Tryz.prog 70 [.ptr 0 0] [[.int .i64 e2,.bool true,.sl .ext (q2.map E.byte)]] (.int .i64 num) [[.int .i64 (eN:Int),.bool true,.sl .ext (q3.map E.byte)]])
  (hg:ZI b=((⟨id,5,ZD,ZD,0,num,0,[],0,0,false⟩:RqV),(eN,q3))):AP Tryz.prog 71 [.sl .ext (b.map E.byte)] (YF b) []:=by
 have hE:=Yz (eN,q3)
 have hB:=YB (ZH (⟨id,5,ZD,ZD,0,num,0,[],0,0,false⟩:RqV)) b
 cases hr:ZQ (⟨id,5,ZD,ZD,0,num,0,[],0,0,false⟩:RqV) with
 | false=>
  rw[ZC (V7 (by rw[hg];exact hr))]
  exact(Vi b id false 0 0 [] [] false 0 0 [] [] 0 num 0 [] 0 0 false e0 e1 e2 (eN:Int) 3 0 q0 q1 q2 q3 [] hN h0 h1 h2 (WA _ hr)).1 rfl
 | true=>
  have hW:=YZ _ hr
  cases he:(WW (eN,q3)==0) with
  | false=>
   rw[ZC (V8 (by rw[hg];exact he))]
   exact(Vi b id false 0 0 [] [] false 0 0 [] [] 0 num 0 [] 0 0 false e0 e1 e2 (eN:Int) 0 _ q0 q1 q2 q3 _ hN h0 h1 h2 hW).2.1 rfl hE (Zs he)
  | true=>
   cases hz:(ZH (⟨id,5,ZD,ZD,0,num,0,[],0,0,false⟩:RqV)==b) with
   | false=>
    rw[ZC (V9 (by rw[hg];exact hz))]
    rw[hz]at hB
    exact(Vi b id false 0 0 [] [] false 0 0 [] [] 0 num 0 [] 0 0 false e0 e1 e2 (eN:Int) 0 _ q0 q1 q2 q3 _ hN h0 h1 h2 hW).2.2.1 rfl hE (Zs he) hB
   | true=>
    rw[Z1 (Ua (by rw[hg];exact hr) (by rw[hg];exact he) (by rw[hg];exact hz)),hg]
    rw[hz]at hB
    exact(Vi b id false 0 0 [] [] false 0 0 [] [] 0 num 0 [] 0 0 false e0 e1 e2 (eN:Int) 0 _ q0 q1 q2 q3 _ hN h0 h1 h2 hW).2.2.2 rfl hE (Zs he) hB
theorem Hc [Known][KnownSc][KnownPow](b:List UInt8)(hb:b.length<=1000)(hk:(ZL (Zt (0,b)).2).1=5):AP Tryz.prog 71 [byE b] (YF b) []:=by
 have h0:=Ya (0,b) (by dsimp only;omega)
 have m0:=ZT (0,b)
 dsimp only at m0
 have h1:=Z2 (Zt (0,b)).2 (by omega)
 have m1:=ZS (Zt (0,b)).2
 have l0:=ZS (ZL (Zt (0,b)).2).2
 rw[show(Z5 1099511627776 (Zt (0,b)).2).1=5 from hk]at h1
 exact Hb b _ _ _ _ _ _ _ _ _ _ (Yy b (by omega)) h0 h1 (Z2 (ZL (Zt (0,b)).2).2 (by omega)) (by unfold ZI;rw[hk];rfl)
theorem Hd [Known][KnownPow](b:List UInt8)(id:Nat)(ei:Bool)(en:Nat)(es:Nat)(eh:List UInt8)(ed:List UInt8)(e0 e1 e2:Int)(eN:Nat)(q0 q1 q2 q3:List UInt8)
  (hN:AQ Tryz.prog 68 [.sl .ext (b.map E.byte)] [] (.ptr 0 0) [[.int .i64 e0,.bool true,.sl .ext (q0.map E.byte)]]) (h0:AQ Tryz.prog 69 [.ptr 0 0] [[.int .i64 e0,.bool true,.sl .ext (q0.map E.byte)]] (.int .u64 (id:Int)) [[.int .i64 e1,.bool true,.sl .ext (q1.map E.byte)]]) (h1:AQ Tryz.prog 70 [.ptr 0 0] [[.int .i64 e1,.bool true,.sl .ext (q1.map E.byte)]] (.int .i64 6) [[.int .i64 e2,.bool true,.sl .ext (q2.map E.byte)]])
  (h2:AQ Tryz.prog 99 [.ptr 0 0] [[.int .i64 e2,.bool true,.sl .ext (q2.map E.byte)]] (.agg [.bool ei,.int .u64 (en:Int),.int .u64 (es:Int),.str eh,.str ed]) [[.int .i64 (eN:Int),.bool true,.sl .ext (q3.map E.byte)]])
  (hg:ZI b=((⟨id,6,⟨ei,en,es,eh,ed⟩,ZD,0,0,0,[],0,0,false⟩:RqV),(eN,q3))):AP Tryz.prog 71 [.sl .ext (b.map E.byte)] (YF b) []:=by
 have hE:=Yz (eN,q3)
 have hB:=YB (ZH (⟨id,6,⟨ei,en,es,eh,ed⟩,ZD,0,0,0,[],0,0,false⟩:RqV)) b
 cases hr:ZQ (⟨id,6,⟨ei,en,es,eh,ed⟩,ZD,0,0,0,[],0,0,false⟩:RqV) with
 | false=>
  rw[ZC (V7 (by rw[hg];exact hr))]
  exact(Vj b id ei en es eh ed false 0 0 [] [] 0 0 0 [] 0 0 false e0 e1 e2 (eN:Int) 3 0 q0 q1 q2 q3 [] hN h0 h1 h2 (WA _ hr)).1 rfl
 | true=>
  have hW:=YZ _ hr
  cases he:(WW (eN,q3)==0) with
  | false=>
   rw[ZC (V8 (by rw[hg];exact he))]
   exact(Vj b id ei en es eh ed false 0 0 [] [] 0 0 0 [] 0 0 false e0 e1 e2 (eN:Int) 0 _ q0 q1 q2 q3 _ hN h0 h1 h2 hW).2.1 rfl hE (Zs he)
  | true=>
   cases hz:(ZH (⟨id,6,⟨ei,en,es,eh,ed⟩,ZD,0,0,0,[],0,0,false⟩:RqV)==b) with
   | false=>
    rw[ZC (V9 (by rw[hg];exact hz))]
    rw[hz]at hB
    exact(Vj b id ei en es eh ed false 0 0 [] [] 0 0 0 [] 0 0 false e0 e1 e2 (eN:Int) 0 _ q0 q1 q2 q3 _ hN h0 h1 h2 hW).2.2.1 rfl hE (Zs he) hB
   | true=>
    rw[Z1 (Ua (by rw[hg];exact hr) (by rw[hg];exact he) (by rw[hg];exact hz)),hg]
    rw[hz]at hB
    exact(Vj b id ei en es eh ed false 0 0 [] [] 0 0 0 [] 0 0 false e0 e1 e2 (eN:Int) 0 _ q0 q1 q2 q3 _ hN h0 h1 h2 hW).2.2.2 rfl hE (Zs he) hB
theorem He [Known][KnownSc][KnownPow](b:List UInt8)(hb:b.length<=1000)(hk:(ZL (Zt (0,b)).2).1=6):AP Tryz.prog 71 [byE b] (YF b) []:=by
 have h0:=Ya (0,b) (by dsimp only;omega)
 have m0:=ZT (0,b)
 dsimp only at m0
 have h1:=Z2 (Zt (0,b)).2 (by omega)
 have m1:=ZS (Zt (0,b)).2
 have l0:=WS (ZL (Zt (0,b)).2).2
 rw[show(Z5 1099511627776 (Zt (0,b)).2).1=6 from hk]at h1
 exact Hd b _ _ _ _ _ _ _ _ _ _ _ _ _ _ (Yy b (by omega)) h0 h1 (Wh (ZL (Zt (0,b)).2).2 (by omega)) (by unfold ZI;rw[hk];rfl)
theorem Hf [Known][KnownPow](b:List UInt8)(id:Nat)(ei:Bool)(en:Nat)(es:Nat)(eh:List UInt8)(ed:List UInt8)(tik:Int)(e0 e1 e2 e3:Int)(eN:Nat)(q0 q1 q2 q3 q4:List UInt8)
  (hN:AQ Tryz.prog 68 [.sl .ext (b.map E.byte)] [] (.ptr 0 0) [[.int .i64 e0,.bool true,.sl .ext (q0.map E.byte)]]) (h0:AQ Tryz.prog 69 [.ptr 0 0] [[.int .i64 e0,.bool true,.sl .ext (q0.map E.byte)]] (.int .u64 (id:Int)) [[.int .i64 e1,.bool true,.sl .ext (q1.map E.byte)]]) (h1:AQ Tryz.prog 70 [.ptr 0 0] [[.int .i64 e1,.bool true,.sl .ext (q1.map E.byte)]] (.int .i64 7) [[.int .i64 e2,.bool true,.sl .ext (q2.map E.byte)]])
  (h2:AQ Tryz.prog 99 [.ptr 0 0] [[.int .i64 e2,.bool true,.sl .ext (q2.map E.byte)]] (.agg [.bool ei,.int .u64 (en:Int),.int .u64 (es:Int),.str eh,.str ed]) [[.int .i64 e3,.bool true,.sl .ext (q3.map E.byte)]])
  (h3:AQ Tryz.prog 70 [.ptr 0 0] [[.int .i64 e3,.bool true,.sl .ext (q3.map E.byte)]] (.int .i64 tik) [[.int .i64 (eN:Int),.bool true,.sl .ext (q4.map E.byte)]])
  (hg:ZI b=((⟨id,7,⟨ei,en,es,eh,ed⟩,ZD,0,0,tik,[],0,0,false⟩:RqV),(eN,q4))):AP Tryz.prog 71 [.sl .ext (b.map E.byte)] (YF b) []:=by
 have hE:=Yz (eN,q4)
 have hB:=YB (ZH (⟨id,7,⟨ei,en,es,eh,ed⟩,ZD,0,0,tik,[],0,0,false⟩:RqV)) b
 cases hr:ZQ (⟨id,7,⟨ei,en,es,eh,ed⟩,ZD,0,0,tik,[],0,0,false⟩:RqV) with
 | false=>
  rw[ZC (V7 (by rw[hg];exact hr))]
  exact(Vk b id ei en es eh ed false 0 0 [] [] 0 0 tik [] 0 0 false e0 e1 e2 e3 (eN:Int) 3 0 q0 q1 q2 q3 q4 [] hN h0 h1 h2 h3 (WA _ hr)).1 rfl
 | true=>
  have hW:=YZ _ hr
  cases he:(WW (eN,q4)==0) with
  | false=>
   rw[ZC (V8 (by rw[hg];exact he))]
   exact(Vk b id ei en es eh ed false 0 0 [] [] 0 0 tik [] 0 0 false e0 e1 e2 e3 (eN:Int) 0 _ q0 q1 q2 q3 q4 _ hN h0 h1 h2 h3 hW).2.1 rfl hE (Zs he)
  | true=>
   cases hz:(ZH (⟨id,7,⟨ei,en,es,eh,ed⟩,ZD,0,0,tik,[],0,0,false⟩:RqV)==b) with
   | false=>
    rw[ZC (V9 (by rw[hg];exact hz))]
    rw[hz]at hB
    exact(Vk b id ei en es eh ed false 0 0 [] [] 0 0 tik [] 0 0 false e0 e1 e2 e3 (eN:Int) 0 _ q0 q1 q2 q3 q4 _ hN h0 h1 h2 h3 hW).2.2.1 rfl hE (Zs he) hB
   | true=>
    rw[Z1 (Ua (by rw[hg];exact hr) (by rw[hg];exact he) (by rw[hg];exact hz)),hg]
    rw[hz]at hB
    exact(Vk b id ei en es eh ed false 0 0 [] [] 0 0 tik [] 0 0 false e0 e1 e2 e3 (eN:Int) 0 _ q0 q1 q2 q3 q4 _ hN h0 h1 h2 h3 hW).2.2.2 rfl hE (Zs he) hB
theorem Hg [Known][KnownSc][KnownPow](b:List UInt8)(hb:b.length<=1000)(hk:(ZL (Zt (0,b)).2).1=7):AP Tryz.prog 71 [byE b] (YF b) []:=by
 have h0:=Ya (0,b) (by dsimp only;omega)
 have m0:=ZT (0,b)
 dsimp only at m0
 have h1:=Z2 (Zt (0,b)).2 (by omega)
 have m1:=ZS (Zt (0,b)).2
 have l0:=WS (ZL (Zt (0,b)).2).2
 have l1:=ZS (nmS (ZL (Zt (0,b)).2).2).2
 rw[show(Z5 1099511627776 (Zt (0,b)).2).1=7 from hk]at h1
 exact Hf b _ _ _ _ _ _ _ _ _ _ _ _ _ _ _ _ _ (Yy b (by omega)) h0 h1 (Wh (ZL (Zt (0,b)).2).2 (by omega)) (Z2 (nmS (ZL (Zt (0,b)).2).2).2 (by omega)) (by unfold ZI;rw[hk];rfl)
theorem Hh [Known][KnownPow](b:List UInt8)(id:Nat)(num:Int)(e0 e1 e2:Int)(eN:Nat)(q0 q1 q2 q3:List UInt8)
  (hN:AQ Tryz.prog 68 [.sl .ext (b.map E.byte)] [] (.ptr 0 0) [[.int .i64 e0,.bool true,.sl .ext (q0.map E.byte)]]) (h0:AQ Tryz.prog 69 [.ptr 0 0] [[.int .i64 e0,.bool true,.sl .ext (q0.map E.byte)]] (.int .u64 (id:Int)) [[.int .i64 e1,.bool true,.sl .ext (q1.map E.byte)]]) (h1:AQ Tryz.prog 70 [.ptr 0 0] [[.int .i64 e1,.bool true,.sl .ext (q1.map E.byte)]] (.int .i64 8) [[.int .i64 e2,.bool true,.sl .ext (q2.map E.byte)]])
  (h2:AQ Tryz.prog 70 [.ptr 0 0] [[.int .i64 e2,.bool true,.sl .ext (q2.map E.byte)]] (.int .i64 num) [[.int .i64 (eN:Int),.bool true,.sl .ext (q3.map E.byte)]])
  (hg:ZI b=((⟨id,8,ZD,ZD,0,num,0,[],0,0,false⟩:RqV),(eN,q3))):AP Tryz.prog 71 [.sl .ext (b.map E.byte)] (YF b) []:=by
 have hE:=Yz (eN,q3)
 have hB:=YB (ZH (⟨id,8,ZD,ZD,0,num,0,[],0,0,false⟩:RqV)) b
 cases hr:ZQ (⟨id,8,ZD,ZD,0,num,0,[],0,0,false⟩:RqV) with
 | false=>
  rw[ZC (V7 (by rw[hg];exact hr))]
  exact(Vl b id false 0 0 [] [] false 0 0 [] [] 0 num 0 [] 0 0 false e0 e1 e2 (eN:Int) 3 0 q0 q1 q2 q3 [] hN h0 h1 h2 (WA _ hr)).1 rfl
 | true=>
  have hW:=YZ _ hr
  cases he:(WW (eN,q3)==0) with
  | false=>
   rw[ZC (V8 (by rw[hg];exact he))]
   exact(Vl b id false 0 0 [] [] false 0 0 [] [] 0 num 0 [] 0 0 false e0 e1 e2 (eN:Int) 0 _ q0 q1 q2 q3 _ hN h0 h1 h2 hW).2.1 rfl hE (Zs he)
  | true=>
   cases hz:(ZH (⟨id,8,ZD,ZD,0,num,0,[],0,0,false⟩:RqV)==b) with
   | false=>
    rw[ZC (V9 (by rw[hg];exact hz))]
    rw[hz]at hB
    exact(Vl b id false 0 0 [] [] false 0 0 [] [] 0 num 0 [] 0 0 false e0 e1 e2 (eN:Int) 0 _ q0 q1 q2 q3 _ hN h0 h1 h2 hW).2.2.1 rfl hE (Zs he) hB
   | true=>
    rw[Z1 (Ua (by rw[hg];exact hr) (by rw[hg];exact he) (by rw[hg];exact hz)),hg]
    rw[hz]at hB
    exact(Vl b id false 0 0 [] [] false 0 0 [] [] 0 num 0 [] 0 0 false e0 e1 e2 (eN:Int) 0 _ q0 q1 q2 q3 _ hN h0 h1 h2 hW).2.2.2 rfl hE (Zs he) hB
theorem Hi [Known][KnownSc][KnownPow](b:List UInt8)(hb:b.length<=1000)(hk:(ZL (Zt (0,b)).2).1=8):AP Tryz.prog 71 [byE b] (YF b) []:=by
 have h0:=Ya (0,b) (by dsimp only;omega)
 have m0:=ZT (0,b)
 dsimp only at m0
 have h1:=Z2 (Zt (0,b)).2 (by omega)
 have m1:=ZS (Zt (0,b)).2
 have l0:=ZS (ZL (Zt (0,b)).2).2
 rw[show(Z5 1099511627776 (Zt (0,b)).2).1=8 from hk]at h1
 exact Hh b _ _ _ _ _ _ _ _ _ _ (Yy b (by omega)) h0 h1 (Z2 (ZL (Zt (0,b)).2).2 (by omega)) (by unfold ZI;rw[hk];rfl)
theorem Hj [Known][KnownPow](b:List UInt8)(id:Nat)(num:Int)(e0 e1 e2:Int)(eN:Nat)(q0 q1 q2 q3:List UInt8)
  (hN:AQ Tryz.prog 68 [.sl .ext (b.map E.byte)] [] (.ptr 0 0) [[.int .i64 e0,.bool true,.sl .ext (q0.map E.byte)]]) (h0:AQ Tryz.prog 69 [.ptr 0 0] [[.int .i64 e0,.bool true,.sl .ext (q0.map E.byte)]] (.int .u64 (id:Int)) [[.int .i64 e1,.bool true,.sl .ext (q1.map E.byte)]]) (h1:AQ Tryz.prog 70 [.ptr 0 0] [[.int .i64 e1,.bool true,.sl .ext (q1.map E.byte)]] (.int .i64 9) [[.int .i64 e2,.bool true,.sl .ext (q2.map E.byte)]])
  (h2:AQ Tryz.prog 70 [.ptr 0 0] [[.int .i64 e2,.bool true,.sl .ext (q2.map E.byte)]] (.int .i64 num) [[.int .i64 (eN:Int),.bool true,.sl .ext (q3.map E.byte)]])
  (hg:ZI b=((⟨id,9,ZD,ZD,0,num,0,[],0,0,false⟩:RqV),(eN,q3))):AP Tryz.prog 71 [.sl .ext (b.map E.byte)] (YF b) []:=by
 have hE:=Yz (eN,q3)
 have hB:=YB (ZH (⟨id,9,ZD,ZD,0,num,0,[],0,0,false⟩:RqV)) b
 cases hr:ZQ (⟨id,9,ZD,ZD,0,num,0,[],0,0,false⟩:RqV) with
 | false=>
  rw[ZC (V7 (by rw[hg];exact hr))]
  exact(Vm b id false 0 0 [] [] false 0 0 [] [] 0 num 0 [] 0 0 false e0 e1 e2 (eN:Int) 3 0 q0 q1 q2 q3 [] hN h0 h1 h2 (WA _ hr)).1 rfl
 | true=>
  have hW:=YZ _ hr
  cases he:(WW (eN,q3)==0) with
  | false=>
   rw[ZC (V8 (by rw[hg];exact he))]
   exact(Vm b id false 0 0 [] [] false 0 0 [] [] 0 num 0 [] 0 0 false e0 e1 e2 (eN:Int) 0 _ q0 q1 q2 q3 _ hN h0 h1 h2 hW).2.1 rfl hE (Zs he)
  | true=>
   cases hz:(ZH (⟨id,9,ZD,ZD,0,num,0,[],0,0,false⟩:RqV)==b) with
   | false=>
    rw[ZC (V9 (by rw[hg];exact hz))]
    rw[hz]at hB
    exact(Vm b id false 0 0 [] [] false 0 0 [] [] 0 num 0 [] 0 0 false e0 e1 e2 (eN:Int) 0 _ q0 q1 q2 q3 _ hN h0 h1 h2 hW).2.2.1 rfl hE (Zs he) hB
   | true=>
    rw[Z1 (Ua (by rw[hg];exact hr) (by rw[hg];exact he) (by rw[hg];exact hz)),hg]
    rw[hz]at hB
    exact(Vm b id false 0 0 [] [] false 0 0 [] [] 0 num 0 [] 0 0 false e0 e1 e2 (eN:Int) 0 _ q0 q1 q2 q3 _ hN h0 h1 h2 hW).2.2.2 rfl hE (Zs he) hB
theorem Hk [Known][KnownSc][KnownPow](b:List UInt8)(hb:b.length<=1000)(hk:(ZL (Zt (0,b)).2).1=9):AP Tryz.prog 71 [byE b] (YF b) []:=by
 have h0:=Ya (0,b) (by dsimp only;omega)
 have m0:=ZT (0,b)
 dsimp only at m0
 have h1:=Z2 (Zt (0,b)).2 (by omega)
 have m1:=ZS (Zt (0,b)).2
 have l0:=ZS (ZL (Zt (0,b)).2).2
 rw[show(Z5 1099511627776 (Zt (0,b)).2).1=9 from hk]at h1
 exact Hj b _ _ _ _ _ _ _ _ _ _ (Yy b (by omega)) h0 h1 (Z2 (ZL (Zt (0,b)).2).2 (by omega)) (by unfold ZI;rw[hk];rfl)
theorem Ga [Known][KnownPow](b:List UInt8)(id:Nat)(on:Bool)(e0 e1 e2:Int)(eN:Nat)(q0 q1 q2 q3:List UInt8)
  (hN:AQ Tryz.prog 68 [.sl .ext (b.map E.byte)] [] (.ptr 0 0) [[.int .i64 e0,.bool true,.sl .ext (q0.map E.byte)]]) (h0:AQ Tryz.prog 69 [.ptr 0 0] [[.int .i64 e0,.bool true,.sl .ext (q0.map E.byte)]] (.int .u64 (id:Int)) [[.int .i64 e1,.bool true,.sl .ext (q1.map E.byte)]]) (h1:AQ Tryz.prog 70 [.ptr 0 0] [[.int .i64 e1,.bool true,.sl .ext (q1.map E.byte)]] (.int .i64 10) [[.int .i64 e2,.bool true,.sl .ext (q2.map E.byte)]])
  (h2:AQ Tryz.prog 100 [.ptr 0 0] [[.int .i64 e2,.bool true,.sl .ext (q2.map E.byte)]] (.bool on) [[.int .i64 (eN:Int),.bool true,.sl .ext (q3.map E.byte)]])
  (hg:ZI b=((⟨id,10,ZD,ZD,0,0,0,[],0,0,on⟩:RqV),(eN,q3))):AP Tryz.prog 71 [.sl .ext (b.map E.byte)] (YF b) []:=by
 have hE:=Yz (eN,q3)
 have hB:=YB (ZH (⟨id,10,ZD,ZD,0,0,0,[],0,0,on⟩:RqV)) b
 cases hr:ZQ (⟨id,10,ZD,ZD,0,0,0,[],0,0,on⟩:RqV) with
 | false=>
  rw[ZC (V7 (by rw[hg];exact hr))]
  exact(WP b id false 0 0 [] [] false 0 0 [] [] 0 0 0 [] 0 0 on e0 e1 e2 (eN:Int) 3 0 q0 q1 q2 q3 [] hN h0 h1 h2 (WA _ hr)).1 rfl
 | true=>
  have hW:=YZ _ hr
  cases he:(WW (eN,q3)==0) with
  | false=>
   rw[ZC (V8 (by rw[hg];exact he))]
   exact(WP b id false 0 0 [] [] false 0 0 [] [] 0 0 0 [] 0 0 on e0 e1 e2 (eN:Int) 0 _ q0 q1 q2 q3 _ hN h0 h1 h2 hW).2.1 rfl hE (Zs he)
  | true=>
   cases hz:(ZH (⟨id,10,ZD,ZD,0,0,0,[],0,0,on⟩:RqV)==b) with
   | false=>
    rw[ZC (V9 (by rw[hg];exact hz))]
    rw[hz]at hB
    exact(WP b id false 0 0 [] [] false 0 0 [] [] 0 0 0 [] 0 0 on e0 e1 e2 (eN:Int) 0 _ q0 q1 q2 q3 _ hN h0 h1 h2 hW).2.2.1 rfl hE (Zs he) hB
   | true=>
    rw[Z1 (Ua (by rw[hg];exact hr) (by rw[hg];exact he) (by rw[hg];exact hz)),hg]
    rw[hz]at hB
    exact(WP b id false 0 0 [] [] false 0 0 [] [] 0 0 0 [] 0 0 on e0 e1 e2 (eN:Int) 0 _ q0 q1 q2 q3 _ hN h0 h1 h2 hW).2.2.2 rfl hE (Zs he) hB
theorem Gb [Known][KnownSc][KnownPow](b:List UInt8)(hb:b.length<=1000)(hk:(ZL (Zt (0,b)).2).1=10):AP Tryz.prog 71 [byE b] (YF b) []:=by
 have h0:=Ya (0,b) (by dsimp only;omega)
 have m0:=ZT (0,b)
 dsimp only at m0
 have h1:=Z2 (Zt (0,b)).2 (by omega)
 have m1:=ZS (Zt (0,b)).2
 have l0:=KV (ZL (Zt (0,b)).2).2
 rw[show(Z5 1099511627776 (Zt (0,b)).2).1=10 from hk]at h1
 exact Ga b _ _ _ _ _ _ _ _ _ _ (Yy b (by omega)) h0 h1 (Js (ZL (Zt (0,b)).2).2 (by omega)) (by unfold ZI;rw[hk];rfl)
theorem Gc [Known][KnownPow](b:List UInt8)(id:Nat)(e0 e1:Int)(eN:Nat)(q0 q1 q2:List UInt8)
  (hN:AQ Tryz.prog 68 [.sl .ext (b.map E.byte)] [] (.ptr 0 0) [[.int .i64 e0,.bool true,.sl .ext (q0.map E.byte)]]) (h0:AQ Tryz.prog 69 [.ptr 0 0] [[.int .i64 e0,.bool true,.sl .ext (q0.map E.byte)]] (.int .u64 (id:Int)) [[.int .i64 e1,.bool true,.sl .ext (q1.map E.byte)]]) (h1:AQ Tryz.prog 70 [.ptr 0 0] [[.int .i64 e1,.bool true,.sl .ext (q1.map E.byte)]] (.int .i64 11) [[.int .i64 (eN:Int),.bool true,.sl .ext (q2.map E.byte)]])
  (hg:ZI b=((⟨id,11,ZD,ZD,0,0,0,[],0,0,false⟩:RqV),(eN,q2))):AP Tryz.prog 71 [.sl .ext (b.map E.byte)] (YF b) []:=by
 have hE:=Yz (eN,q2)
 have hB:=YB (ZH (⟨id,11,ZD,ZD,0,0,0,[],0,0,false⟩:RqV)) b
 cases hr:ZQ (⟨id,11,ZD,ZD,0,0,0,[],0,0,false⟩:RqV) with
 | false=>
  rw[ZC (V7 (by rw[hg];exact hr))]
  exact(WQ b id false 0 0 [] [] false 0 0 [] [] 0 0 0 [] 0 0 false e0 e1 (eN:Int) 3 0 q0 q1 q2 [] hN h0 h1 (WA _ hr)).1 rfl
 | true=>
  have hW:=YZ _ hr
  cases he:(WW (eN,q2)==0) with
  | false=>
   rw[ZC (V8 (by rw[hg];exact he))]
   exact(WQ b id false 0 0 [] [] false 0 0 [] [] 0 0 0 [] 0 0 false e0 e1 (eN:Int) 0 _ q0 q1 q2 _ hN h0 h1 hW).2.1 rfl hE (Zs he)
  | true=>
   cases hz:(ZH (⟨id,11,ZD,ZD,0,0,0,[],0,0,false⟩:RqV)==b) with
   | false=>
    rw[ZC (V9 (by rw[hg];exact hz))]
    rw[hz]at hB
    exact(WQ b id false 0 0 [] [] false 0 0 [] [] 0 0 0 [] 0 0 false e0 e1 (eN:Int) 0 _ q0 q1 q2 _ hN h0 h1 hW).2.2.1 rfl hE (Zs he) hB
   | true=>
    rw[Z1 (Ua (by rw[hg];exact hr) (by rw[hg];exact he) (by rw[hg];exact hz)),hg]
    rw[hz]at hB
    exact(WQ b id false 0 0 [] [] false 0 0 [] [] 0 0 0 [] 0 0 false e0 e1 (eN:Int) 0 _ q0 q1 q2 _ hN h0 h1 hW).2.2.2 rfl hE (Zs he) hB
theorem Gd [Known][KnownSc][KnownPow](b:List UInt8)(hb:b.length<=1000)(hk:(ZL (Zt (0,b)).2).1=11):AP Tryz.prog 71 [byE b] (YF b) []:=by
 have h0:=Ya (0,b) (by dsimp only;omega)
 have m0:=ZT (0,b)
 dsimp only at m0
 have h1:=Z2 (Zt (0,b)).2 (by omega)
 have m1:=ZS (Zt (0,b)).2
 rw[show(Z5 1099511627776 (Zt (0,b)).2).1=11 from hk]at h1
 exact Gc b _ _ _ _ _ _ _ (Yy b (by omega)) h0 h1  (by unfold ZI;rw[hk];rfl)
theorem Ge [Known][KnownPow](b:List UInt8)(id:Nat)(tok:Nat)(e0 e1 e2:Int)(eN:Nat)(q0 q1 q2 q3:List UInt8)
  (hN:AQ Tryz.prog 68 [.sl .ext (b.map E.byte)] [] (.ptr 0 0) [[.int .i64 e0,.bool true,.sl .ext (q0.map E.byte)]]) (h0:AQ Tryz.prog 69 [.ptr 0 0] [[.int .i64 e0,.bool true,.sl .ext (q0.map E.byte)]] (.int .u64 (id:Int)) [[.int .i64 e1,.bool true,.sl .ext (q1.map E.byte)]]) (h1:AQ Tryz.prog 70 [.ptr 0 0] [[.int .i64 e1,.bool true,.sl .ext (q1.map E.byte)]] (.int .i64 12) [[.int .i64 e2,.bool true,.sl .ext (q2.map E.byte)]])
  (h2:AQ Tryz.prog 69 [.ptr 0 0] [[.int .i64 e2,.bool true,.sl .ext (q2.map E.byte)]] (.int .u64 (tok:Int)) [[.int .i64 (eN:Int),.bool true,.sl .ext (q3.map E.byte)]])
  (hg:ZI b=((⟨id,12,ZD,ZD,0,0,0,[],0,tok,false⟩:RqV),(eN,q3))):AP Tryz.prog 71 [.sl .ext (b.map E.byte)] (YF b) []:=by
 have hE:=Yz (eN,q3)
 have hB:=YB (ZH (⟨id,12,ZD,ZD,0,0,0,[],0,tok,false⟩:RqV)) b
 cases hr:ZQ (⟨id,12,ZD,ZD,0,0,0,[],0,tok,false⟩:RqV) with
 | false=>
  rw[ZC (V7 (by rw[hg];exact hr))]
  exact(WR b id false 0 0 [] [] false 0 0 [] [] 0 0 0 [] 0 tok false e0 e1 e2 (eN:Int) 3 0 q0 q1 q2 q3 [] hN h0 h1 h2 (WA _ hr)).1 rfl
 | true=>
  have hW:=YZ _ hr
  cases he:(WW (eN,q3)==0) with
  | false=>
   rw[ZC (V8 (by rw[hg];exact he))]
   exact(WR b id false 0 0 [] [] false 0 0 [] [] 0 0 0 [] 0 tok false e0 e1 e2 (eN:Int) 0 _ q0 q1 q2 q3 _ hN h0 h1 h2 hW).2.1 rfl hE (Zs he)
  | true=>
   cases hz:(ZH (⟨id,12,ZD,ZD,0,0,0,[],0,tok,false⟩:RqV)==b) with
   | false=>
    rw[ZC (V9 (by rw[hg];exact hz))]
    rw[hz]at hB
    exact(WR b id false 0 0 [] [] false 0 0 [] [] 0 0 0 [] 0 tok false e0 e1 e2 (eN:Int) 0 _ q0 q1 q2 q3 _ hN h0 h1 h2 hW).2.2.1 rfl hE (Zs he) hB
   | true=>
    rw[Z1 (Ua (by rw[hg];exact hr) (by rw[hg];exact he) (by rw[hg];exact hz)),hg]
    rw[hz]at hB
    exact(WR b id false 0 0 [] [] false 0 0 [] [] 0 0 0 [] 0 tok false e0 e1 e2 (eN:Int) 0 _ q0 q1 q2 q3 _ hN h0 h1 h2 hW).2.2.2 rfl hE (Zs he) hB
theorem Gf [Known][KnownSc][KnownPow](b:List UInt8)(hb:b.length<=1000)(hk:(ZL (Zt (0,b)).2).1=12):AP Tryz.prog 71 [byE b] (YF b) []:=by
 have h0:=Ya (0,b) (by dsimp only;omega)
 have m0:=ZT (0,b)
 dsimp only at m0
 have h1:=Z2 (Zt (0,b)).2 (by omega)
 have m1:=ZS (Zt (0,b)).2
 have l0:=ZT (ZL (Zt (0,b)).2).2
 rw[show(Z5 1099511627776 (Zt (0,b)).2).1=12 from hk]at h1
 exact Ge b _ _ _ _ _ _ _ _ _ _ (Yy b (by omega)) h0 h1 (Ya (ZL (Zt (0,b)).2).2 (by omega)) (by unfold ZI;rw[hk];rfl)
theorem Hl [Known][KnownPow](b:List UInt8)(kd:Int)(id:Nat)(e0 e1:Int)(eN:Nat)(q0 q1 q2:List UInt8)
  (k1:(kd==1)=false) (k2:(kd==2)=false) (k3:(kd==3)=false) (k4:(kd==4)=false) (k5:(kd==5)=false) (k6:(kd==6)=false) (k7:(kd==7)=false) (k8:(kd==8)=false) (k9:(kd==9)=false) (k10:(kd==10)=false) (k12:(kd==12)=false)
  (hN:AQ Tryz.prog 68 [.sl .ext (b.map E.byte)] [] (.ptr 0 0) [[.int .i64 e0,.bool true,.sl .ext (q0.map E.byte)]]) (h0:AQ Tryz.prog 69 [.ptr 0 0] [[.int .i64 e0,.bool true,.sl .ext (q0.map E.byte)]] (.int .u64 (id:Int)) [[.int .i64 e1,.bool true,.sl .ext (q1.map E.byte)]]) (h1:AQ Tryz.prog 70 [.ptr 0 0] [[.int .i64 e1,.bool true,.sl .ext (q1.map E.byte)]] (.int .i64 kd) [[.int .i64 (eN:Int),.bool true,.sl .ext (q2.map E.byte)]])
  (hg:ZI b=((⟨id,kd,ZD,ZD,0,0,0,[],0,0,false⟩:RqV),(eN,q2))):AP Tryz.prog 71 [.sl .ext (b.map E.byte)] (YF b) []:=by
 have hE:=Yz (eN,q2)
 have hB:=YB (ZH (⟨id,kd,ZD,ZD,0,0,0,[],0,0,false⟩:RqV)) b
 cases hr:ZQ (⟨id,kd,ZD,ZD,0,0,0,[],0,0,false⟩:RqV) with
 | false=>
  rw[ZC (V7 (by rw[hg];exact hr))]
  exact(Vn b kd id false 0 0 [] [] false 0 0 [] [] 0 0 0 [] 0 0 false e0 e1 (eN:Int) 3 0 q0 q1 q2 [] k1 k2 k3 k4 k5 k6 k7 k8 k9 k10 k12 hN h0 h1 (WA _ hr)).1 rfl
 | true=>
  have hW:=YZ _ hr
  cases he:(WW (eN,q2)==0) with
  | false=>
   rw[ZC (V8 (by rw[hg];exact he))]
   exact(Vn b kd id false 0 0 [] [] false 0 0 [] [] 0 0 0 [] 0 0 false e0 e1 (eN:Int) 0 _ q0 q1 q2 _ k1 k2 k3 k4 k5 k6 k7 k8 k9 k10 k12 hN h0 h1 hW).2.1 rfl hE (Zs he)
  | true=>
   cases hz:(ZH (⟨id,kd,ZD,ZD,0,0,0,[],0,0,false⟩:RqV)==b) with
   | false=>
    rw[ZC (V9 (by rw[hg];exact hz))]
    rw[hz]at hB
    exact(Vn b kd id false 0 0 [] [] false 0 0 [] [] 0 0 0 [] 0 0 false e0 e1 (eN:Int) 0 _ q0 q1 q2 _ k1 k2 k3 k4 k5 k6 k7 k8 k9 k10 k12 hN h0 h1 hW).2.2.1 rfl hE (Zs he) hB
   | true=>
    rw[Z1 (Ua (by rw[hg];exact hr) (by rw[hg];exact he) (by rw[hg];exact hz)),hg]
    rw[hz]at hB
    exact(Vn b kd id false 0 0 [] [] false 0 0 [] [] 0 0 0 [] 0 0 false e0 e1 (eN:Int) 0 _ q0 q1 q2 _ k1 k2 k3 k4 k5 k6 k7 k8 k9 k10 k12 hN h0 h1 hW).2.2.2 rfl hE (Zs he) hB
theorem Hm [Known][KnownSc][KnownPow](b:List UInt8)(hb:b.length<=1000)(k1:(((ZL (Zt (0,b)).2).1:Int)==1)=false)(k2:(((ZL (Zt (0,b)).2).1:Int)==2)=false)(k3:(((ZL (Zt (0,b)).2).1:Int)==3)=false)(k4:(((ZL (Zt (0,b)).2).1:Int)==4)=false)(k5:(((ZL (Zt (0,b)).2).1:Int)==5)=false)(k6:(((ZL (Zt (0,b)).2).1:Int)==6)=false)(k7:(((ZL (Zt (0,b)).2).1:Int)==7)=false)(k8:(((ZL (Zt (0,b)).2).1:Int)==8)=false)(k9:(((ZL (Zt (0,b)).2).1:Int)==9)=false)(k10:(((ZL (Zt (0,b)).2).1:Int)==10)=false)(k12:(((ZL (Zt (0,b)).2).1:Int)==12)=false):AP Tryz.prog 71 [byE b] (YF b) []:=by
 have h0:=Ya (0,b) (by dsimp only;omega)
 have m0:=ZT (0,b)
 dsimp only at m0
 have h1:=Z2 (Zt (0,b)).2 (by omega)
 have m1:=ZS (Zt (0,b)).2
 exact Hl b _ _ _ _ _ _ _ _ k1 k2 k3 k4 k5 k6 k7 k8 k9 k10 k12 (Yy b (by omega)) h0 h1  (by
   have kk:∀ i:Nat,(((ZL (Zt (0,b)).2).1:Int)==(i:Int))=((ZL (Zt (0,b)).2).1==i):=fun i=>by rw[Bool.eq_iff_iff,beq_iff_eq,beq_iff_eq];omega
   unfold ZI J2
   rw[show((ZL (Zt (0,b)).2).1==1)=false from(kk 1).symm.trans k1,show((ZL (Zt (0,b)).2).1==2)=false from(kk 2).symm.trans k2,show((ZL (Zt (0,b)).2).1==3)=false from(kk 3).symm.trans k3,show((ZL (Zt (0,b)).2).1==4)=false from(kk 4).symm.trans k4,show((ZL (Zt (0,b)).2).1==5)=false from(kk 5).symm.trans k5,show((ZL (Zt (0,b)).2).1==6)=false from(kk 6).symm.trans k6,show((ZL (Zt (0,b)).2).1==7)=false from(kk 7).symm.trans k7,show((ZL (Zt (0,b)).2).1==8)=false from(kk 8).symm.trans k8,show((ZL (Zt (0,b)).2).1==9)=false from(kk 9).symm.trans k9,show((ZL (Zt (0,b)).2).1==10)=false from(kk 10).symm.trans k10,show((ZL (Zt (0,b)).2).1==12)=false from(kk 12).symm.trans k12]
   rfl)
theorem WB [Known][KnownSc][KnownPow](b:List UInt8)(hb:b.length<=1000):AP Tryz.prog 71 [byE b] (YF b) []:=by
 rcases Xr (((ZL (Zt (0,b)).2).1:Nat):Int) with h|h|h|h|h|h|h|h|h|h|h|h|⟨k1,k2,k3,k4,k5,k6,k7,k8,k9,k10,k11,k12⟩
 ·exact G4 b hb (by omega)
 ·exact G6 b hb (by omega)
 ·exact G8 b hb (by omega)
 ·exact Ha b hb (by omega)
 ·exact Hc b hb (by omega)
 ·exact He b hb (by omega)
 ·exact Hg b hb (by omega)
 ·exact Hi b hb (by omega)
 ·exact Hk b hb (by omega)
 ·exact Gb b hb (by omega)
 ·exact Gd b hb (by omega)
 ·exact Gf b hb (by omega)
 ·exact Hm b hb k1 k2 k3 k4 k5 k6 k7 k8 k9 k10 k12
end Go.Proofs.YtkdpfkjlheajhaaGreatDoor
end
