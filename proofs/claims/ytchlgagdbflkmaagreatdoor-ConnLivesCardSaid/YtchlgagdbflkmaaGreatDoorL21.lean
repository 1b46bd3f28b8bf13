/- Package eid: the name of a text. -/
import Derived.Test.YtchlgagdbflkmaaGreatDoorL20
import Derived.Test.YtchlgagdbflkmaaGreatDoorL19
set_option linter.unusedVariables false
set_option linter.unusedSimpArgs false
section
open Go.RowKit Go.Pl Go.Av
namespace Go.Proofs.YtchlgagdbflkmaaGreatDoor
set_option maxHeartbeats 4000000
theorem Nl [Known][KnownSc][KnownPow](s:List UInt8)(hs:s.length<=1099511627776):AP Tryz.prog 144 [.str s] (.tup [.agg (eC (pnV s).1),.bool (pnV s).2]) []:=by
 have hC:=Gt s 46 (by omega)
 have hl:=KV 46 s
 unfold pnV
 dsimp only
 generalize (Wg 46 s).1=a at *
 generalize (Wg 46 s).2.1=b at *
 generalize (Wg 46 s).2.2=k at *
 have hA:=XX a (by omega)
 have hB:=XX b (by omega)
 rw[Tr]at hA hB
 have ha:=Gq a
 have hb:=Gq b
 have hF1:=JY (puN a) (by omega)
 have hF2:=JY (puN b) (by omega)
 have hR:=QA ⟨true,puN a,puN b,[],[]⟩
 generalize ZY ⟨true,puN a,puN b,[],[]⟩=R at *
 generalize puN a=n at *
 generalize puN b=m at *
 generalize puB a=pa at *
 generalize puB b=pb at *
 generalize Lib.decDigits n=da at *
 generalize Lib.decDigits m=db at *
 replace hR:AP Tryz.prog _ [.agg [.bool true,.int .u64 (n:Int),.int .u64 (m:Int),.str [],.str []]] (.bool R) []:=hR
 show AP Tryz.prog _ _ (.tup [.agg [.bool true,.int .u64 (n:Int),.int .u64 (m:Int),.str [],.str []],_]) _
 clear ha hb hl
 have hf1:∃ f1,(da==a)=f1:=⟨_,rfl⟩
 have hf2:∃ f2,(db==b)=f2:=⟨_,rfl⟩
 obtain⟨f1,h1⟩:=hf1
 obtain⟨f2,h2⟩:=hf2
 rw[h1,h2]
 cases pa with
 | false=>
  rw[show(k&&(false&&(pb&&(R&&(f1&&f2)))))=false by simp]
  cases pb with
  | false=>exact Nd s a b da db n m k R hC hA hB hF1 hF2 hR
  | true=>exact Nf s a b da db n m k R hC hA hB hF1 hF2 hR
 | true=>
  cases pb with
  | false=>
   rw[show(k&&(true&&(false&&(R&&(f1&&f2)))))=false by simp]
   exact Ng s a b da db n m k R hC hA hB hF1 hF2 hR
  | true=>
   cases k with
   | false=>exact Nb s a b da db n m R hC hA hB hF1 hF2 hR
   | true=>
    cases R with
    | false=>exact Nc s a b da db n m hC hA hB hF1 hF2 hR
    | true=>exact Nh s a b da db n m f1 f2 hC hA hB hF1 hF2 hR h1 h2
theorem Gw [Known][KnownSc][KnownPow](s:List UInt8)(hs:s.length<=1099511627776):AP Tryz.prog 124 [.str s] (.tup [.agg (eC (if(ZW s).2 then(ZW s).1 else Zx)),.int .i64 (if(ZW s).2 then 0 else 3)]) []:=by
 have hI:=Ju s WQ (by omega) (by decide)
 have hD:=Ju s Ql (by omega) (by decide)
 have l1:=Xq WQ s
 have l2:=Xq Ql s
 have hN:=Nl (WG WQ s).1 (by omega)
 have hP:=T9 (WG Ql s).1 (by omega)
 unfold ZW
 generalize pnV (WG WQ s).1=xn at *
 generalize ppV (WG Ql s).1=xp at *
 obtain⟨⟨ni,nn,ns,nh,nd⟩,nb⟩:=xn
 obtain⟨⟨qi,qn,qs,qh,qd⟩,qb⟩:=xp
 generalize (WG WQ s).1=r1 at *
 generalize (WG WQ s).2=k1 at *
 generalize (WG Ql s).1=r2 at *
 generalize (WG Ql s).2=k2 at *
 obtain⟨z,h0⟩:∃ z,(s==V3)=z:=⟨_,rfl⟩
 rw[h0]
 replace h0:(s==[100,116,110,58,110,111,110,101])=z:=h0
 replace hI:AP Tryz.prog _ [.str s,.str [105,112,110,58]] _ []:=hI
 replace hD:AP Tryz.prog _ [.str s,.str [100,116,110,58]] _ []:=hD
 replace hN:AP Tryz.prog _ [.str r1] (.tup [.agg [.bool ni,.int .u64 (nn:Int),.int .u64 (ns:Int),.str nh,.str nd],.bool nb]) []:=hN
 replace hP:AP Tryz.prog _ [.str r2] (.tup [.agg [.bool qi,.int .u64 (qn:Int),.int .u64 (qs:Int),.str qh,.str qd],.bool qb]) []:=hP
 cases z with
 | true=>
  refine AP.ofA (Zp Tryz.func124 Z Tryz.ntmps124 Z Z ?_)
  repeat'(first|(apply Zj Zb;exact Z)|(apply Zt Zb;exact Z)|refine Zf Z Qt ?_)
  all_goals exact Qe
 | false=>
  cases k1 with
  | true=>
   cases nb
   all_goals
    refine AP.ofA (Zp Tryz.func124 Z Tryz.ntmps124 Z Z ?_)
    repeat'(first|(apply Zc (hI);kernel_rfl;(iterate 4 exact Z))|(apply Zc (hN);kernel_rfl;(iterate 4 exact Z))|(apply Zl Zb;exact Z)|(apply Zj Zb;exact Z)|(apply Zt Zb;exact Z)|refine Zf Z Qt ?_|refine Zg Z Qt ?_)
    all_goals exact Qe
  | false=>
   cases k2 with
   | false=>
    refine AP.ofA (Zp Tryz.func124 Z Tryz.ntmps124 Z Z ?_)
    repeat'(first|(apply Zc (hI);kernel_rfl;(iterate 4 exact Z))|(apply Zc (hD);kernel_rfl;(iterate 4 exact Z))|(apply Zl Zb;exact Z)|(apply Zj Zb;exact Z)|(apply Zt Zb;exact Z)|refine Zf Z Qt ?_|refine Zg Z Qt ?_)
    all_goals exact Qe
   | true=>
    cases qb
    all_goals
     refine AP.ofA (Zp Tryz.func124 Z Tryz.ntmps124 Z Z ?_)
     repeat'(first|(apply Zc (hI);kernel_rfl;(iterate 4 exact Z))|(apply Zc (hD);kernel_rfl;(iterate 4 exact Z))|(apply Zc (hP);kernel_rfl;(iterate 4 exact Z))|(apply Zl Zb;exact Z)|(apply Zj Zb;exact Z)|(apply Zt Zb;exact Z)|refine Zf Z Qt ?_|refine Zg Z Qt ?_)
     all_goals exact Qe
theorem V7 [Known][KnownSc][KnownPow](s:Rd)(hb:s.2.length<=1000000):AQ Tryz.prog 105 [.ptr 0 0] (UC s) (.agg (eC (nmS s).1)) (UC (nmS s).2):=by
 have hT:=KY s hb
 have hl:=(Vb s).2
 unfold nmS
 generalize Vj s=p at *
 obtain⟨t,e,q⟩:=p
 have hP:=Gw t (by dsimp only at hl;omega)
 generalize (if(ZW t).2 then(ZW t).1 else Zx)=x at *
 generalize (if(ZW t).2 then(0:Int) else 3)=w at *
 obtain⟨xi,xn,xs,xh,xd⟩:=x
 obtain⟨e0,b⟩:=s
 dsimp only at hT ⊢
 replace hP:AP Tryz.prog _ [.str t] (.tup [.agg [.bool xi,.int .u64 (xn:Int),.int .u64 (xs:Int),.str xh,.str xd],.int .i64 w]) []:=hP
 refine AQ.weak (Zp Tryz.func105 Z Tryz.ntmps105 Z Z ?_)
 repeat'(first|(apply Zh [0] (hT);kernel_rfl;(iterate 7 exact Z))|(apply Zc (hP);kernel_rfl;(iterate 4 exact Z))|refine Z0 Zb Z Z Z Z Z Z Z Z Z ?_|(apply Zl Zb;exact Z)|(apply Zj Zb;exact Z)|refine Z0 Zb Z Z Z Z Z Z Z Z Z ?_)
 all_goals(apply Zw [0];(apply Zd Zb;exact Z);(iterate 4 exact Z))
 all_goals rfl
theorem Qa (s:Rd):(nmS s).2.2.length<=s.2.length:=(Vb s).1
theorem Ys (s:Rd):(ZO s).2.2.length<=s.2.length:=X2 _ s
theorem Gx (s:Rd):(JQ s).2.2.length<=s.2.length:=X2 1 s
def Nm:RqV:=⟨0,0,Zx,Zx,0,0,0,[],0,0,false⟩
abbrev Vc (b:List UInt8):D:=.tup [.agg (rqC (match WI b with|true=>(ZM b).1|false=>Nm)),.int .i64 (match WI b with|true=>0|false=>3)]
theorem ZT {b:List UInt8}(h:WI b=false):Vc b=.tup [.agg (rqC Nm),.int .i64 3]:=by unfold Vc;rw[h]
theorem Y4 {b:List UInt8}(h:WI b=true):Vc b=.tup [.agg (rqC (ZM b).1),.int .i64 0]:=by unfold Vc;rw[h]
theorem ZH {i:Nat}{z:Bool}(h:(i==0)=z):((i:Int) != 0) = !z:=by
 subst h
 rw[bne]
 congr 1
 rw[Bool.eq_iff_iff,beq_iff_eq,beq_iff_eq];omega
theorem Jy {b:List UInt8}(h:ZI (ZM b).1=false):WI b=false:=by unfold WI;rw[h];rfl
theorem Jz {b:List UInt8}(h:(Up (ZM b).2==0)=false):WI b=false:=by unfold WI;rw[h];simp
theorem JA {b:List UInt8}(h:(ZQ (ZM b).1==b)=false):WI b=false:=by unfold WI;rw[h];simp
theorem JB {b:List UInt8}(h1:ZI (ZM b).1=true)(h2:(Up (ZM b).2==0)=true)(h3:(ZQ (ZM b).1==b)=true):WI b=true:=by unfold WI;rw[h1,h2,h3];rfl
theorem Mh [Known][KnownPow](b:List UInt8)(id:Nat)(ei:Bool)(en:Nat)(es:Nat)(eh:List UInt8)(ed:List UInt8)(pol:Int)(e0 e1 e2 e3:Int)(eN:Nat)(q0 q1 q2 q3 q4:List UInt8)
  (hN:AQ Tryz.prog 70 [.sl .ext (b.map E.byte)] [] (.ptr 0 0) [[.int .i64 e0,.bool true,.sl .ext (q0.map E.byte)]]) (h0:AQ Tryz.prog 71 [.ptr 0 0] [[.int .i64 e0,.bool true,.sl .ext (q0.map E.byte)]] (.int .u64 (id:Int)) [[.int .i64 e1,.bool true,.sl .ext (q1.map E.byte)]]) (h1:AQ Tryz.prog 72 [.ptr 0 0] [[.int .i64 e1,.bool true,.sl .ext (q1.map E.byte)]] (.int .i64 1) [[.int .i64 e2,.bool true,.sl .ext (q2.map E.byte)]])
  (h2:AQ Tryz.prog 105 [.ptr 0 0] [[.int .i64 e2,.bool true,.sl .ext (q2.map E.byte)]] (.agg [.bool ei,.int .u64 (en:Int),.int .u64 (es:Int),.str eh,.str ed]) [[.int .i64 e3,.bool true,.sl .ext (q3.map E.byte)]])
  (h3:AQ Tryz.prog 72 [.ptr 0 0] [[.int .i64 e3,.bool true,.sl .ext (q3.map E.byte)]] (.int .i64 pol) [[.int .i64 (eN:Int),.bool true,.sl .ext (q4.map E.byte)]])
  (hg:ZM b=((⟨id,1,⟨ei,en,es,eh,ed⟩,Zx,pol,0,0,[],0,0,false⟩:RqV),(eN,q4))):AP Tryz.prog 73 [.sl .ext (b.map E.byte)] (Vc b) []:=by
 have hE:=W4 (eN,q4)
 have hB:=W8 (ZQ (⟨id,1,⟨ei,en,es,eh,ed⟩,Zx,pol,0,0,[],0,0,false⟩:RqV)) b
 cases hr:ZI (⟨id,1,⟨ei,en,es,eh,ed⟩,Zx,pol,0,0,[],0,0,false⟩:RqV) with
 | false=>
  rw[ZT (Jy (by rw[hg];exact hr))]
  exact(QH b id ei en es eh ed false 0 0 [] [] pol 0 0 [] 0 0 false e0 e1 e2 e3 (eN:Int) 3 0 q0 q1 q2 q3 q4 [] hN h0 h1 h2 h3 (UE _ hr)).1 rfl
 | true=>
  have hW:=VJ _ hr
  cases he:(Up (eN,q4)==0) with
  | false=>
   rw[ZT (Jz (by rw[hg];exact he))]
   exact(QH b id ei en es eh ed false 0 0 [] [] pol 0 0 [] 0 0 false e0 e1 e2 e3 (eN:Int) 0 _ q0 q1 q2 q3 q4 _ hN h0 h1 h2 h3 hW).2.1 rfl hE (ZH he)
  | true=>
   cases hz:(ZQ (⟨id,1,⟨ei,en,es,eh,ed⟩,Zx,pol,0,0,[],0,0,false⟩:RqV)==b) with
   | false=>
    rw[ZT (JA (by rw[hg];exact hz))]
    rw[hz]at hB
    exact(QH b id ei en es eh ed false 0 0 [] [] pol 0 0 [] 0 0 false e0 e1 e2 e3 (eN:Int) 0 _ q0 q1 q2 q3 q4 _ hN h0 h1 h2 h3 hW).2.2.1 rfl hE (ZH he) hB
   | true=>
    rw[Y4 (JB (by rw[hg];exact hr) (by rw[hg];exact he) (by rw[hg];exact hz)),hg]
    rw[hz]at hB
    exact(QH b id ei en es eh ed false 0 0 [] [] pol 0 0 [] 0 0 false e0 e1 e2 e3 (eN:Int) 0 _ q0 q1 q2 q3 q4 _ hN h0 h1 h2 h3 hW).2.2.2 rfl hE (ZH he) hB
theorem Mi [Known][KnownSc][KnownPow](b:List UInt8)(hb:b.length<=100000)(hk:(ZO (ZA (0,b)).2).1=1):AP Tryz.prog 73 [byE b] (Vc b) []:=by
 have h0:=Wd (0,b) (by dsimp only;omega)
 have m0:=Yw (0,b)
 dsimp only at m0
 have h1:=YP (ZA (0,b)).2 (by omega)
 have m1:=Ys (ZA (0,b)).2
 have l0:=Qa (ZO (ZA (0,b)).2).2
 have l1:=Ys (nmS (ZO (ZA (0,b)).2).2).2
 rw[show(Z2 1099511627776 (ZA (0,b)).2).1=1 from hk]at h1
 exact Mh b _ _ _ _ _ _ _ _ _ _ _ _ _ _ _ _ _ (W3 b (by omega)) h0 h1 (V7 (ZO (ZA (0,b)).2).2 (by omega)) (YP (nmS (ZO (ZA (0,b)).2).2).2 (by omega)) (by unfold ZM;rw[hk];rfl)
theorem Mj [Known][KnownPow](b:List UInt8)(id:Nat)(ei:Bool)(en:Nat)(es:Nat)(eh:List UInt8)(ed:List UInt8)(e0 e1 e2:Int)(eN:Nat)(q0 q1 q2 q3:List UInt8)
  (hN:AQ Tryz.prog 70 [.sl .ext (b.map E.byte)] [] (.ptr 0 0) [[.int .i64 e0,.bool true,.sl .ext (q0.map E.byte)]]) (h0:AQ Tryz.prog 71 [.ptr 0 0] [[.int .i64 e0,.bool true,.sl .ext (q0.map E.byte)]] (.int .u64 (id:Int)) [[.int .i64 e1,.bool true,.sl .ext (q1.map E.byte)]]) (h1:AQ Tryz.prog 72 [.ptr 0 0] [[.int .i64 e1,.bool true,.sl .ext (q1.map E.byte)]] (.int .i64 2) [[.int .i64 e2,.bool true,.sl .ext (q2.map E.byte)]])
  (h2:AQ Tryz.prog 105 [.ptr 0 0] [[.int .i64 e2,.bool true,.sl .ext (q2.map E.byte)]] (.agg [.bool ei,.int .u64 (en:Int),.int .u64 (es:Int),.str eh,.str ed]) [[.int .i64 (eN:Int),.bool true,.sl .ext (q3.map E.byte)]])
  (hg:ZM b=((⟨id,2,⟨ei,en,es,eh,ed⟩,Zx,0,0,0,[],0,0,false⟩:RqV),(eN,q3))):AP Tryz.prog 73 [.sl .ext (b.map E.byte)] (Vc b) []:=by
 have hE:=W4 (eN,q3)
 have hB:=W8 (ZQ (⟨id,2,⟨ei,en,es,eh,ed⟩,Zx,0,0,0,[],0,0,false⟩:RqV)) b
 cases hr:ZI (⟨id,2,⟨ei,en,es,eh,ed⟩,Zx,0,0,0,[],0,0,false⟩:RqV) with
 | false=>
  rw[ZT (Jy (by rw[hg];exact hr))]
  exact(QI b id ei en es eh ed false 0 0 [] [] 0 0 0 [] 0 0 false e0 e1 e2 (eN:Int) 3 0 q0 q1 q2 q3 [] hN h0 h1 h2 (UE _ hr)).1 rfl
 | true=>
  have hW:=VJ _ hr
  cases he:(Up (eN,q3)==0) with
  | false=>
   rw[ZT (Jz (by rw[hg];exact he))]
   exact(QI b id ei en es eh ed false 0 0 [] [] 0 0 0 [] 0 0 false e0 e1 e2 (eN:Int) 0 _ q0 q1 q2 q3 _ hN h0 h1 h2 hW).2.1 rfl hE (ZH he)
  | true=>
   cases hz:(ZQ (⟨id,2,⟨ei,en,es,eh,ed⟩,Zx,0,0,0,[],0,0,false⟩:RqV)==b) with
   | false=>
    rw[ZT (JA (by rw[hg];exact hz))]
    rw[hz]at hB
    exact(QI b id ei en es eh ed false 0 0 [] [] 0 0 0 [] 0 0 false e0 e1 e2 (eN:Int) 0 _ q0 q1 q2 q3 _ hN h0 h1 h2 hW).2.2.1 rfl hE (ZH he) hB
   | true=>
    rw[Y4 (JB (by rw[hg];exact hr) (by rw[hg];exact he) (by rw[hg];exact hz)),hg]
    rw[hz]at hB
    exact(QI b id ei en es eh ed false 0 0 [] [] 0 0 0 [] 0 0 false e0 e1 e2 (eN:Int) 0 _ q0 q1 q2 q3 _ hN h0 h1 h2 hW).2.2.2 rfl hE (ZH he) hB
theorem Mk [Known][KnownSc][KnownPow](b:List UInt8)(hb:b.length<=100000)(hk:(ZO (ZA (0,b)).2).1=2):AP Tryz.prog 73 [byE b] (Vc b) []:=by
 have h0:=Wd (0,b) (by dsimp only;omega)
 have m0:=Yw (0,b)
 dsimp only at m0
 have h1:=YP (ZA (0,b)).2 (by omega)
 have m1:=Ys (ZA (0,b)).2
 have l0:=Qa (ZO (ZA (0,b)).2).2
 rw[show(Z2 1099511627776 (ZA (0,b)).2).1=2 from hk]at h1
 exact Mj b _ _ _ _ _ _ _ _ _ _ _ _ _ _ (W3 b (by omega)) h0 h1 (V7 (ZO (ZA (0,b)).2).2 (by omega)) (by unfold ZM;rw[hk];rfl)
theorem Ml [Known][KnownPow](b:List UInt8)(id:Nat)(ei:Bool)(en:Nat)(es:Nat)(eh:List UInt8)(ed:List UInt8)(pol:Int)(e0 e1 e2 e3:Int)(eN:Nat)(q0 q1 q2 q3 q4:List UInt8)
  (hN:AQ Tryz.prog 70 [.sl .ext (b.map E.byte)] [] (.ptr 0 0) [[.int .i64 e0,.bool true,.sl .ext (q0.map E.byte)]]) (h0:AQ Tryz.prog 71 [.ptr 0 0] [[.int .i64 e0,.bool true,.sl .ext (q0.map E.byte)]] (.int .u64 (id:Int)) [[.int .i64 e1,.bool true,.sl .ext (q1.map E.byte)]]) (h1:AQ Tryz.prog 72 [.ptr 0 0] [[.int .i64 e1,.bool true,.sl .ext (q1.map E.byte)]] (.int .i64 3) [[.int .i64 e2,.bool true,.sl .ext (q2.map E.byte)]])
  (h2:AQ Tryz.prog 105 [.ptr 0 0] [[.int .i64 e2,.bool true,.sl .ext (q2.map E.byte)]] (.agg [.bool ei,.int .u64 (en:Int),.int .u64 (es:Int),.str eh,.str ed]) [[.int .i64 e3,.bool true,.sl .ext (q3.map E.byte)]])
  (h3:AQ Tryz.prog 72 [.ptr 0 0] [[.int .i64 e3,.bool true,.sl .ext (q3.map E.byte)]] (.int .i64 pol) [[.int .i64 (eN:Int),.bool true,.sl .ext (q4.map E.byte)]])
  (hg:ZM b=((⟨id,3,⟨ei,en,es,eh,ed⟩,Zx,pol,0,0,[],0,0,false⟩:RqV),(eN,q4))):AP Tryz.prog 73 [.sl .ext (b.map E.byte)] (Vc b) []:=by
 have hE:=W4 (eN,q4)
 have hB:=W8 (ZQ (⟨id,3,⟨ei,en,es,eh,ed⟩,Zx,pol,0,0,[],0,0,false⟩:RqV)) b
 cases hr:ZI (⟨id,3,⟨ei,en,es,eh,ed⟩,Zx,pol,0,0,[],0,0,false⟩:RqV) with
 | false=>
  rw[ZT (Jy (by rw[hg];exact hr))]
  exact(QJ b id ei en es eh ed false 0 0 [] [] pol 0 0 [] 0 0 false e0 e1 e2 e3 (eN:Int) 3 0 q0 q1 q2 q3 q4 [] hN h0 h1 h2 h3 (UE _ hr)).1 rfl
 | true=>
  have hW:=VJ _ hr
  cases he:(Up (eN,q4)==0) with
  | false=>
   rw[ZT (Jz (by rw[hg];exact he))]
   exact(QJ b id ei en es eh ed false 0 0 [] [] pol 0 0 [] 0 0 false e0 e1 e2 e3 (eN:Int) 0 _ q0 q1 q2 q3 q4 _ hN h0 h1 h2 h3 hW).2.1 rfl hE (ZH he)
  | true=>
   cases hz:(ZQ (⟨id,3,⟨ei,en,es,eh,ed⟩,Zx,pol,0,0,[],0,0,false⟩:RqV)==b) with
   | false=>
    rw[ZT (JA (by rw[hg];exact hz))]
    rw[hz]at hB
    exact(QJ b id ei en es eh ed false 0 0 [] [] pol 0 0 [] 0 0 false e0 e1 e2 e3 (eN:Int) 0 _ q0 q1 q2 q3 q4 _ hN h0 h1 h2 h3 hW).2.2.1 rfl hE (ZH he) hB
   | true=>
    rw[Y4 (JB (by rw[hg];exact hr) (by rw[hg];exact he) (by rw[hg];exact hz)),hg]
    rw[hz]at hB
    exact(QJ b id ei en es eh ed false 0 0 [] [] pol 0 0 [] 0 0 false e0 e1 e2 e3 (eN:Int) 0 _ q0 q1 q2 q3 q4 _ hN h0 h1 h2 h3 hW).2.2.2 rfl hE (ZH he) hB
theorem Mm [Known][KnownSc][KnownPow](b:List UInt8)(hb:b.length<=100000)(hk:(ZO (ZA (0,b)).2).1=3):AP Tryz.prog 73 [byE b] (Vc b) []:=by
 have h0:=Wd (0,b) (by dsimp only;omega)
 have m0:=Yw (0,b)
 dsimp only at m0
 have h1:=YP (ZA (0,b)).2 (by omega)
 have m1:=Ys (ZA (0,b)).2
 have l0:=Qa (ZO (ZA (0,b)).2).2
 have l1:=Ys (nmS (ZO (ZA (0,b)).2).2).2
 rw[show(Z2 1099511627776 (ZA (0,b)).2).1=3 from hk]at h1
 exact Ml b _ _ _ _ _ _ _ _ _ _ _ _ _ _ _ _ _ (W3 b (by omega)) h0 h1 (V7 (ZO (ZA (0,b)).2).2 (by omega)) (YP (nmS (ZO (ZA (0,b)).2).2).2 (by omega)) (by unfold ZM;rw[hk];rfl)
theorem Mn [Known][KnownPow](b:List UInt8)(id:Nat)(ei:Bool)(en:Nat)(es:Nat)(eh:List UInt8)(ed:List UInt8)(di:Bool)(dn:Nat)(dq:Nat)(dh:List UInt8)(dd:List UInt8)(pay:List UInt8)(life:Nat)(on:Bool)(e0 e1 e2 e3 e4 e5 e6:Int)(eN:Nat)(q0 q1 q2 q3 q4 q5 q6 q7:List UInt8)
  (hN:AQ Tryz.prog 70 [.sl .ext (b.map E.byte)] [] (.ptr 0 0) [[.int .i64 e0,.bool true,.sl .ext (q0.map E.byte)]]) (h0:AQ Tryz.prog 71 [.ptr 0 0] [[.int .i64 e0,.bool true,.sl .ext (q0.map E.byte)]] (.int .u64 (id:Int)) [[.int .i64 e1,.bool true,.sl .ext (q1.map E.byte)]]) (h1:AQ Tryz.prog 72 [.ptr 0 0] [[.int .i64 e1,.bool true,.sl .ext (q1.map E.byte)]] (.int .i64 4) [[.int .i64 e2,.bool true,.sl .ext (q2.map E.byte)]])
  (h2:AQ Tryz.prog 105 [.ptr 0 0] [[.int .i64 e2,.bool true,.sl .ext (q2.map E.byte)]] (.agg [.bool ei,.int .u64 (en:Int),.int .u64 (es:Int),.str eh,.str ed]) [[.int .i64 e3,.bool true,.sl .ext (q3.map E.byte)]])
  (h3:AQ Tryz.prog 105 [.ptr 0 0] [[.int .i64 e3,.bool true,.sl .ext (q3.map E.byte)]] (.agg [.bool di,.int .u64 (dn:Int),.int .u64 (dq:Int),.str dh,.str dd]) [[.int .i64 e4,.bool true,.sl .ext (q4.map E.byte)]])
  (h4:AQ Tryz.prog 74 [.ptr 0 0] [[.int .i64 e4,.bool true,.sl .ext (q4.map E.byte)]] (.sl .ext (pay.map E.byte)) [[.int .i64 e5,.bool true,.sl .ext (q5.map E.byte)]])
  (h5:AQ Tryz.prog 71 [.ptr 0 0] [[.int .i64 e5,.bool true,.sl .ext (q5.map E.byte)]] (.int .u64 (life:Int)) [[.int .i64 e6,.bool true,.sl .ext (q6.map E.byte)]])
  (h6:AQ Tryz.prog 106 [.ptr 0 0] [[.int .i64 e6,.bool true,.sl .ext (q6.map E.byte)]] (.bool on) [[.int .i64 (eN:Int),.bool true,.sl .ext (q7.map E.byte)]])
  (hg:ZM b=((⟨id,4,⟨ei,en,es,eh,ed⟩,⟨di,dn,dq,dh,dd⟩,0,0,0,pay,life,0,on⟩:RqV),(eN,q7))):AP Tryz.prog 73 [.sl .ext (b.map E.byte)] (Vc b) []:=by
 have hE:=W4 (eN,q7)
 have hB:=W8 (ZQ (⟨id,4,⟨ei,en,es,eh,ed⟩,⟨di,dn,dq,dh,dd⟩,0,0,0,pay,life,0,on⟩:RqV)) b
 cases hr:ZI (⟨id,4,⟨ei,en,es,eh,ed⟩,⟨di,dn,dq,dh,dd⟩,0,0,0,pay,life,0,on⟩:RqV) with
 | false=>
  rw[ZT (Jy (by rw[hg];exact hr))]
  exact(QK b id ei en es eh ed di dn dq dh dd 0 0 0 pay life 0 on e0 e1 e2 e3 e4 e5 e6 (eN:Int) 3 0 q0 q1 q2 q3 q4 q5 q6 q7 [] hN h0 h1 h2 h3 h4 h5 h6 (UE _ hr)).1 rfl
 | true=>
  have hW:=VJ _ hr
  cases he:(Up (eN,q7)==0) with
  | false=>
   rw[ZT (Jz (by rw[hg];exact he))]
   exact(QK b id ei en es eh ed di dn dq dh dd 0 0 0 pay life 0 on e0 e1 e2 e3 e4 e5 e6 (eN:Int) 0 _ q0 q1 q2 q3 q4 q5 q6 q7 _ hN h0 h1 h2 h3 h4 h5 h6 hW).2.1 rfl hE (ZH he)
  | true=>
   cases hz:(ZQ (⟨id,4,⟨ei,en,es,eh,ed⟩,⟨di,dn,dq,dh,dd⟩,0,0,0,pay,life,0,on⟩:RqV)==b) with
   | false=>
    rw[ZT (JA (by rw[hg];exact hz))]
    rw[hz]at hB
    exact(QK b id ei en es eh ed di dn dq dh dd 0 0 0 pay life 0 on e0 e1 e2 e3 e4 e5 e6 (eN:Int) 0 _ q0 q1 q2 q3 q4 q5 q6 q7 _ hN h0 h1 h2 h3 h4 h5 h6 hW).2.2.1 rfl hE (ZH he) hB
   | true=>
    rw[Y4 (JB (by rw[hg];exact hr) (by rw[hg];exact he) (by rw[hg];exact hz)),hg]
    rw[hz]at hB
    exact(QK b id ei en es eh ed di dn dq dh dd 0 0 0 pay life 0 on e0 e1 e2 e3 e4 e5 e6 (eN:Int) 0 _ q0 q1 q2 q3 q4 q5 q6 q7 _ hN h0 h1 h2 h3 h4 h5 h6 hW).2.2.2 rfl hE (ZH he) hB
theorem Mo [Known][KnownSc][KnownPow](b:List UInt8)(hb:b.length<=100000)(hk:(ZO (ZA (0,b)).2).1=4):AP Tryz.prog 73 [byE b] (Vc b) []:=by
 rcases ha:ZA (0,b) with⟨id,s1⟩
 rw[ha]at hk
 dsimp only at hk
 rcases hk2:ZO s1 with⟨k,s2⟩
 rw[hk2]at hk
 dsimp only at hk
 subst hk
 rcases hp:nmS s2 with⟨ep,s3⟩
 rcases hq:nmS s3 with⟨ds,s4⟩
 rcases ht:Vj s4 with⟨pay,s5⟩
 rcases hl:ZA s5 with⟨life,s6⟩
 rcases ho:JQ s6 with⟨on,s7⟩
 have h0:=Wd (0,b) (by dsimp only;omega)
 have m0:=Yw (0,b)
 rw[ha]at h0 m0
 dsimp only at h0 m0
 have h1:=YP s1 (by omega)
 have m1:=Ys s1
 have hk3:Z2 1099511627776 s1=(4,s2):=hk2
 rw[hk3]at h1
 rw[hk2]at m1
 dsimp only at h1 m1
 have h2:=V7 s2 (by omega)
 have m2:=Qa s2
 rw[hp]at h2 m2
 dsimp only at h2 m2
 have h3:=V7 s3 (by omega)
 have m3:=Qa s3
 rw[hq]at h3 m3
 dsimp only at h3 m3
 have h4:=KY s4 (by omega)
 have m4:=(Vb s4).1
 rw[ht]at h4 m4
 dsimp only at h4 m4
 have h5:=Wd s5 (by omega)
 have m5:=Yw s5
 rw[hl]at h5 m5
 dsimp only at h5 m5
 have h6:=KX s6 (by omega)
 have e1:(((Z2 1 s6).1:Int)==1)=on:=congrArg Prod.fst ho
 have e2:(Z2 1 s6).2=s7:=congrArg Prod.snd ho
 rw[e1,e2]at h6
 have hg:ZM b=((⟨id,4,ep,ds,0,0,0,pay,life,0,on⟩:RqV),s7):=by
  unfold ZM
  rw[ha]
  dsimp only
  rw[hk2]
  dsimp only
  simp only[WR,Nat.reduceBEq,Bool.or_self,Bool.false_eq_true,if_false,if_true,hp,hq,ht,hl,ho]
  rfl
 clear ha hk2 hk3 hp hq ht hl ho e1 e2 m0 m1 m2 m3 m4 m5
 obtain⟨ei,en,es,eh,ed⟩:=ep
 obtain⟨di,dn,dq,dh,dd⟩:=ds
 obtain⟨a1,a2⟩:=s1
 obtain⟨b1,b2⟩:=s2
 obtain⟨c1,c2⟩:=s3
 obtain⟨d1,d2⟩:=s4
 obtain⟨f1,f2⟩:=s5
 obtain⟨g1,g2⟩:=s6
 obtain⟨i1,i2⟩:=s7
 exact Mn b id ei en es eh ed di dn dq dh dd pay life on 0 (a1:Int) (b1:Int) (c1:Int) (d1:Int) (f1:Int) (g1:Int) i1 b a2 b2 c2 d2 f2 g2 i2 (W3 b (by omega)) h0 h1 h2 h3 h4 h5 h6 hg
theorem Mp [Known][KnownPow](b:List UInt8)(id:Nat)(num:Int)(e0 e1 e2:Int)(eN:Nat)(q0 q1 q2 q3:List UInt8)
  (hN:AQ Tryz.prog 70 [.sl .ext (b.map E.byte)] [] (.ptr 0 0) [[.int .i64 e0,.bool true,.sl .ext (q0.map E.byte)]]) (h0:AQ Tryz.prog 71 [.ptr 0 0] [[.int .i64 e0,.bool true,.sl .ext (q0.map E.byte)]] (.int .u64 (id:Int)) [[.int .i64 e1,.bool true,.sl .ext (q1.map E.byte)]]) (h1:AQ Tryz.prog 72 [.ptr 0 0] [[.int .i64 e1,.bool true,.sl .ext (q1.map E.byte)]] (.int .i64 5) [[.int .i64 e2,.bool true,.sl .ext (q2.map E.byte)]])
  (h2:AQ Tryz.prog 72 [.ptr 0 0] [[.int .i64 e2,.bool true,.sl .ext (q2.map E.byte)]] (.int .i64 num) [[.int .i64 (eN:Int),.bool true,.sl .ext (q3.map E.byte)]])
  (hg:ZM b=((⟨id,5,Zx,Zx,0,num,0,[],0,0,false⟩:RqV),(eN,q3))):AP Tryz.prog 73 [.sl .ext (b.map E.byte)] (Vc b) []:=by
 have hE:=W4 (eN,q3)
 have hB:=W8 (ZQ (⟨id,5,Zx,Zx,0,num,0,[],0,0,false⟩:RqV)) b
 cases hr:ZI (⟨id,5,Zx,Zx,0,num,0,[],0,0,false⟩:RqV) with
 | false=>
  rw[ZT (Jy (by rw[hg];exact hr))]
  exact(QL b id false 0 0 [] [] false 0 0 [] [] 0 num 0 [] 0 0 false e0 e1 e2 (eN:Int) 3 0 q0 q1 q2 q3 [] hN h0 h1 h2 (UE _ hr)).1 rfl
 | true=>
  have hW:=VJ _ hr
  cases he:(Up (eN,q3)==0) with
  | false=>
   rw[ZT (Jz (by rw[hg];exact he))]
   exact(QL b id false 0 0 [] [] false 0 0 [] [] 0 num 0 [] 0 0 false e0 e1 e2 (eN:Int) 0 _ q0 q1 q2 q3 _ hN h0 h1 h2 hW).2.1 rfl hE (ZH he)
  | true=>
   cases hz:(ZQ (⟨id,5,Zx,Zx,0,num,0,[],0,0,false⟩:RqV)==b) with
   | false=>
    rw[ZT (JA (by rw[hg];exact hz))]
    rw[hz]at hB
    exact(QL b id false 0 0 [] [] false 0 0 [] [] 0 num 0 [] 0 0 false e0 e1 e2 (eN:Int) 0 _ q0 q1 q2 q3 _ hN h0 h1 h2 hW).2.2.1 rfl hE (ZH he) hB
   | true=>
    rw[Y4 (JB (by rw[hg];exact hr) (by rw[hg];exact he) (by rw[hg];exact hz)),hg]
    rw[hz]at hB
    exact(QL b id false 0 0 [] [] false 0 0 [] [] 0 num 0 [] 0 0 false e0 e1 e2 (eN:Int) 0 _ q0 q1 q2 q3 _ hN h0 h1 h2 hW).2.2.2 rfl hE (ZH he) hB
theorem Mq [Known][KnownSc][KnownPow](b:List UInt8)(hb:b.length<=100000)(hk:(ZO (ZA (0,b)).2).1=5):AP Tryz.prog 73 [byE b] (Vc b) []:=by
 have h0:=Wd (0,b) (by dsimp only;omega)
 have m0:=Yw (0,b)
 dsimp only at m0
 have h1:=YP (ZA (0,b)).2 (by omega)
 have m1:=Ys (ZA (0,b)).2
 have l0:=Ys (ZO (ZA (0,b)).2).2
 rw[show(Z2 1099511627776 (ZA (0,b)).2).1=5 from hk]at h1
 exact Mp b _ _ _ _ _ _ _ _ _ _ (W3 b (by omega)) h0 h1 (YP (ZO (ZA (0,b)).2).2 (by omega)) (by unfold ZM;rw[hk];rfl)
theorem Mr [Known][KnownPow](b:List UInt8)(id:Nat)(ei:Bool)(en:Nat)(es:Nat)(eh:List UInt8)(ed:List UInt8)(e0 e1 e2:Int)(eN:Nat)(q0 q1 q2 q3:List UInt8)
  (hN:AQ Tryz.prog 70 [.sl .ext (b.map E.byte)] [] (.ptr 0 0) [[.int .i64 e0,.bool true,.sl .ext (q0.map E.byte)]]) (h0:AQ Tryz.prog 71 [.ptr 0 0] [[.int .i64 e0,.bool true,.sl .ext (q0.map E.byte)]] (.int .u64 (id:Int)) [[.int .i64 e1,.bool true,.sl .ext (q1.map E.byte)]]) (h1:AQ Tryz.prog 72 [.ptr 0 0] [[.int .i64 e1,.bool true,.sl .ext (q1.map E.byte)]] (.int .i64 6) [[.int .i64 e2,.bool true,.sl .ext (q2.map E.byte)]])
  (h2:AQ Tryz.prog 105 [.ptr 0 0] [[.int .i64 e2,.bool true,.sl .ext (q2.map E.byte)]] (.agg [.bool ei,.int .u64 (en:Int),.int .u64 (es:Int),.str eh,.str ed]) [[.int .i64 (eN:Int),.bool true,.sl .ext (q3.map E.byte)]])
  (hg:ZM b=((⟨id,6,⟨ei,en,es,eh,ed⟩,Zx,0,0,0,[],0,0,false⟩:RqV),(eN,q3))):AP Tryz.prog 73 [.sl .ext (b.map E.byte)] (Vc b) []:=by
 have hE:=W4 (eN,q3)
 have hB:=W8 (ZQ (⟨id,6,⟨ei,en,es,eh,ed⟩,Zx,0,0,0,[],0,0,false⟩:RqV)) b
 cases hr:ZI (⟨id,6,⟨ei,en,es,eh,ed⟩,Zx,0,0,0,[],0,0,false⟩:RqV) with
 | false=>
  rw[ZT (Jy (by rw[hg];exact hr))]
  exact(QM b id ei en es eh ed false 0 0 [] [] 0 0 0 [] 0 0 false e0 e1 e2 (eN:Int) 3 0 q0 q1 q2 q3 [] hN h0 h1 h2 (UE _ hr)).1 rfl
 | true=>
  have hW:=VJ _ hr
  cases he:(Up (eN,q3)==0) with
  | false=>
   rw[ZT (Jz (by rw[hg];exact he))]
   exact(QM b id ei en es eh ed false 0 0 [] [] 0 0 0 [] 0 0 false e0 e1 e2 (eN:Int) 0 _ q0 q1 q2 q3 _ hN h0 h1 h2 hW).2.1 rfl hE (ZH he)
  | true=>
   cases hz:(ZQ (⟨id,6,⟨ei,en,es,eh,ed⟩,Zx,0,0,0,[],0,0,false⟩:RqV)==b) with
   | false=>
    rw[ZT (JA (by rw[hg];exact hz))]
    rw[hz]at hB
    exact(QM b id ei en es eh ed false 0 0 [] [] 0 0 0 [] 0 0 false e0 e1 e2 (eN:Int) 0 _ q0 q1 q2 q3 _ hN h0 h1 h2 hW).2.2.1 rfl hE (ZH he) hB
   | true=>
    rw[Y4 (JB (by rw[hg];exact hr) (by rw[hg];exact he) (by rw[hg];exact hz)),hg]
    rw[hz]at hB
    exact(QM b id ei en es eh ed false 0 0 [] [] 0 0 0 [] 0 0 false e0 e1 e2 (eN:Int) 0 _ q0 q1 q2 q3 _ hN h0 h1 h2 hW).2.2.2 rfl hE (ZH he) hB
theorem Ms [Known][KnownSc][KnownPow](b:List UInt8)(hb:b.length<=100000)(hk:(ZO (ZA (0,b)).2).1=6):AP Tryz.prog 73 [byE b] (Vc b) []:=by
 have h0:=Wd (0,b) (by dsimp only;omega)
 have m0:=Yw (0,b)
 dsimp only at m0
 have h1:=YP (ZA (0,b)).2 (by omega)
 have m1:=Ys (ZA (0,b)).2
 have l0:=Qa (ZO (ZA (0,b)).2).2
 rw[show(Z2 1099511627776 (ZA (0,b)).2).1=6 from hk]at h1
 exact Mr b _ _ _ _ _ _ _ _ _ _ _ _ _ _ (W3 b (by omega)) h0 h1 (V7 (ZO (ZA (0,b)).2).2 (by omega)) (by unfold ZM;rw[hk];rfl)
theorem Mt [Known][KnownPow](b:List UInt8)(id:Nat)(ei:Bool)(en:Nat)(es:Nat)(eh:List UInt8)(ed:List UInt8)(tik:Int)(e0 e1 e2 e3:Int)(eN:Nat)(q0 q1 q2 q3 q4:List UInt8)
  (hN:AQ Tryz.prog 70 [.sl .ext (b.map E.byte)] [] (.ptr 0 0) [[.int .i64 e0,.bool true,.sl .ext (q0.map E.byte)]]) (h0:AQ Tryz.prog 71 [.ptr 0 0] [[.int .i64 e0,.bool true,.sl .ext (q0.map E.byte)]] (.int .u64 (id:Int)) [[.int .i64 e1,.bool true,.sl .ext (q1.map E.byte)]]) (h1:AQ Tryz.prog 72 [.ptr 0 0] [[.int .i64 e1,.bool true,.sl .ext (q1.map E.byte)]] (.int .i64 7) [[.int .i64 e2,.bool true,.sl .ext (q2.map E.byte)]])
  (h2:AQ Tryz.prog 105 [.ptr 0 0] [[.int .i64 e2,.bool true,.sl .ext (q2.map E.byte)]] (.agg [.bool ei,.int .u64 (en:Int),.int .u64 (es:Int),.str eh,.str ed]) [[.int .i64 e3,.bool true,.sl .ext (q3.map E.byte)]])
  (h3:AQ Tryz.prog 72 [.ptr 0 0] [[.int .i64 e3,.bool true,.sl .ext (q3.map E.byte)]] (.int .i64 tik) [[.int .i64 (eN:Int),.bool true,.sl .ext (q4.map E.byte)]])
  (hg:ZM b=((⟨id,7,⟨ei,en,es,eh,ed⟩,Zx,0,0,tik,[],0,0,false⟩:RqV),(eN,q4))):AP Tryz.prog 73 [.sl .ext (b.map E.byte)] (Vc b) []:=by
 have hE:=W4 (eN,q4)
 have hB:=W8 (ZQ (⟨id,7,⟨ei,en,es,eh,ed⟩,Zx,0,0,tik,[],0,0,false⟩:RqV)) b
 cases hr:ZI (⟨id,7,⟨ei,en,es,eh,ed⟩,Zx,0,0,tik,[],0,0,false⟩:RqV) with
 | false=>
  rw[ZT (Jy (by rw[hg];exact hr))]
  exact(QN b id ei en es eh ed false 0 0 [] [] 0 0 tik [] 0 0 false e0 e1 e2 e3 (eN:Int) 3 0 q0 q1 q2 q3 q4 [] hN h0 h1 h2 h3 (UE _ hr)).1 rfl
 | true=>
  have hW:=VJ _ hr
  cases he:(Up (eN,q4)==0) with
  | false=>
   rw[ZT (Jz (by rw[hg];exact he))]
   exact(QN b id ei en es eh ed false 0 0 [] [] 0 0 tik [] 0 0 false e0 e1 e2 e3 (eN:Int) 0 _ q0 q1 q2 q3 q4 _ hN h0 h1 h2 h3 hW).2.1 rfl hE (ZH he)
  | true=>
   cases hz:(ZQ (⟨id,7,⟨ei,en,es,eh,ed⟩,Zx,0,0,tik,[],0,0,false⟩:RqV)==b) with
   | false=>
    rw[ZT (JA (by rw[hg];exact hz))]
    rw[hz]at hB
    exact(QN b id ei en es eh ed false 0 0 [] [] 0 0 tik [] 0 0 false e0 e1 e2 e3 (eN:Int) 0 _ q0 q1 q2 q3 q4 _ hN h0 h1 h2 h3 hW).2.2.1 rfl hE (ZH he) hB
   | true=>
    rw[Y4 (JB (by rw[hg];exact hr) (by rw[hg];exact he) (by rw[hg];exact hz)),hg]
    rw[hz]at hB
    exact(QN b id ei en es eh ed false 0 0 [] [] 0 0 tik [] 0 0 false e0 e1 e2 e3 (eN:Int) 0 _ q0 q1 q2 q3 q4 _ hN h0 h1 h2 h3 hW).2.2.2 rfl hE (ZH he) hB
theorem Mu [Known][KnownSc][KnownPow](b:List UInt8)(hb:b.length<=100000)(hk:(ZO (ZA (0,b)).2).1=7):AP Tryz.prog 73 [byE b] (Vc b) []:=by
 have h0:=Wd (0,b) (by dsimp only;omega)
 have m0:=Yw (0,b)
 dsimp only at m0
 have h1:=YP (ZA (0,b)).2 (by omega)
 have m1:=Ys (ZA (0,b)).2
 have l0:=Qa (ZO (ZA (0,b)).2).2
 have l1:=Ys (nmS (ZO (ZA (0,b)).2).2).2
 rw[show(Z2 1099511627776 (ZA (0,b)).2).1=7 from hk]at h1
 exact Mt b _ _ _ _ _ _ _ _ _ _ _ _ _ _ _ _ _ (W3 b (by omega)) h0 h1 (V7 (ZO (ZA (0,b)).2).2 (by omega)) (YP (nmS (ZO (ZA (0,b)).2).2).2 (by omega)) (by unfold ZM;rw[hk];rfl)
theorem Mv [Known][KnownPow](b:List UInt8)(id:Nat)(num:Int)(e0 e1 e2:Int)(eN:Nat)(q0 q1 q2 q3:List UInt8)
  (hN:AQ Tryz.prog 70 [.sl .ext (b.map E.byte)] [] (.ptr 0 0) [[.int .i64 e0,.bool true,.sl .ext (q0.map E.byte)]]) (h0:AQ Tryz.prog 71 [.ptr 0 0] [[.int .i64 e0,.bool true,.sl .ext (q0.map E.byte)]] (.int .u64 (id:Int)) [[.int .i64 e1,.bool true,.sl .ext (q1.map E.byte)]]) (h1:AQ Tryz.prog 72 [.ptr 0 0] [[.int .i64 e1,.bool true,.sl .ext (q1.map E.byte)]] (.int .i64 8) [[.int .i64 e2,.bool true,.sl .ext (q2.map E.byte)]])
  (h2:AQ Tryz.prog 72 [.ptr 0 0] [[.int .i64 e2,.bool true,.sl .ext (q2.map E.byte)]] (.int .i64 num) [[.int .i64 (eN:Int),.bool true,.sl .ext (q3.map E.byte)]])
  (hg:ZM b=((⟨id,8,Zx,Zx,0,num,0,[],0,0,false⟩:RqV),(eN,q3))):AP Tryz.prog 73 [.sl .ext (b.map E.byte)] (Vc b) []:=by
 have hE:=W4 (eN,q3)
 have hB:=W8 (ZQ (⟨id,8,Zx,Zx,0,num,0,[],0,0,false⟩:RqV)) b
 cases hr:ZI (⟨id,8,Zx,Zx,0,num,0,[],0,0,false⟩:RqV) with
 | false=>
  rw[ZT (Jy (by rw[hg];exact hr))]
  exact(QE b id false 0 0 [] [] false 0 0 [] [] 0 num 0 [] 0 0 false e0 e1 e2 (eN:Int) 3 0 q0 q1 q2 q3 [] hN h0 h1 h2 (UE _ hr)).1 rfl
 | true=>
  have hW:=VJ _ hr
  cases he:(Up (eN,q3)==0) with
  | false=>
   rw[ZT (Jz (by rw[hg];exact he))]
   exact(QE b id false 0 0 [] [] false 0 0 [] [] 0 num 0 [] 0 0 false e0 e1 e2 (eN:Int) 0 _ q0 q1 q2 q3 _ hN h0 h1 h2 hW).2.1 rfl hE (ZH he)
  | true=>
   cases hz:(ZQ (⟨id,8,Zx,Zx,0,num,0,[],0,0,false⟩:RqV)==b) with
   | false=>
    rw[ZT (JA (by rw[hg];exact hz))]
    rw[hz]at hB
    exact(QE b id false 0 0 [] [] false 0 0 [] [] 0 num 0 [] 0 0 false e0 e1 e2 (eN:Int) 0 _ q0 q1 q2 q3 _ hN h0 h1 h2 hW).2.2.1 rfl hE (ZH he) hB
   | true=>
    rw[Y4 (JB (by rw[hg];exact hr) (by rw[hg];exact he) (by rw[hg];exact hz)),hg]
    rw[hz]at hB
    exact(QE b id false 0 0 [] [] false 0 0 [] [] 0 num 0 [] 0 0 false e0 e1 e2 (eN:Int) 0 _ q0 q1 q2 q3 _ hN h0 h1 h2 hW).2.2.2 rfl hE (ZH he) hB
theorem Mw [Known][KnownSc][KnownPow](b:List UInt8)(hb:b.length<=100000)(hk:(ZO (ZA (0,b)).2).1=8):AP Tryz.prog 73 [byE b] (Vc b) []:=by
 have h0:=Wd (0,b) (by dsimp only;omega)
 have m0:=Yw (0,b)
 dsimp only at m0
 have h1:=YP (ZA (0,b)).2 (by omega)
 have m1:=Ys (ZA (0,b)).2
 have l0:=Ys (ZO (ZA (0,b)).2).2
 rw[show(Z2 1099511627776 (ZA (0,b)).2).1=8 from hk]at h1
 exact Mv b _ _ _ _ _ _ _ _ _ _ (W3 b (by omega)) h0 h1 (YP (ZO (ZA (0,b)).2).2 (by omega)) (by unfold ZM;rw[hk];rfl)
theorem Mx [Known][KnownPow](b:List UInt8)(id:Nat)(num:Int)(e0 e1 e2:Int)(eN:Nat)(q0 q1 q2 q3:List UInt8)
  (hN:AQ Tryz.prog 70 [.sl .ext (b.map E.byte)] [] (.ptr 0 0) [[.int .i64 e0,.bool true,.sl .ext (q0.map E.byte)]]) (h0:AQ Tryz.prog 71 [.ptr 0 0] [[.int .i64 e0,.bool true,.sl .ext (q0.map E.byte)]] (.int .u64 (id:Int)) [[.int .i64 e1,.bool true,.sl .ext (q1.map E.byte)]]) (h1:AQ Tryz.prog 72 [.ptr 0 0] [[.int .i64 e1,.bool true,.sl .ext (q1.map E.byte)]] (.int .i64 9) [[.int .i64 e2,.bool true,.sl .ext (q2.map E.byte)]])
  (h2:AQ Tryz.prog 72 [.ptr 0 0] [[.int .i64 e2,.bool true,.sl .ext (q2.map E.byte)]] (.int .i64 num) [[.int .i64 (eN:Int),.bool true,.sl .ext (q3.map E.byte)]])
  (hg:ZM b=((⟨id,9,Zx,Zx,0,num,0,[],0,0,false⟩:RqV),(eN,q3))):AP Tryz.prog 73 [.sl .ext (b.map E.byte)] (Vc b) []:=by
 have hE:=W4 (eN,q3)
 have hB:=W8 (ZQ (⟨id,9,Zx,Zx,0,num,0,[],0,0,false⟩:RqV)) b
 cases hr:ZI (⟨id,9,Zx,Zx,0,num,0,[],0,0,false⟩:RqV) with
 | false=>
  rw[ZT (Jy (by rw[hg];exact hr))]
  exact(QF b id false 0 0 [] [] false 0 0 [] [] 0 num 0 [] 0 0 false e0 e1 e2 (eN:Int) 3 0 q0 q1 q2 q3 [] hN h0 h1 h2 (UE _ hr)).1 rfl
 | true=>
  have hW:=VJ _ hr
  cases he:(Up (eN,q3)==0) with
  | false=>
   rw[ZT (Jz (by rw[hg];exact he))]
   exact(QF b id false 0 0 [] [] false 0 0 [] [] 0 num 0 [] 0 0 false e0 e1 e2 (eN:Int) 0 _ q0 q1 q2 q3 _ hN h0 h1 h2 hW).2.1 rfl hE (ZH he)
  | true=>
   cases hz:(ZQ (⟨id,9,Zx,Zx,0,num,0,[],0,0,false⟩:RqV)==b) with
   | false=>
    rw[ZT (JA (by rw[hg];exact hz))]
    rw[hz]at hB
    exact(QF b id false 0 0 [] [] false 0 0 [] [] 0 num 0 [] 0 0 false e0 e1 e2 (eN:Int) 0 _ q0 q1 q2 q3 _ hN h0 h1 h2 hW).2.2.1 rfl hE (ZH he) hB
   | true=>
    rw[Y4 (JB (by rw[hg];exact hr) (by rw[hg];exact he) (by rw[hg];exact hz)),hg]
    rw[hz]at hB
    exact(QF b id false 0 0 [] [] false 0 0 [] [] 0 num 0 [] 0 0 false e0 e1 e2 (eN:Int) 0 _ q0 q1 q2 q3 _ hN h0 h1 h2 hW).2.2.2 rfl hE (ZH he) hB
theorem My [Known][KnownSc][KnownPow](b:List UInt8)(hb:b.length<=100000)(hk:(ZO (ZA (0,b)).2).1=9):AP Tryz.prog 73 [byE b] (Vc b) []:=by
 have h0:=Wd (0,b) (by dsimp only;omega)
 have m0:=Yw (0,b)
 dsimp only at m0
 have h1:=YP (ZA (0,b)).2 (by omega)
 have m1:=Ys (ZA (0,b)).2
 have l0:=Ys (ZO (ZA (0,b)).2).2
 rw[show(Z2 1099511627776 (ZA (0,b)).2).1=9 from hk]at h1
 exact Mx b _ _ _ _ _ _ _ _ _ _ (W3 b (by omega)) h0 h1 (YP (ZO (ZA (0,b)).2).2 (by omega)) (by unfold ZM;rw[hk];rfl)
theorem Nn [Known][KnownPow](b:List UInt8)(id:Nat)(on:Bool)(e0 e1 e2:Int)(eN:Nat)(q0 q1 q2 q3:List UInt8)
  (hN:AQ Tryz.prog 70 [.sl .ext (b.map E.byte)] [] (.ptr 0 0) [[.int .i64 e0,.bool true,.sl .ext (q0.map E.byte)]]) (h0:AQ Tryz.prog 71 [.ptr 0 0] [[.int .i64 e0,.bool true,.sl .ext (q0.map E.byte)]] (.int .u64 (id:Int)) [[.int .i64 e1,.bool true,.sl .ext (q1.map E.byte)]]) (h1:AQ Tryz.prog 72 [.ptr 0 0] [[.int .i64 e1,.bool true,.sl .ext (q1.map E.byte)]] (.int .i64 10) [[.int .i64 e2,.bool true,.sl .ext (q2.map E.byte)]])
  (h2:AQ Tryz.prog 106 [.ptr 0 0] [[.int .i64 e2,.bool true,.sl .ext (q2.map E.byte)]] (.bool on) [[.int .i64 (eN:Int),.bool true,.sl .ext (q3.map E.byte)]])
  (hg:ZM b=((⟨id,10,Zx,Zx,0,0,0,[],0,0,on⟩:RqV),(eN,q3))):AP Tryz.prog 73 [.sl .ext (b.map E.byte)] (Vc b) []:=by
 have hE:=W4 (eN,q3)
 have hB:=W8 (ZQ (⟨id,10,Zx,Zx,0,0,0,[],0,0,on⟩:RqV)) b
 cases hr:ZI (⟨id,10,Zx,Zx,0,0,0,[],0,0,on⟩:RqV) with
 | false=>
  rw[ZT (Jy (by rw[hg];exact hr))]
  exact(U7 b id false 0 0 [] [] false 0 0 [] [] 0 0 0 [] 0 0 on e0 e1 e2 (eN:Int) 3 0 q0 q1 q2 q3 [] hN h0 h1 h2 (UE _ hr)).1 rfl
 | true=>
  have hW:=VJ _ hr
  cases he:(Up (eN,q3)==0) with
  | false=>
   rw[ZT (Jz (by rw[hg];exact he))]
   exact(U7 b id false 0 0 [] [] false 0 0 [] [] 0 0 0 [] 0 0 on e0 e1 e2 (eN:Int) 0 _ q0 q1 q2 q3 _ hN h0 h1 h2 hW).2.1 rfl hE (ZH he)
  | true=>
   cases hz:(ZQ (⟨id,10,Zx,Zx,0,0,0,[],0,0,on⟩:RqV)==b) with
   | false=>
    rw[ZT (JA (by rw[hg];exact hz))]
    rw[hz]at hB
    exact(U7 b id false 0 0 [] [] false 0 0 [] [] 0 0 0 [] 0 0 on e0 e1 e2 (eN:Int) 0 _ q0 q1 q2 q3 _ hN h0 h1 h2 hW).2.2.1 rfl hE (ZH he) hB
   | true=>
    rw[Y4 (JB (by rw[hg];exact hr) (by rw[hg];exact he) (by rw[hg];exact hz)),hg]
    rw[hz]at hB
    exact(U7 b id false 0 0 [] [] false 0 0 [] [] 0 0 0 [] 0 0 on e0 e1 e2 (eN:Int) 0 _ q0 q1 q2 q3 _ hN h0 h1 h2 hW).2.2.2 rfl hE (ZH he) hB
theorem Np [Known][KnownSc][KnownPow](b:List UInt8)(hb:b.length<=100000)(hk:(ZO (ZA (0,b)).2).1=10):AP Tryz.prog 73 [byE b] (Vc b) []:=by
 have h0:=Wd (0,b) (by dsimp only;omega)
 have m0:=Yw (0,b)
 dsimp only at m0
 have h1:=YP (ZA (0,b)).2 (by omega)
 have m1:=Ys (ZA (0,b)).2
 have l0:=Gx (ZO (ZA (0,b)).2).2
 rw[show(Z2 1099511627776 (ZA (0,b)).2).1=10 from hk]at h1
 exact Nn b _ _ _ _ _ _ _ _ _ _ (W3 b (by omega)) h0 h1 (KX (ZO (ZA (0,b)).2).2 (by omega)) (by unfold ZM;rw[hk];rfl)
theorem Nq [Known][KnownPow](b:List UInt8)(id:Nat)(e0 e1:Int)(eN:Nat)(q0 q1 q2:List UInt8)
  (hN:AQ Tryz.prog 70 [.sl .ext (b.map E.byte)] [] (.ptr 0 0) [[.int .i64 e0,.bool true,.sl .ext (q0.map E.byte)]]) (h0:AQ Tryz.prog 71 [.ptr 0 0] [[.int .i64 e0,.bool true,.sl .ext (q0.map E.byte)]] (.int .u64 (id:Int)) [[.int .i64 e1,.bool true,.sl .ext (q1.map E.byte)]]) (h1:AQ Tryz.prog 72 [.ptr 0 0] [[.int .i64 e1,.bool true,.sl .ext (q1.map E.byte)]] (.int .i64 11) [[.int .i64 (eN:Int),.bool true,.sl .ext (q2.map E.byte)]])
  (hg:ZM b=((⟨id,11,Zx,Zx,0,0,0,[],0,0,false⟩:RqV),(eN,q2))):AP Tryz.prog 73 [.sl .ext (b.map E.byte)] (Vc b) []:=by
 have hE:=W4 (eN,q2)
 have hB:=W8 (ZQ (⟨id,11,Zx,Zx,0,0,0,[],0,0,false⟩:RqV)) b
 cases hr:ZI (⟨id,11,Zx,Zx,0,0,0,[],0,0,false⟩:RqV) with
 | false=>
  rw[ZT (Jy (by rw[hg];exact hr))]
  exact(U8 b id false 0 0 [] [] false 0 0 [] [] 0 0 0 [] 0 0 false e0 e1 (eN:Int) 3 0 q0 q1 q2 [] hN h0 h1 (UE _ hr)).1 rfl
 | true=>
  have hW:=VJ _ hr
  cases he:(Up (eN,q2)==0) with
  | false=>
   rw[ZT (Jz (by rw[hg];exact he))]
   exact(U8 b id false 0 0 [] [] false 0 0 [] [] 0 0 0 [] 0 0 false e0 e1 (eN:Int) 0 _ q0 q1 q2 _ hN h0 h1 hW).2.1 rfl hE (ZH he)
  | true=>
   cases hz:(ZQ (⟨id,11,Zx,Zx,0,0,0,[],0,0,false⟩:RqV)==b) with
   | false=>
    rw[ZT (JA (by rw[hg];exact hz))]
    rw[hz]at hB
    exact(U8 b id false 0 0 [] [] false 0 0 [] [] 0 0 0 [] 0 0 false e0 e1 (eN:Int) 0 _ q0 q1 q2 _ hN h0 h1 hW).2.2.1 rfl hE (ZH he) hB
   | true=>
    rw[Y4 (JB (by rw[hg];exact hr) (by rw[hg];exact he) (by rw[hg];exact hz)),hg]
    rw[hz]at hB
    exact(U8 b id false 0 0 [] [] false 0 0 [] [] 0 0 0 [] 0 0 false e0 e1 (eN:Int) 0 _ q0 q1 q2 _ hN h0 h1 hW).2.2.2 rfl hE (ZH he) hB
theorem Nr [Known][KnownSc][KnownPow](b:List UInt8)(hb:b.length<=100000)(hk:(ZO (ZA (0,b)).2).1=11):AP Tryz.prog 73 [byE b] (Vc b) []:=by
 have h0:=Wd (0,b) (by dsimp only;omega)
 have m0:=Yw (0,b)
 dsimp only at m0
 have h1:=YP (ZA (0,b)).2 (by omega)
 have m1:=Ys (ZA (0,b)).2
 rw[show(Z2 1099511627776 (ZA (0,b)).2).1=11 from hk]at h1
 exact Nq b _ _ _ _ _ _ _ (W3 b (by omega)) h0 h1  (by unfold ZM;rw[hk];rfl)
theorem Ns [Known][KnownPow](b:List UInt8)(id:Nat)(tok:Nat)(e0 e1 e2:Int)(eN:Nat)(q0 q1 q2 q3:List UInt8)
  (hN:AQ Tryz.prog 70 [.sl .ext (b.map E.byte)] [] (.ptr 0 0) [[.int .i64 e0,.bool true,.sl .ext (q0.map E.byte)]]) (h0:AQ Tryz.prog 71 [.ptr 0 0] [[.int .i64 e0,.bool true,.sl .ext (q0.map E.byte)]] (.int .u64 (id:Int)) [[.int .i64 e1,.bool true,.sl .ext (q1.map E.byte)]]) (h1:AQ Tryz.prog 72 [.ptr 0 0] [[.int .i64 e1,.bool true,.sl .ext (q1.map E.byte)]] (.int .i64 12) [[.int .i64 e2,.bool true,.sl .ext (q2.map E.byte)]])
  (h2:AQ Tryz.prog 71 [.ptr 0 0] [[.int .i64 e2,.bool true,.sl .ext (q2.map E.byte)]] (.int .u64 (tok:Int)) [[.int .i64 (eN:Int),.bool true,.sl .ext (q3.map E.byte)]])
  (hg:ZM b=((⟨id,12,Zx,Zx,0,0,0,[],0,tok,false⟩:RqV),(eN,q3))):AP Tryz.prog 73 [.sl .ext (b.map E.byte)] (Vc b) []:=by
 have hE:=W4 (eN,q3)
 have hB:=W8 (ZQ (⟨id,12,Zx,Zx,0,0,0,[],0,tok,false⟩:RqV)) b
 cases hr:ZI (⟨id,12,Zx,Zx,0,0,0,[],0,tok,false⟩:RqV) with
 | false=>
  rw[ZT (Jy (by rw[hg];exact hr))]
  exact(U9 b id false 0 0 [] [] false 0 0 [] [] 0 0 0 [] 0 tok false e0 e1 e2 (eN:Int) 3 0 q0 q1 q2 q3 [] hN h0 h1 h2 (UE _ hr)).1 rfl
 | true=>
  have hW:=VJ _ hr
  cases he:(Up (eN,q3)==0) with
  | false=>
   rw[ZT (Jz (by rw[hg];exact he))]
   exact(U9 b id false 0 0 [] [] false 0 0 [] [] 0 0 0 [] 0 tok false e0 e1 e2 (eN:Int) 0 _ q0 q1 q2 q3 _ hN h0 h1 h2 hW).2.1 rfl hE (ZH he)
  | true=>
   cases hz:(ZQ (⟨id,12,Zx,Zx,0,0,0,[],0,tok,false⟩:RqV)==b) with
   | false=>
    rw[ZT (JA (by rw[hg];exact hz))]
    rw[hz]at hB
    exact(U9 b id false 0 0 [] [] false 0 0 [] [] 0 0 0 [] 0 tok false e0 e1 e2 (eN:Int) 0 _ q0 q1 q2 q3 _ hN h0 h1 h2 hW).2.2.1 rfl hE (ZH he) hB
   | true=>
    rw[Y4 (JB (by rw[hg];exact hr) (by rw[hg];exact he) (by rw[hg];exact hz)),hg]
    rw[hz]at hB
    exact(U9 b id false 0 0 [] [] false 0 0 [] [] 0 0 0 [] 0 tok false e0 e1 e2 (eN:Int) 0 _ q0 q1 q2 q3 _ hN h0 h1 h2 hW).2.2.2 rfl hE (ZH he) hB
theorem Nt [Known][KnownSc][KnownPow](b:List UInt8)(hb:b.length<=100000)(hk:(ZO (ZA (0,b)).2).1=12):AP Tryz.prog 73 [byE b] (Vc b) []:=by
 have h0:=Wd (0,b) (by dsimp only;omega)
 have m0:=Yw (0,b)
 dsimp only at m0
 have h1:=YP (ZA (0,b)).2 (by omega)
 have m1:=Ys (ZA (0,b)).2
 have l0:=Yw (ZO (ZA (0,b)).2).2
 rw[show(Z2 1099511627776 (ZA (0,b)).2).1=12 from hk]at h1
 exact Ns b _ _ _ _ _ _ _ _ _ _ (W3 b (by omega)) h0 h1 (Wd (ZO (ZA (0,b)).2).2 (by omega)) (by unfold ZM;rw[hk];rfl)
theorem Mz [Known][KnownPow](b:List UInt8)(kd:Int)(id:Nat)(e0 e1:Int)(eN:Nat)(q0 q1 q2:List UInt8)
  (k1:(kd==1)=false) (k2:(kd==2)=false) (k3:(kd==3)=false) (k4:(kd==4)=false) (k5:(kd==5)=false) (k6:(kd==6)=false) (k7:(kd==7)=false) (k8:(kd==8)=false) (k9:(kd==9)=false) (k10:(kd==10)=false) (k12:(kd==12)=false)
  (hN:AQ Tryz.prog 70 [.sl .ext (b.map E.byte)] [] (.ptr 0 0) [[.int .i64 e0,.bool true,.sl .ext (q0.map E.byte)]]) (h0:AQ Tryz.prog 71 [.ptr 0 0] [[.int .i64 e0,.bool true,.sl .ext (q0.map E.byte)]] (.int .u64 (id:Int)) [[.int .i64 e1,.bool true,.sl .ext (q1.map E.byte)]]) (h1:AQ Tryz.prog 72 [.ptr 0 0] [[.int .i64 e1,.bool true,.sl .ext (q1.map E.byte)]] (.int .i64 kd) [[.int .i64 (eN:Int),.bool true,.sl .ext (q2.map E.byte)]])
  (hg:ZM b=((⟨id,kd,Zx,Zx,0,0,0,[],0,0,false⟩:RqV),(eN,q2))):AP Tryz.prog 73 [.sl .ext (b.map E.byte)] (Vc b) []:=by
 have hE:=W4 (eN,q2)
 have hB:=W8 (ZQ (⟨id,kd,Zx,Zx,0,0,0,[],0,0,false⟩:RqV)) b
 cases hr:ZI (⟨id,kd,Zx,Zx,0,0,0,[],0,0,false⟩:RqV) with
 | false=>
  rw[ZT (Jy (by rw[hg];exact hr))]
  exact(QG b kd id false 0 0 [] [] false 0 0 [] [] 0 0 0 [] 0 0 false e0 e1 (eN:Int) 3 0 q0 q1 q2 [] k1 k2 k3 k4 k5 k6 k7 k8 k9 k10 k12 hN h0 h1 (UE _ hr)).1 rfl
 | true=>
  have hW:=VJ _ hr
  cases he:(Up (eN,q2)==0) with
  | false=>
   rw[ZT (Jz (by rw[hg];exact he))]
   exact(QG b kd id false 0 0 [] [] false 0 0 [] [] 0 0 0 [] 0 0 false e0 e1 (eN:Int) 0 _ q0 q1 q2 _ k1 k2 k3 k4 k5 k6 k7 k8 k9 k10 k12 hN h0 h1 hW).2.1 rfl hE (ZH he)
  | true=>
   cases hz:(ZQ (⟨id,kd,Zx,Zx,0,0,0,[],0,0,false⟩:RqV)==b) with
   | false=>
    rw[ZT (JA (by rw[hg];exact hz))]
    rw[hz]at hB
    exact(QG b kd id false 0 0 [] [] false 0 0 [] [] 0 0 0 [] 0 0 false e0 e1 (eN:Int) 0 _ q0 q1 q2 _ k1 k2 k3 k4 k5 k6 k7 k8 k9 k10 k12 hN h0 h1 hW).2.2.1 rfl hE (ZH he) hB
   | true=>
    rw[Y4 (JB (by rw[hg];exact hr) (by rw[hg];exact he) (by rw[hg];exact hz)),hg]
    rw[hz]at hB
    exact(QG b kd id false 0 0 [] [] false 0 0 [] [] 0 0 0 [] 0 0 false e0 e1 (eN:Int) 0 _ q0 q1 q2 _ k1 k2 k3 k4 k5 k6 k7 k8 k9 k10 k12 hN h0 h1 hW).2.2.2 rfl hE (ZH he) hB
theorem MA [Known][KnownSc][KnownPow](b:List UInt8)(hb:b.length<=100000)(k1:(((ZO (ZA (0,b)).2).1:Int)==1)=false)(k2:(((ZO (ZA (0,b)).2).1:Int)==2)=false)(k3:(((ZO (ZA (0,b)).2).1:Int)==3)=false)(k4:(((ZO (ZA (0,b)).2).1:Int)==4)=false)(k5:(((ZO (ZA (0,b)).2).1:Int)==5)=false)(k6:(((ZO (ZA (0,b)).2).1:Int)==6)=false)(k7:(((ZO (ZA (0,b)).2).1:Int)==7)=false)(k8:(((ZO (ZA (0,b)).2).1:Int)==8)=false)(k9:(((ZO (ZA (0,b)).2).1:Int)==9)=false)(k10:(((ZO (ZA (0,b)).2).1:Int)==10)=false)(k12:(((ZO (ZA (0,b)).2).1:Int)==12)=false):AP Tryz.prog 73 [byE b] (Vc b) []:=by
 have h0:=Wd (0,b) (by dsimp only;omega)
 have m0:=Yw (0,b)
 dsimp only at m0
 have h1:=YP (ZA (0,b)).2 (by omega)
 have m1:=Ys (ZA (0,b)).2
 exact Mz b _ _ _ _ _ _ _ _ k1 k2 k3 k4 k5 k6 k7 k8 k9 k10 k12 (W3 b (by omega)) h0 h1  (by
   have kk:∀ i:Nat,(((ZO (ZA (0,b)).2).1:Int)==(i:Int))=((ZO (ZA (0,b)).2).1==i):=fun i=>by rw[Bool.eq_iff_iff,beq_iff_eq,beq_iff_eq];omega
   unfold ZM WR
   rw[show((ZO (ZA (0,b)).2).1==1)=false from(kk 1).symm.trans k1,show((ZO (ZA (0,b)).2).1==2)=false from(kk 2).symm.trans k2,show((ZO (ZA (0,b)).2).1==3)=false from(kk 3).symm.trans k3,show((ZO (ZA (0,b)).2).1==4)=false from(kk 4).symm.trans k4,show((ZO (ZA (0,b)).2).1==5)=false from(kk 5).symm.trans k5,show((ZO (ZA (0,b)).2).1==6)=false from(kk 6).symm.trans k6,show((ZO (ZA (0,b)).2).1==7)=false from(kk 7).symm.trans k7,show((ZO (ZA (0,b)).2).1==8)=false from(kk 8).symm.trans k8,show((ZO (ZA (0,b)).2).1==9)=false from(kk 9).symm.trans k9,show((ZO (ZA (0,b)).2).1==10)=false from(kk 10).symm.trans k10,show((ZO (ZA (0,b)).2).1==12)=false from(kk 12).symm.trans k12]
   rfl)
theorem OK [Known][KnownSc][KnownPow](b:List UInt8)(hb:b.length<=100000):AP Tryz.prog 73 [byE b] (Vc b) []:=by
 rcases Xe (((ZO (ZA (0,b)).2).1:Nat):Int) with h|h|h|h|h|h|h|h|h|h|h|h|⟨k1,k2,k3,k4,k5,k6,k7,k8,k9,k10,k11,k12⟩
 ·exact Mi b hb (by omega)
 ·exact Mk b hb (by omega)
 ·exact Mm b hb (by omega)
 ·exact Mo b hb (by omega)
 ·exact Mq b hb (by omega)
 ·exact Ms b hb (by omega)
 ·exact Mu b hb (by omega)
 ·exact Mw b hb (by omega)
 ·exact My b hb (by omega)
 ·exact Np b hb (by omega)
 ·exact Nr b hb (by omega)
 ·exact Nt b hb (by omega)
 ·exact MA b hb k1 k2 k3 k4 k5 k6 k7 k8 k9 k10 k12
theorem JC [Known][KnownSc][KnownPow](b:List UInt8)(hb:b.length<=1000):AP Tryz.prog 73 [byE b] (Vc b) []:=OK b (by omega)
end Go.Proofs.YtchlgagdbflkmaaGreatDoor
end
