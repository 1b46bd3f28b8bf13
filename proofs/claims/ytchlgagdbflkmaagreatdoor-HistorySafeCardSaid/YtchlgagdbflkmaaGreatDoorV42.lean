/- HistorySafe: rounds of some lines (hsgen5.py). -/
import Derived.Test.YtchlgagdbflkmaaGreatDoorV41
set_option linter.unusedVariables false
set_option linter.unusedSimpArgs false
section
open Go.RowKit Go.Pl Go.Av
namespace Go.Proofs.YtchlgagdbflkmaaGreatDoor
set_option maxHeartbeats 4000000
set_option maxRecDepth 10000 in
theorem D7 [Known](ops:List OpH)(i k:Nat)(hk:k+i=80)(hlt:i<ops.length/\i<80)(kd:Int)(x:EvV)(r:RyV)(g1:Z2 x=false)(g2:decide (((r.data.map E.byte).length:Int)>1000)=false)(n:Int)(L:List Ln)(s c:Nat)(hL:L ≠ [])(hLi:L.length<=i)(hO:WU L s)(hc:L.length<=c)(hkd0:kd ≠ 0)(hkd1:kd ≠ 1)(hkd2:kd ≠ 2)(hkd3:kd ≠ 3)(hx:ops[i]?=some ⟨kd,n,x,r⟩)  (Q:X->St->Prop) :
  AW Tryz.prog (Ya (Tryz.f5.body.getD .skip)) ⟨131,hvT ops i,hsR L s c,[],(([]:List (List D)).length,([]:List Fr).length)⟩ (X.then (LandS (HvJ ops) 131 (([]:List (List D)).length,([]:List Fr).length) k) Q):=by
 refine Dv ops i k hk hlt kd x r g1 g2 _ L s c hL hLi hO hc hx Q fun Q2=>?_
 conv=>enter [3];whnf
 have q0:(kd==0)=false:=by simpa using hkd0
 have q1:(kd==1)=false:=by simpa using hkd1
 have q2:(kd==2)=false:=by simpa using hkd2
 have q3:(kd==3)=false:=by simpa using hkd3
 repeat'(first|(apply Zh Za;exact Z)|(apply Zs Za;exact Z)|(apply Zf;exact Z;(first|with_reducible assumption|decide +kernel|(solve|simp only[bn])))|refine ZD ?_)
 all_goals
  refine LandS.mk' (m:=0) (tm1:=hvU ops i s (.sl .ext (L.map lnE))) (bx:=hsR L s c) [0,1] [] (by decide) ⟨L,s,by omega,hO,Du _ _,rfl,.inr ⟨hL,c,hc,rfl,rfl⟩⟩ rfl rfl rfl rfl ?_ rfl rfl rfl
  exact .cons rfl (.cons rfl (.cons rfl (.cons rfl (.cons rfl .nil))))
set_option maxRecDepth 10000 in
theorem DW [Known](ops:List OpH)(i k:Nat)(hk:k+i=80)(hlt:i<ops.length/\i<80)(kd:Int)(x:EvV)(r:RyV)(g1:Z2 x=false)(g2:decide (((r.data.map E.byte).length:Int)>1000)=false)(n:Int)(L:List Ln)(s c:Nat)(hL:L ≠ [])(hLi:L.length<=i)(hO:WU L s)(hc:L.length<=c)(hkd:kd=1)(hx:ops[i]?=some ⟨kd,n,x,r⟩)(h0:n<0\/(L.length:Int)<=n)(Q:X->St->Prop) :
  AW Tryz.prog (Ya (Tryz.f5.body.getD .skip)) ⟨131,hvT ops i,hsR L s c,[],(([]:List (List D)).length,([]:List Fr).length)⟩ (X.then (LandS (HvJ ops) 131 (([]:List (List D)).length,([]:List Fr).length) k) Q):=by
 refine Dv ops i k hk hlt kd x r g1 g2 _ L s c hL hLi hO hc hx Q fun Q2=>?_
 conv=>enter [3];whnf
 have q0:(kd==0)=false:=by rw[hkd];rfl
 have q1:(kd==1)=true:=by rw[hkd];rfl
 repeat'(first|(apply Zx [0,1] [] (Na L s c n h0);kernel_rfl;(iterate 10 exact Z))|(apply Zg Za;exact Z)|(apply Zh Za;exact Z)|(apply Zs Za;exact Z)|(apply Ze;exact Z;(first|with_reducible assumption|decide +kernel|(solve|simp only[bn])))|(apply Zf;exact Z;(first|with_reducible assumption|decide +kernel|(solve|simp only[bn])))|refine ZD ?_)
 all_goals
  refine LandS.mk' (m:=0) (tm1:=hvU ops i s (.sl .ext (L.map lnE))) (bx:=hsR L s c) [0,1] [] (by decide) ⟨L,s,by omega,hO,Du _ _,rfl,.inr ⟨hL,c,hc,rfl,rfl⟩⟩ rfl rfl rfl rfl ?_ rfl rfl rfl
  exact .cons rfl (.cons rfl (.cons rfl (.cons rfl (.cons rfl .nil))))
set_option maxRecDepth 10000 in
theorem DX [Known](ops:List OpH)(i k:Nat)(hk:k+i=80)(hlt:i<ops.length/\i<80)(kd:Int)(x:EvV)(r:RyV)(g1:Z2 x=false)(g2:decide (((r.data.map E.byte).length:Int)>1000)=false)(n:Nat)(L:List Ln)(s c:Nat)(hL:L ≠ [])(hLi:L.length<=i)(hO:WU L s)(hc:L.length<=c)(hkd:kd=1)(hx:ops[i]?=some ⟨kd,(n:Int),x,r⟩)(y:Ln)(hy:L[n]?=some y)(h0:y.lost=true\/s<=n)(Q:X->St->Prop) :
  AW Tryz.prog (Ya (Tryz.f5.body.getD .skip)) ⟨131,hvT ops i,hsR L s c,[],(([]:List (List D)).length,([]:List Fr).length)⟩ (X.then (LandS (HvJ ops) 131 (([]:List (List D)).length,([]:List Fr).length) k) Q):=by
 refine Dv ops i k hk hlt kd x r g1 g2 _ L s c hL hLi hO hc hx Q fun Q2=>?_
 conv=>enter [3];whnf
 have q0:(kd==0)=false:=by rw[hkd];rfl
 have q1:(kd==1)=true:=by rw[hkd];rfl
 repeat'(first|(apply Zx [0,1] [] (J8 L s c n y hy h0);kernel_rfl;(iterate 10 exact Z))|(apply Zg Za;exact Z)|(apply Zh Za;exact Z)|(apply Zs Za;exact Z)|(apply Ze;exact Z;(first|with_reducible assumption|decide +kernel|(solve|simp only[bn])))|(apply Zf;exact Z;(first|with_reducible assumption|decide +kernel|(solve|simp only[bn])))|refine ZD ?_)
 all_goals
  refine LandS.mk' (m:=0) (tm1:=hvU ops i s (.sl .ext (L.map lnE))) (bx:=hsR L s c) [0,1] [] (by decide) ⟨L,s,by omega,hO,Du _ _,rfl,.inr ⟨hL,c,hc,rfl,rfl⟩⟩ rfl rfl rfl rfl ?_ rfl rfl rfl
  exact .cons rfl (.cons rfl (.cons rfl (.cons rfl (.cons rfl .nil))))
set_option maxRecDepth 10000 in
theorem DY [Known](ops:List OpH)(i k:Nat)(hk:k+i=80)(hlt:i<ops.length/\i<80)(kd:Int)(x:EvV)(r:RyV)(g1:Z2 x=false)(g2:decide (((r.data.map E.byte).length:Int)>1000)=false)(n:Nat)(L:List Ln)(s c:Nat)(hL:L ≠ [])(hLi:L.length<=i)(hO:WU L s)(hc:L.length<=c)(hkd:kd=1)(hx:ops[i]?=some ⟨kd,(n:Int),x,r⟩)(y:Ln)(hy:L[n]?=some y)(h0:y.lost=false)(h1:n<s)(h2:y.told=true)(Q:X->St->Prop) :
  AW Tryz.prog (Ya (Tryz.f5.body.getD .skip)) ⟨131,hvT ops i,hsR L s c,[],(([]:List (List D)).length,([]:List Fr).length)⟩ (X.then (LandS (HvJ ops) 131 (([]:List (List D)).length,([]:List Fr).length) k) Q):=by
 refine Dv ops i k hk hlt kd x r g1 g2 _ L s c hL hLi hO hc hx Q fun Q2=>?_
 conv=>enter [3];whnf
 have q0:(kd==0)=false:=by rw[hkd];rfl
 have q1:(kd==1)=true:=by rw[hkd];rfl
 repeat'(first|(apply Zx [0,1] [] (OM L s c n y hy h0 h1 h2);kernel_rfl;(iterate 10 exact Z))|(apply Zg Za;exact Z)|(apply Zh Za;exact Z)|(apply Zs Za;exact Z)|(apply Ze;exact Z;(first|with_reducible assumption|decide +kernel|(solve|simp only[bn])))|(apply Zf;exact Z;(first|with_reducible assumption|decide +kernel|(solve|simp only[bn])))|refine ZD ?_)
 all_goals
  refine LandS.mk' (m:=0) (tm1:=hvU ops i s (.sl .ext (L.map lnE))) (bx:=hsR L s c) [0,1] [] (by decide) ⟨L,s,by omega,hO,Du _ _,rfl,.inr ⟨hL,c,hc,rfl,rfl⟩⟩ rfl rfl rfl rfl ?_ rfl rfl rfl
  exact .cons rfl (.cons rfl (.cons rfl (.cons rfl (.cons rfl .nil))))
set_option maxRecDepth 10000 in
theorem D8 [Known](ops:List OpH)(i k:Nat)(hk:k+i=80)(hlt:i<ops.length/\i<80)(kd:Int)(x:EvV)(r:RyV)(g1:Z2 x=false)(g2:decide (((r.data.map E.byte).length:Int)>1000)=false)(n:Nat)(L:List Ln)(s c:Nat)(hL:L ≠ [])(hLi:L.length<=i)(hO:WU L s)(hc:L.length<=c)(hkd:kd=1)(hx:ops[i]?=some ⟨kd,(n:Int),x,r⟩)(y:Ln)(hy:L[n]?=some y)(h0:y.lost=false)(h1:n<s)(h2:y.told=false)(Q:X->St->Prop) :
  AW Tryz.prog (Ya (Tryz.f5.body.getD .skip)) ⟨131,hvT ops i,hsR L s c,[],(([]:List (List D)).length,([]:List Fr).length)⟩ (X.then (LandS (HvJ ops) 131 (([]:List (List D)).length,([]:List Fr).length) k) Q):=by
 refine Dv ops i k hk hlt kd x r g1 g2 _ L s c hL hLi hO hc hx Q fun Q2=>?_
 conv=>enter [3];whnf
 have q0:(kd==0)=false:=by rw[hkd];rfl
 have q1:(kd==1)=true:=by rw[hkd];rfl
 obtain⟨L2,hL2⟩:∃ L2,L2=L.set n ⟨y.e,y.r,true,y.lost⟩:=⟨_,rfl⟩
 have hC:=Gv L L2 s c n y hy h0 h1 h2 hL2
 have hll:L2.length=L.length:=by rw[hL2,List.length_set]
 have hO2:WU L2 s:=by rw[hL2];exact Nl hO hy h0 h1
 have hRl:DA s L s L2:=by rw[hL2];exact DL hy
 have hL3:L2 ≠ []:=fun e=>hL (List.length_eq_zero_iff.1 (by rw[<- hll,e];rfl))
 clear hL2
 repeat'(first|(apply Zx [0,1] [] (hC);kernel_rfl;(iterate 10 exact Z))|(apply Zg Za;exact Z)|(apply Zh Za;exact Z)|(apply Zs Za;exact Z)|(apply Ze;exact Z;(first|with_reducible assumption|decide +kernel|(solve|simp only[bn])))|(apply Zf;exact Z;(first|with_reducible assumption|decide +kernel|(solve|simp only[bn])))|refine ZD ?_)
 all_goals
  refine LandS.mk' (m:=0) (tm1:=hvU ops i s (.sl .ext (L.map lnE))) (bx:=hsR L2 s c) [0,1] [] (by decide) ⟨L2,s,by rw[hll];omega,hO2,hRl,rfl,.inr ⟨hL3,c,by rw[hll];exact hc,rfl,rfl⟩⟩ rfl rfl rfl rfl ?_ rfl rfl rfl
  exact .cons rfl (.cons rfl (.cons rfl (.cons rfl (.cons rfl .nil))))
set_option maxRecDepth 10000 in
theorem D9 [Known](ops:List OpH)(i k:Nat)(hk:k+i=80)(hlt:i<ops.length/\i<80)(kd:Int)(x:EvV)(r:RyV)(g1:Z2 x=false)(g2:decide (((r.data.map E.byte).length:Int)>1000)=false)(n:Nat)(L:List Ln)(s c:Nat)(hL:L ≠ [])(hLi:L.length<=i)(hO:WU L s)(hc:L.length<=c)(hkd:kd=2)(hx:ops[i]?=some ⟨kd,(n:Int),x,r⟩)(h0:s<=n)(h1:n<=L.length)(Q:X->St->Prop) :
  AW Tryz.prog (Ya (Tryz.f5.body.getD .skip)) ⟨131,hvT ops i,hsR L s c,[],(([]:List (List D)).length,([]:List Fr).length)⟩ (X.then (LandS (HvJ ops) 131 (([]:List (List D)).length,([]:List Fr).length) k) Q):=by
 refine Dv ops i k hk hlt kd x r g1 g2 _ L s c hL hLi hO hc hx Q fun Q2=>?_
 conv=>enter [3];whnf
 have q0:(kd==0)=false:=by rw[hkd];rfl
 have q1:(kd==1)=false:=by rw[hkd];rfl
 have q2:(kd==2)=true:=by rw[hkd];rfl
 have hO2:=Nm hO h0 h1
 repeat'(first|(apply Zx [0,1] [] (Gu L s c n h0 h1);kernel_rfl;(iterate 10 exact Z))|(apply Zg Za;exact Z)|(apply Zh Za;exact Z)|(apply Zs Za;exact Z)|(apply Ze;exact Z;(first|with_reducible assumption|decide +kernel|(solve|simp only[bn])))|(apply Zf;exact Z;(first|with_reducible assumption|decide +kernel|(solve|simp only[bn])))|refine ZD ?_)
 all_goals
  refine LandS.mk' (m:=0) (tm1:=hvU ops i s (.sl .ext (L.map lnE))) (bx:=hsR L n c) [0,1] [] (by decide) ⟨L,n,by omega,hO2,DM h0,rfl,.inr ⟨hL,c,hc,rfl,rfl⟩⟩ rfl rfl rfl rfl ?_ rfl rfl rfl
  exact .cons rfl (.cons rfl (.cons rfl (.cons rfl (.cons rfl .nil))))
set_option maxRecDepth 10000 in
theorem DZ [Known](ops:List OpH)(i k:Nat)(hk:k+i=80)(hlt:i<ops.length/\i<80)(kd:Int)(x:EvV)(r:RyV)(g1:Z2 x=false)(g2:decide (((r.data.map E.byte).length:Int)>1000)=false)(n:Int)(L:List Ln)(s c:Nat)(hL:L ≠ [])(hLi:L.length<=i)(hO:WU L s)(hc:L.length<=c)(hkd:kd=2)(hx:ops[i]?=some ⟨kd,n,x,r⟩)(h0:n<(s:Int)\/(L.length:Int)<n)(Q:X->St->Prop) :
  AW Tryz.prog (Ya (Tryz.f5.body.getD .skip)) ⟨131,hvT ops i,hsR L s c,[],(([]:List (List D)).length,([]:List Fr).length)⟩ (X.then (LandS (HvJ ops) 131 (([]:List (List D)).length,([]:List Fr).length) k) Q):=by
 refine Dv ops i k hk hlt kd x r g1 g2 _ L s c hL hLi hO hc hx Q fun Q2=>?_
 conv=>enter [3];whnf
 have q0:(kd==0)=false:=by rw[hkd];rfl
 have q1:(kd==1)=false:=by rw[hkd];rfl
 have q2:(kd==2)=true:=by rw[hkd];rfl
 repeat'(first|(apply Zx [0,1] [] (T9 L s c n h0);kernel_rfl;(iterate 10 exact Z))|(apply Zg Za;exact Z)|(apply Zh Za;exact Z)|(apply Zs Za;exact Z)|(apply Ze;exact Z;(first|with_reducible assumption|decide +kernel|(solve|simp only[bn])))|(apply Zf;exact Z;(first|with_reducible assumption|decide +kernel|(solve|simp only[bn])))|refine ZD ?_)
 all_goals
  refine LandS.mk' (m:=0) (tm1:=hvU ops i s (.sl .ext (L.map lnE))) (bx:=hsR L s c) [0,1] [] (by decide) ⟨L,s,by omega,hO,Du _ _,rfl,.inr ⟨hL,c,hc,rfl,rfl⟩⟩ rfl rfl rfl rfl ?_ rfl rfl rfl
  exact .cons rfl (.cons rfl (.cons rfl (.cons rfl (.cons rfl .nil))))
set_option maxRecDepth 10000 in
theorem D0 [Known](ops:List OpH)(i k:Nat)(hk:k+i=80)(hlt:i<ops.length/\i<80)(kd:Int)(x:EvV)(r:RyV)(g1:Z2 x=false)(g2:decide (((r.data.map E.byte).length:Int)>1000)=false)(n:Int)(L:List Ln)(s c:Nat)(hL:L ≠ [])(hLi:L.length<=i)(hO:WU L s)(hc:L.length<=c)(hkd:kd=3)(hx:ops[i]?=some ⟨kd,n,x,r⟩)(h0:n<(((ZM (L.take s)).length:Nat):Int))(Q:X->St->Prop) :
  AW Tryz.prog (Ya (Tryz.f5.body.getD .skip)) ⟨131,hvT ops i,hsR L s c,[],(([]:List (List D)).length,([]:List Fr).length)⟩ (X.then (LandS (HvJ ops) 131 (([]:List (List D)).length,([]:List Fr).length) k) Q):=by
 refine Dv ops i k hk hlt kd x r g1 g2 _ L s c hL hLi hO hc hx Q fun Q2=>?_
 conv=>enter [3];whnf
 have q0:(kd==0)=false:=by rw[hkd];rfl
 have q1:(kd==1)=false:=by rw[hkd];rfl
 have q2:(kd==2)=false:=by rw[hkd];rfl
 have q3:(kd==3)=true:=by rw[hkd];rfl
 repeat'(first|(apply Zx [0,1] [] (Hw L s c n (by omega) hO.1 h0);kernel_rfl;(iterate 10 exact Z))|(apply Zg Za;exact Z)|(apply Zh Za;exact Z)|(apply Zs Za;exact Z)|(apply Zr;(iterate 3 exact Z);(first|with_reducible assumption|decide +kernel|(solve|simp only[bn])))|(apply Zi;exact Z;(first|with_reducible assumption|decide +kernel|(solve|simp only[bn]));exact Z;exact Z)|(apply Ze;exact Z;(first|with_reducible assumption|decide +kernel|(solve|simp only[bn])))|(apply Zf;exact Z;(first|with_reducible assumption|decide +kernel|(solve|simp only[bn]))))
 all_goals
  refine LandS.mk' (m:=0) (tm1:=hvU ops i s (.sl .ext (L.map lnE))) (bx:=hsR L s c) [0,1] [] (by decide) ⟨L,s,by omega,hO,Du _ _,rfl,.inr ⟨hL,c,hc,rfl,rfl⟩⟩ rfl rfl rfl rfl ?_ rfl rfl rfl
  exact .cons rfl (.cons rfl (.cons rfl (.cons rfl (.cons rfl .nil))))
set_option maxRecDepth 10000 in
theorem D1 [Known](ops:List OpH)(i k:Nat)(hk:k+i=80)(hlt:i<ops.length/\i<80)(kd:Int)(x:EvV)(r:RyV)(g1:Z2 x=false)(g2:decide (((r.data.map E.byte).length:Int)>1000)=false)(n:Int)(L:List Ln)(s c:Nat)(hL:L ≠ [])(hLi:L.length<=i)(hO:WU L s)(hc:L.length<=c)(hkd:kd=3)(hx:ops[i]?=some ⟨kd,n,x,r⟩)(h0:¬ n<(((ZM (L.take s)).length:Nat):Int))(h1:n>(((ZM L).length:Nat):Int))(Q:X->St->Prop) :
  AW Tryz.prog (Ya (Tryz.f5.body.getD .skip)) ⟨131,hvT ops i,hsR L s c,[],(([]:List (List D)).length,([]:List Fr).length)⟩ (X.then (LandS (HvJ ops) 131 (([]:List (List D)).length,([]:List Fr).length) k) Q):=by
 refine Dv ops i k hk hlt kd x r g1 g2 _ L s c hL hLi hO hc hx Q fun Q2=>?_
 conv=>enter [3];whnf
 have q0:(kd==0)=false:=by rw[hkd];rfl
 have q1:(kd==1)=false:=by rw[hkd];rfl
 have q2:(kd==2)=false:=by rw[hkd];rfl
 have q3:(kd==3)=true:=by rw[hkd];rfl
 repeat'(first|(apply Zx [0,1] [] (Hx L s c n (by omega) hO.1 h0 h1);kernel_rfl;(iterate 10 exact Z))|(apply Zg Za;exact Z)|(apply Zh Za;exact Z)|(apply Zs Za;exact Z)|(apply Zr;(iterate 3 exact Z);(first|with_reducible assumption|decide +kernel|(solve|simp only[bn])))|(apply Zi;exact Z;(first|with_reducible assumption|decide +kernel|(solve|simp only[bn]));exact Z;exact Z)|(apply Ze;exact Z;(first|with_reducible assumption|decide +kernel|(solve|simp only[bn])))|(apply Zf;exact Z;(first|with_reducible assumption|decide +kernel|(solve|simp only[bn]))))
 all_goals
  refine LandS.mk' (m:=0) (tm1:=hvU ops i s (.sl .ext (L.map lnE))) (bx:=hsR L s c) [0,1] [] (by decide) ⟨L,s,by omega,hO,Du _ _,rfl,.inr ⟨hL,c,hc,rfl,rfl⟩⟩ rfl rfl rfl rfl ?_ rfl rfl rfl
  exact .cons rfl (.cons rfl (.cons rfl (.cons rfl (.cons rfl .nil))))
set_option maxRecDepth 10000 in
theorem Fa [Known](ops:List OpH)(i k:Nat)(hk:k+i=80)(hlt:i<ops.length/\i<80)(kd:Int)(x:EvV)(r:RyV)(g1:Z2 x=false)(g2:decide (((r.data.map E.byte).length:Int)>1000)=false)(n:Int)(L:List Ln)(s c:Nat)(hL:L ≠ [])(hLi:L.length<=i)(hO:WU L s)(hc:L.length<=c)(hkd:kd=3)(hx:ops[i]?=some ⟨kd,n,x,r⟩)(h0:¬ n<(((ZM (L.take s)).length:Nat):Int))(h1:¬ n>(((ZM L).length:Nat):Int))(Q:X->St->Prop) :
  AW Tryz.prog (Ya (Tryz.f5.body.getD .skip)) ⟨131,hvT ops i,hsR L s c,[],(([]:List (List D)).length,([]:List Fr).length)⟩ (X.then (LandS (HvJ ops) 131 (([]:List (List D)).length,([]:List Fr).length) k) Q):=by
 refine Dv ops i k hk hlt kd x r g1 g2 _ L s c hL hLi hO hc hx Q fun Q2=>?_
 conv=>enter [3];whnf
 have q0:(kd==0)=false:=by rw[hkd];rfl
 have q1:(kd==1)=false:=by rw[hkd];rfl
 have q2:(kd==2)=false:=by rw[hkd];rfl
 have q3:(kd==3)=true:=by rw[hkd];rfl
 have hC:=OQ L s c n (by omega) hO.1 h0 h1
 have hO2:=Hz hO h0
 have hll:(crA n 0 L).length=L.length:=VF ..
 have hRl:=DH hO.1 h0
 have hL3:crA n 0 L ≠ []:=fun e=>hL (List.length_eq_zero_iff.1 (by rw[<- hll,e];rfl))
 have ec:(((L.length:Nat):Int) != (((crA n 0 L).length:Nat):Int))=false:=by rw[hll];simp
 have hC2:=Dy (crA n 0 L) L.length c
 have hC3:=LY (crA n 0 L) L.length c
 repeat'(first|(apply Zx [0,1] [] (hC);kernel_rfl;(iterate 10 exact Z))|(apply Zx [0,1] [] (hC2);kernel_rfl;(iterate 10 exact Z))|(apply Zx [0,1] [] (hC3);kernel_rfl;(iterate 10 exact Z))|(apply Zg Za;exact Z)|(apply Zh Za;exact Z)|(apply Zs Za;exact Z)|(apply Zd;(iterate 3 exact Z);(first|with_reducible assumption|decide +kernel|(solve|simp only[bn])))|(apply Zj;exact Z;(first|with_reducible assumption|decide +kernel|(solve|simp only[bn]));exact Z;exact Z)|(apply Ze;exact Z;(first|with_reducible assumption|decide +kernel|(solve|simp only[bn])))|(apply Zf;exact Z;(first|with_reducible assumption|decide +kernel|(solve|simp only[bn]))))
 all_goals
  refine LandS.mk' (m:=0) (tm1:=hvU ops i s (.sl .ext (L.map lnE))) (bx:=hsR (crA n 0 L) L.length c) [0,1] [] (by decide) ⟨crA n 0 L,L.length,by rw[hll];omega,hO2,hRl,rfl,.inr ⟨hL3,c,by rw[hll];exact hc,rfl,rfl⟩⟩ rfl rfl rfl rfl ?_ rfl rfl rfl
  exact .cons rfl (.cons rfl (.cons rfl (.cons rfl (.cons rfl .nil))))
set_option maxRecDepth 10000 in
theorem D2 [Known][KnownU8](ops:List OpH)(i k:Nat)(hk:k+i=80)(hlt:i<ops.length/\i<80)(kd:Int)(x:EvV)(r:RyV)(g1:Z2 x=false)(g2:decide (((r.data.map E.byte).length:Int)>1000)=false)(n:Int)(L:List Ln)(s c:Nat)(hL:L ≠ [])(hLi:L.length<=i)(hO:WU L s)(hc:L.length<=c)(hkd:kd=0)(hx:ops[i]?=some ⟨kd,n,x,r⟩)(h0:(Ye x&&Yk r)=false)(Q:X->St->Prop) :
  AW Tryz.prog (Ya (Tryz.f5.body.getD .skip)) ⟨131,hvT ops i,hsR L s c,[],(([]:List (List D)).length,([]:List Fr).length)⟩ (X.then (LandS (HvJ ops) 131 (([]:List (List D)).length,([]:List Fr).length) k) Q):=by
 refine Dv ops i k hk hlt kd x r g1 g2 _ L s c hL hLi hO hc hx Q fun Q2=>?_
 conv=>enter [3];whnf
 have q0:(kd==0)=true:=by rw[hkd];rfl
 have hkx:Vb ⟨x,r,false,false⟩:=UV g1 g2
 repeat'(first|(apply Zx [0,1] [] (Ho L s c x r hkx h0);kernel_rfl;(iterate 10 exact Z))|(apply Zg Za;exact Z)|(apply Zh Za;exact Z)|(apply Zs Za;exact Z)|(apply Ze;exact Z;(first|with_reducible assumption|decide +kernel|(solve|simp only[bn])))|refine ZD ?_)
 all_goals
  refine LandS.mk' (m:=0) (tm1:=hvU ops i s (.sl .ext (L.map lnE))) (bx:=hsR L s c) [0,1] [] (by decide) ⟨L,s,by omega,hO,Du _ _,rfl,.inr ⟨hL,c,hc,rfl,rfl⟩⟩ rfl rfl rfl rfl ?_ rfl rfl rfl
  exact .cons rfl (.cons rfl (.cons rfl (.cons rfl (.cons rfl .nil))))
set_option maxRecDepth 10000 in
theorem Fb [Known][KnownU8](ops:List OpH)(i k:Nat)(hk:k+i=80)(hlt:i<ops.length/\i<80)(kd:Int)(x:EvV)(r:RyV)(g1:Z2 x=false)(g2:decide (((r.data.map E.byte).length:Int)>1000)=false)(n:Int)(L:List Ln)(s c:Nat)(hL:L ≠ [])(hLi:L.length<=i)(hO:WU L s)(hc:L.length<=c)(hkd:kd=0)(hx:ops[i]?=some ⟨kd,n,x,r⟩)(h1:Ye x=true)(h2:Yk r=true)(h3:L.length+1<=c)(Q:X->St->Prop) :
  AW Tryz.prog (Ya (Tryz.f5.body.getD .skip)) ⟨131,hvT ops i,hsR L s c,[],(([]:List (List D)).length,([]:List Fr).length)⟩ (X.then (LandS (HvJ ops) 131 (([]:List (List D)).length,([]:List Fr).length) k) Q):=by
 refine Dv ops i k hk hlt kd x r g1 g2 _ L s c hL hLi hO hc hx Q fun Q2=>?_
 conv=>enter [3];whnf
 have q0:(kd==0)=true:=by rw[hkd];rfl
 have hkx:Vb ⟨x,r,false,false⟩:=UV g1 g2
 have hO2:=JJ hO x r hkx
 have hRl:=DE s L ⟨x,r,false,false⟩ hO.1
 have hln:(L++[(⟨x,r,false,false⟩:Ln)]).length=L.length+1:=by rw[List.length_append];rfl
 repeat'(first|(apply Zx [0,1] [] (Ij L s c hL (by omega) hc x r hkx h1 h2 h3);kernel_rfl;(iterate 10 exact Z))|(apply Zg Za;exact Z)|(apply Zh Za;exact Z)|(apply Zs Za;exact Z)|(apply Ze;exact Z;(first|with_reducible assumption|decide +kernel|(solve|simp only[bn])))|refine ZD ?_)
 all_goals
  refine LandS.mk' (m:=0) (tm1:=hvU ops i s (.sl .ext (L.map lnE))) (bx:=hsR (L++[⟨x,r,false,false⟩]) s c) [0,1] [] (by decide) ⟨L++[⟨x,r,false,false⟩],s,by rw[hln];omega,hO2,hRl,rfl,.inr ⟨(by simp),c,(by rw[hln];exact h3),rfl,rfl⟩⟩ rfl rfl rfl rfl ?_ rfl rfl rfl
  exact .cons rfl (.cons rfl (.cons rfl (.cons rfl (.cons rfl .nil))))
set_option maxRecDepth 10000 in
theorem Fc [Known][KnownU8](ops:List OpH)(i k:Nat)(hk:k+i=80)(hlt:i<ops.length/\i<80)(kd:Int)(x:EvV)(r:RyV)(g1:Z2 x=false)(g2:decide (((r.data.map E.byte).length:Int)>1000)=false)(n:Int)(L:List Ln)(s c:Nat)(hL:L ≠ [])(hLi:L.length<=i)(hO:WU L s)(hc:L.length<=c)(hkd:kd=0)(hx:ops[i]?=some ⟨kd,n,x,r⟩)(h1:Ye x=true)(h2:Yk r=true)(h3:c<L.length+1)(Q:X->St->Prop) :
  AW Tryz.prog (Ya (Tryz.f5.body.getD .skip)) ⟨131,hvT ops i,hsR L s c,[],(([]:List (List D)).length,([]:List Fr).length)⟩ (X.then (LandS (HvJ ops) 131 (([]:List (List D)).length,([]:List Fr).length) k) Q):=by
 refine Dv ops i k hk hlt kd x r g1 g2 _ L s c hL hLi hO hc hx Q fun Q2=>?_
 conv=>enter [3];whnf
 have q0:(kd==0)=true:=by rw[hkd];rfl
 have hkx:Vb ⟨x,r,false,false⟩:=UV g1 g2
 have hO2:=JJ hO x r hkx
 have hRl:=DE s L ⟨x,r,false,false⟩ hO.1
 have hln:(L++[(⟨x,r,false,false⟩:Ln)]).length=L.length+1:=by rw[List.length_append];rfl
 repeat'(first|(apply UB [0,1] ((Ik L s c hL (by omega) hc x r hkx h1 h2 h3));kernel_rfl;(iterate 3 exact Z);exact(fun _=>rfl);exact Z;exact Z;exact(fun _=>rfl);intro c1 hc1)|(apply Zg Za;exact Z)|(apply Zh Za;exact Z)|(apply Zs Za;exact Z)|(apply Ze;exact Z;(first|with_reducible assumption|decide +kernel|(solve|simp only[bn])))|refine ZD ?_)
 all_goals
  refine LandS.mk' (m:=0) (tm1:=hvU ops i s (.sl .ext (L.map lnE))) (bx:=[[.bool true,.bsl 1 0 (L.length+1) c1,.int .i64 (s:Int)],[.row (c1*32) (lnF (L++[⟨x,r,false,false⟩]))]]) [0,3] [] (by decide) ⟨L++[⟨x,r,false,false⟩],s,by rw[hln];omega,hO2,hRl,rfl,.inr ⟨(by simp),c1,(by rw[hln];exact hc1),(by unfold hsR;rw[hln]),rfl⟩⟩ rfl rfl rfl rfl ?_ rfl rfl rfl
  exact .cons rfl (.cons rfl (.cons rfl (.cons rfl (.cons rfl .nil))))
theorem DP [Known][KnownU8](ops:List OpH)(i k:Nat)(hk:k+i=80)(hlt:i<ops.length/\i<80)(kd:Int)(x:EvV)(r:RyV)(g1:Z2 x=false)(g2:decide (((r.data.map E.byte).length:Int)>1000)=false)(n:Int)(L:List Ln)(s:Nat)(bx:List (List D))(fr:List Fr)(hLi:L.length<=i)(hO:WU L s)(hS:HvS L s bx fr)(hx:ops[i]?=some ⟨kd,n,x,r⟩)(Q:X->St->Prop) :
  AW Tryz.prog (Ya (Tryz.f5.body.getD .skip)) ⟨131,hvT ops i,bx,fr,(([]:List (List D)).length,([]:List Fr).length)⟩ (X.then (LandS (HvJ ops) 131 (([]:List (List D)).length,([]:List Fr).length) k) Q):=by
 rcases hS with⟨rfl,rfl,rfl,rfl⟩ | ⟨hL,c,hc,rfl,rfl⟩
 ·by_cases k0:kd=0
  ·cases hb:(Ye x&&Yk r) with
   | false=>exact DV ops i k hk hlt kd x r g1 g2 n k0 hx hb Q
   | true=>
    simp only[Bool.and_eq_true]at hb
    exact D6 ops i k hk hlt kd x r g1 g2 n k0 hx hb.1 hb.2 Q
  by_cases k1:kd=1
  ·exact D5 ops i k hk hlt kd x r g1 g2 n k1 hx Q
  by_cases k2:kd=2
  ·by_cases h0:n=0
   ·exact DQ ops i k hk hlt kd x r g1 g2 n k2 hx h0 Q
   ·exact DR ops i k hk hlt kd x r g1 g2 n k2 hx h0 Q
  by_cases k3:kd=3
  ·rcases Int.lt_trichotomy n 0 with h0|h0|h0
   ·exact DT ops i k hk hlt kd x r g1 g2 n k3 hx h0 Q
   ·exact DS ops i k hk hlt kd x r g1 g2 n k3 hx h0 Q
   ·exact DU ops i k hk hlt kd x r g1 g2 n k3 hx h0 Q
  exact D4 ops i k hk hlt kd x r g1 g2 n k0 k1 k2 k3 hx Q
 ·by_cases k0:kd=0
  ·cases hb:(Ye x&&Yk r) with
   | false=>exact D2 ops i k hk hlt kd x r g1 g2 n L s c hL hLi hO hc k0 hx hb Q
   | true=>
    simp only[Bool.and_eq_true]at hb
    rcases Nat.lt_or_ge c (L.length+1) with h3|h3
    ·exact Fc ops i k hk hlt kd x r g1 g2 n L s c hL hLi hO hc k0 hx hb.1 hb.2 h3 Q
    ·exact Fb ops i k hk hlt kd x r g1 g2 n L s c hL hLi hO hc k0 hx hb.1 hb.2 h3 Q
  by_cases k1:kd=1
  ·by_cases h0:n<0\/(L.length:Int)<=n
   ·exact DW ops i k hk hlt kd x r g1 g2 n L s c hL hLi hO hc k1 hx h0 Q
   obtain⟨m,rfl⟩:=Int.eq_ofNat_of_zero_le (show 0<=n by omega)
   have hm:m<L.length:=by omega
   have hy:=List.getElem?_eq_getElem hm
   by_cases h1:L[m].lost=true\/s<=m
   ·exact DX ops i k hk hlt kd x r g1 g2 m L s c hL hLi hO hc k1 hx _ hy h1 Q
   have h2:L[m].lost=false:=by cases hl:L[m].lost with|false=>rfl|true=>exact absurd (.inl hl) h1
   have h3:m<s:=by omega
   cases ht:L[m].told with
   | true=>exact DY ops i k hk hlt kd x r g1 g2 m L s c hL hLi hO hc k1 hx _ hy h2 h3 ht Q
   | false=>exact D8 ops i k hk hlt kd x r g1 g2 m L s c hL hLi hO hc k1 hx _ hy h2 h3 ht Q
  by_cases k2:kd=2
  ·by_cases h0:n<(s:Int)\/(L.length:Int)<n
   ·exact DZ ops i k hk hlt kd x r g1 g2 n L s c hL hLi hO hc k2 hx h0 Q
   obtain⟨m,rfl⟩:=Int.eq_ofNat_of_zero_le (show 0<=n by omega)
   exact D9 ops i k hk hlt kd x r g1 g2 m L s c hL hLi hO hc k2 hx (by omega) (by omega) Q
  by_cases k3:kd=3
  ·by_cases h0:n<(((ZM (L.take s)).length:Nat):Int)
   ·exact D0 ops i k hk hlt kd x r g1 g2 n L s c hL hLi hO hc k3 hx h0 Q
   by_cases h1:n>(((ZM L).length:Nat):Int)
   ·exact D1 ops i k hk hlt kd x r g1 g2 n L s c hL hLi hO hc k3 hx h0 h1 Q
   exact Fa ops i k hk hlt kd x r g1 g2 n L s c hL hLi hO hc k3 hx h0 h1 Q
  exact D7 ops i k hk hlt kd x r g1 g2 n L s c hL hLi hO hc k0 k1 k2 k3 hx Q
end Go.Proofs.YtchlgagdbflkmaaGreatDoor
end
