/- HistoryKeeps: rounds of some lines (hsgen4.py). -/
import Derived.Test.YtchlgagdbflkmaaGreatDoorK40
set_option linter.unusedVariables false
set_option linter.unusedSimpArgs false
section
open Go.RowKit Go.Pl Go.Av
namespace Go.Proofs.YtchlgagdbflkmaaGreatDoor
set_option maxHeartbeats 4000000
set_option maxRecDepth 10000 in
theorem BP [Known](ops:List OpH)(i k:Nat)(hk:k+i=80)(hlt:i<ops.length/\i<80)(kd:Int)(x:EvV)(r:RyV)(g1:Z2 x=false)(g2:decide (((r.data.map E.byte).length:Int)>1000)=false)(n:Int)(L:List Ln)(s c d:Nat)(hL:L ≠ [])(hLi:L.length<=i)(hO:WU L s)(hc:L.length<=c)(hd:L.length<=d)(hkd0:kd ≠ 0)(hkd1:kd ≠ 1)(hkd2:kd ≠ 2)(hkd3:kd ≠ 3)(hx:ops[i]?=some ⟨kd,n,x,r⟩)  (Q:X->St->Prop) :
  AW Tryz.prog (Ya (Tryz.f4.body.getD .skip)) ⟨146,hkT ops i (.bsl 2 0 L.length d),hkB L s c d,[],(([]:List (List D)).length,([]:List Fr).length)⟩ (X.then (LandS (HkJ ops) 146 (([]:List (List D)).length,([]:List Fr).length) k) Q):=by
 refine Wb ops i k hk hlt kd x r g1 g2 _ L s c d hL hLi hO hc hd hx Q fun Q2=>?_
 conv=>enter [3];whnf
 have q0:(kd==0)=false:=by simpa using hkd0
 have q1:(kd==1)=false:=by simpa using hkd1
 have q2:(kd==2)=false:=by simpa using hkd2
 have q3:(kd==3)=false:=by simpa using hkd3
 repeat'(first|(apply Zh Za;exact Z)|(apply Zs Za;exact Z)|(apply Zf;exact Z;(first|with_reducible assumption|decide +kernel|(solve|simp only[bn])))|refine ZD ?_)
 all_goals
  refine LandS.mk' (m:=0) (tm1:=hkT ops i (.bsl 2 0 L.length d)) (bx:=hkB L s c d) [0,1,2] [] (by decide) ⟨L,s,_,by omega,hO,rfl,.inr ⟨hL,c,d,hc,hd,rfl,rfl,rfl⟩⟩ rfl rfl rfl rfl ?_ rfl rfl rfl
  exact .cons rfl (.cons rfl (.cons rfl (.cons rfl .nil)))
set_option maxRecDepth 10000 in
theorem SH [Known](ops:List OpH)(i k:Nat)(hk:k+i=80)(hlt:i<ops.length/\i<80)(kd:Int)(x:EvV)(r:RyV)(g1:Z2 x=false)(g2:decide (((r.data.map E.byte).length:Int)>1000)=false)(n:Int)(L:List Ln)(s c d:Nat)(hL:L ≠ [])(hLi:L.length<=i)(hO:WU L s)(hc:L.length<=c)(hd:L.length<=d)(hkd:kd=1)(hx:ops[i]?=some ⟨kd,n,x,r⟩)(h0:n<0\/(L.length:Int)<=n)(Q:X->St->Prop) :
  AW Tryz.prog (Ya (Tryz.f4.body.getD .skip)) ⟨146,hkT ops i (.bsl 2 0 L.length d),hkB L s c d,[],(([]:List (List D)).length,([]:List Fr).length)⟩ (X.then (LandS (HkJ ops) 146 (([]:List (List D)).length,([]:List Fr).length) k) Q):=by
 refine Wb ops i k hk hlt kd x r g1 g2 _ L s c d hL hLi hO hc hd hx Q fun Q2=>?_
 conv=>enter [3];whnf
 have q0:(kd==0)=false:=by rw[hkd];rfl
 have q1:(kd==1)=true:=by rw[hkd];rfl
 repeat'(first|(apply Zx [0,1] [] (Na L s c n h0);kernel_rfl;(iterate 10 exact Z))|(apply Zg Za;exact Z)|(apply Zh Za;exact Z)|(apply Zs Za;exact Z)|(apply Ze;exact Z;(first|with_reducible assumption|decide +kernel|(solve|simp only[bn])))|(apply Zf;exact Z;(first|with_reducible assumption|decide +kernel|(solve|simp only[bn])))|refine ZD ?_)
 all_goals
  refine LandS.mk' (m:=0) (tm1:=hkT ops i (.bsl 2 0 L.length d)) (bx:=hkB L s c d) [0,1,2] [] (by decide) ⟨L,s,_,by omega,hO,rfl,.inr ⟨hL,c,d,hc,hd,rfl,rfl,rfl⟩⟩ rfl rfl rfl rfl ?_ rfl rfl rfl
  exact .cons rfl (.cons rfl (.cons rfl (.cons rfl .nil)))
set_option maxRecDepth 10000 in
theorem SI [Known](ops:List OpH)(i k:Nat)(hk:k+i=80)(hlt:i<ops.length/\i<80)(kd:Int)(x:EvV)(r:RyV)(g1:Z2 x=false)(g2:decide (((r.data.map E.byte).length:Int)>1000)=false)(n:Nat)(L:List Ln)(s c d:Nat)(hL:L ≠ [])(hLi:L.length<=i)(hO:WU L s)(hc:L.length<=c)(hd:L.length<=d)(hkd:kd=1)(hx:ops[i]?=some ⟨kd,(n:Int),x,r⟩)(y:Ln)(hy:L[n]?=some y)(h0:y.lost=true\/s<=n)(Q:X->St->Prop) :
  AW Tryz.prog (Ya (Tryz.f4.body.getD .skip)) ⟨146,hkT ops i (.bsl 2 0 L.length d),hkB L s c d,[],(([]:List (List D)).length,([]:List Fr).length)⟩ (X.then (LandS (HkJ ops) 146 (([]:List (List D)).length,([]:List Fr).length) k) Q):=by
 refine Wb ops i k hk hlt kd x r g1 g2 _ L s c d hL hLi hO hc hd hx Q fun Q2=>?_
 conv=>enter [3];whnf
 have q0:(kd==0)=false:=by rw[hkd];rfl
 have q1:(kd==1)=true:=by rw[hkd];rfl
 repeat'(first|(apply Zx [0,1] [] (J8 L s c n y hy h0);kernel_rfl;(iterate 10 exact Z))|(apply Zg Za;exact Z)|(apply Zh Za;exact Z)|(apply Zs Za;exact Z)|(apply Ze;exact Z;(first|with_reducible assumption|decide +kernel|(solve|simp only[bn])))|(apply Zf;exact Z;(first|with_reducible assumption|decide +kernel|(solve|simp only[bn])))|refine ZD ?_)
 all_goals
  refine LandS.mk' (m:=0) (tm1:=hkT ops i (.bsl 2 0 L.length d)) (bx:=hkB L s c d) [0,1,2] [] (by decide) ⟨L,s,_,by omega,hO,rfl,.inr ⟨hL,c,d,hc,hd,rfl,rfl,rfl⟩⟩ rfl rfl rfl rfl ?_ rfl rfl rfl
  exact .cons rfl (.cons rfl (.cons rfl (.cons rfl .nil)))
set_option maxRecDepth 10000 in
theorem SJ [Known](ops:List OpH)(i k:Nat)(hk:k+i=80)(hlt:i<ops.length/\i<80)(kd:Int)(x:EvV)(r:RyV)(g1:Z2 x=false)(g2:decide (((r.data.map E.byte).length:Int)>1000)=false)(n:Nat)(L:List Ln)(s c d:Nat)(hL:L ≠ [])(hLi:L.length<=i)(hO:WU L s)(hc:L.length<=c)(hd:L.length<=d)(hkd:kd=1)(hx:ops[i]?=some ⟨kd,(n:Int),x,r⟩)(y:Ln)(hy:L[n]?=some y)(h0:y.lost=false)(h1:n<s)(h2:y.told=true)(Q:X->St->Prop) :
  AW Tryz.prog (Ya (Tryz.f4.body.getD .skip)) ⟨146,hkT ops i (.bsl 2 0 L.length d),hkB L s c d,[],(([]:List (List D)).length,([]:List Fr).length)⟩ (X.then (LandS (HkJ ops) 146 (([]:List (List D)).length,([]:List Fr).length) k) Q):=by
 refine Wb ops i k hk hlt kd x r g1 g2 _ L s c d hL hLi hO hc hd hx Q fun Q2=>?_
 conv=>enter [3];whnf
 have q0:(kd==0)=false:=by rw[hkd];rfl
 have q1:(kd==1)=true:=by rw[hkd];rfl
 repeat'(first|(apply Zx [0,1] [] (OM L s c n y hy h0 h1 h2);kernel_rfl;(iterate 10 exact Z))|(apply Zg Za;exact Z)|(apply Zh Za;exact Z)|(apply Zs Za;exact Z)|(apply Ze;exact Z;(first|with_reducible assumption|decide +kernel|(solve|simp only[bn])))|(apply Zf;exact Z;(first|with_reducible assumption|decide +kernel|(solve|simp only[bn])))|refine ZD ?_)
 all_goals
  refine LandS.mk' (m:=0) (tm1:=hkT ops i (.bsl 2 0 L.length d)) (bx:=hkB L s c d) [0,1,2] [] (by decide) ⟨L,s,_,by omega,hO,rfl,.inr ⟨hL,c,d,hc,hd,rfl,rfl,rfl⟩⟩ rfl rfl rfl rfl ?_ rfl rfl rfl
  exact .cons rfl (.cons rfl (.cons rfl (.cons rfl .nil)))
set_option maxRecDepth 10000 in
theorem BQ [Known](ops:List OpH)(i k:Nat)(hk:k+i=80)(hlt:i<ops.length/\i<80)(kd:Int)(x:EvV)(r:RyV)(g1:Z2 x=false)(g2:decide (((r.data.map E.byte).length:Int)>1000)=false)(n:Nat)(L:List Ln)(s c d:Nat)(hL:L ≠ [])(hLi:L.length<=i)(hO:WU L s)(hc:L.length<=c)(hd:L.length<=d)(hkd:kd=1)(hx:ops[i]?=some ⟨kd,(n:Int),x,r⟩)(y:Ln)(hy:L[n]?=some y)(h0:y.lost=false)(h1:n<s)(h2:y.told=false)(Q:X->St->Prop) :
  AW Tryz.prog (Ya (Tryz.f4.body.getD .skip)) ⟨146,hkT ops i (.bsl 2 0 L.length d),hkB L s c d,[],(([]:List (List D)).length,([]:List Fr).length)⟩ (X.then (LandS (HkJ ops) 146 (([]:List (List D)).length,([]:List Fr).length) k) Q):=by
 refine Wb ops i k hk hlt kd x r g1 g2 _ L s c d hL hLi hO hc hd hx Q fun Q2=>?_
 conv=>enter [3];whnf
 have q0:(kd==0)=false:=by rw[hkd];rfl
 have q1:(kd==1)=true:=by rw[hkd];rfl
 obtain⟨L2,hL2⟩:∃ L2,L2=L.set n ⟨y.e,y.r,true,y.lost⟩:=⟨_,rfl⟩
 have hC:=Gv L L2 s c n y hy h0 h1 h2 hL2
 have hll:L2.length=L.length:=by rw[hL2,List.length_set]
 have hO2:WU L2 s:=by rw[hL2];exact Nl hO hy h0 h1
 have hlt2:(n:Int)<((L.length:Nat):Int):=by have:=(List.getElem?_eq_some_iff.1 hy).1;omega
 have f1:decide ((n:Int)<0)=false:=decide_eq_false (by omega)
 have f2:decide ((n:Int) ≥ (L.length:Int))=false:=decide_eq_false (by omega)
 have g0:(tdF L)[((n:Nat):Int).toNat*1]?=some (.bool y.told):=by rw[Int.toNat_natCast];exact Hy hy
 rw[h2]at g0
 have hst:WB (tdF L) (((n:Nat):Int).toNat*1) [.bool true]=tdF L2:=by rw[Int.toNat_natCast,MW true hy,hL2]
 have hle3:((n:Nat):Int).toNat*1 + [E.bool true].length<=(tdF L).length:=by rw[L8,Int.toNat_natCast];simp only[List.length_cons,List.length_nil];omega
 have hL3:L2 ≠ []:=fun e=>hL (List.length_eq_zero_iff.1 (by rw[<- hll,e];rfl))
 clear hL2
 repeat'(first|(apply Zx [0,1] [] (hC);kernel_rfl;(iterate 10 exact Z))|refine YR Za Z Z Z Z ?_|refine YK Za Z Z Z Z Z Z (Int.natCast_nonneg _) hlt2 Z ?_|refine VK Za Z Z Z Z g0 Z Z ?_|refine J0 Za Z Z Z Z Z Z hle3 hst Z ?_|(apply Zg Za;exact Z)|(apply Zh Za;exact Z)|(apply Zs Za;exact Z)|(apply Zd;(iterate 3 exact Z);(first|with_reducible assumption|decide +kernel|(solve|simp only[bn])))|(apply Zi;exact Z;(first|with_reducible assumption|decide +kernel|(solve|simp only[bn]));exact Z;exact Z)|(apply Ze;exact Z;(first|with_reducible assumption|decide +kernel|(solve|simp only[bn])))|(apply Zf;exact Z;(first|with_reducible assumption|decide +kernel|(solve|simp only[bn]))))
 all_goals
  refine LandS.mk' (m:=0) (tm1:=hkT ops i (.bsl 2 0 L.length d)) (bx:=[[.bool true,.bsl 1 0 L2.length c,.int .i64 (s:Int)],[.row (c*32) (lnF L2)],[.row (d*1) (tdF L2)]]) [0,1,2] [] (by decide) ⟨L2,s,_,by rw[hll];omega,hO2,rfl,.inr ⟨hL3,c,d,by rw[hll];exact hc,by rw[hll];exact hd,(by rw[hll];rfl),rfl,rfl⟩⟩ rfl rfl rfl rfl ?_ rfl rfl rfl
  exact .cons rfl (.cons rfl (.cons rfl (.cons rfl .nil)))
set_option maxRecDepth 10000 in
theorem BR [Known](ops:List OpH)(i k:Nat)(hk:k+i=80)(hlt:i<ops.length/\i<80)(kd:Int)(x:EvV)(r:RyV)(g1:Z2 x=false)(g2:decide (((r.data.map E.byte).length:Int)>1000)=false)(n:Nat)(L:List Ln)(s c d:Nat)(hL:L ≠ [])(hLi:L.length<=i)(hO:WU L s)(hc:L.length<=c)(hd:L.length<=d)(hkd:kd=2)(hx:ops[i]?=some ⟨kd,(n:Int),x,r⟩)(h0:s<=n)(h1:n<=L.length)(Q:X->St->Prop) :
  AW Tryz.prog (Ya (Tryz.f4.body.getD .skip)) ⟨146,hkT ops i (.bsl 2 0 L.length d),hkB L s c d,[],(([]:List (List D)).length,([]:List Fr).length)⟩ (X.then (LandS (HkJ ops) 146 (([]:List (List D)).length,([]:List Fr).length) k) Q):=by
 refine Wb ops i k hk hlt kd x r g1 g2 _ L s c d hL hLi hO hc hd hx Q fun Q2=>?_
 conv=>enter [3];whnf
 have q0:(kd==0)=false:=by rw[hkd];rfl
 have q1:(kd==1)=false:=by rw[hkd];rfl
 have q2:(kd==2)=true:=by rw[hkd];rfl
 have hO2:=Nm hO h0 h1
 repeat'(first|(apply Zx [0,1] [] (Gu L s c n h0 h1);kernel_rfl;(iterate 10 exact Z))|(apply Zg Za;exact Z)|(apply Zh Za;exact Z)|(apply Zs Za;exact Z)|(apply Ze;exact Z;(first|with_reducible assumption|decide +kernel|(solve|simp only[bn])))|(apply Zf;exact Z;(first|with_reducible assumption|decide +kernel|(solve|simp only[bn])))|refine ZD ?_)
 all_goals
  refine LandS.mk' (m:=0) (tm1:=hkT ops i (.bsl 2 0 L.length d)) (bx:=hkB L n c d) [0,1,2] [] (by decide) ⟨L,n,_,by omega,hO2,rfl,.inr ⟨hL,c,d,hc,hd,rfl,rfl,rfl⟩⟩ rfl rfl rfl rfl ?_ rfl rfl rfl
  exact .cons rfl (.cons rfl (.cons rfl (.cons rfl .nil)))
set_option maxRecDepth 10000 in
theorem SK [Known](ops:List OpH)(i k:Nat)(hk:k+i=80)(hlt:i<ops.length/\i<80)(kd:Int)(x:EvV)(r:RyV)(g1:Z2 x=false)(g2:decide (((r.data.map E.byte).length:Int)>1000)=false)(n:Int)(L:List Ln)(s c d:Nat)(hL:L ≠ [])(hLi:L.length<=i)(hO:WU L s)(hc:L.length<=c)(hd:L.length<=d)(hkd:kd=2)(hx:ops[i]?=some ⟨kd,n,x,r⟩)(h0:n<(s:Int)\/(L.length:Int)<n)(Q:X->St->Prop) :
  AW Tryz.prog (Ya (Tryz.f4.body.getD .skip)) ⟨146,hkT ops i (.bsl 2 0 L.length d),hkB L s c d,[],(([]:List (List D)).length,([]:List Fr).length)⟩ (X.then (LandS (HkJ ops) 146 (([]:List (List D)).length,([]:List Fr).length) k) Q):=by
 refine Wb ops i k hk hlt kd x r g1 g2 _ L s c d hL hLi hO hc hd hx Q fun Q2=>?_
 conv=>enter [3];whnf
 have q0:(kd==0)=false:=by rw[hkd];rfl
 have q1:(kd==1)=false:=by rw[hkd];rfl
 have q2:(kd==2)=true:=by rw[hkd];rfl
 repeat'(first|(apply Zx [0,1] [] (T9 L s c n h0);kernel_rfl;(iterate 10 exact Z))|(apply Zg Za;exact Z)|(apply Zh Za;exact Z)|(apply Zs Za;exact Z)|(apply Ze;exact Z;(first|with_reducible assumption|decide +kernel|(solve|simp only[bn])))|(apply Zf;exact Z;(first|with_reducible assumption|decide +kernel|(solve|simp only[bn])))|refine ZD ?_)
 all_goals
  refine LandS.mk' (m:=0) (tm1:=hkT ops i (.bsl 2 0 L.length d)) (bx:=hkB L s c d) [0,1,2] [] (by decide) ⟨L,s,_,by omega,hO,rfl,.inr ⟨hL,c,d,hc,hd,rfl,rfl,rfl⟩⟩ rfl rfl rfl rfl ?_ rfl rfl rfl
  exact .cons rfl (.cons rfl (.cons rfl (.cons rfl .nil)))
set_option maxRecDepth 10000 in
theorem SL [Known](ops:List OpH)(i k:Nat)(hk:k+i=80)(hlt:i<ops.length/\i<80)(kd:Int)(x:EvV)(r:RyV)(g1:Z2 x=false)(g2:decide (((r.data.map E.byte).length:Int)>1000)=false)(n:Int)(L:List Ln)(s c d:Nat)(hL:L ≠ [])(hLi:L.length<=i)(hO:WU L s)(hc:L.length<=c)(hd:L.length<=d)(hkd:kd=3)(hx:ops[i]?=some ⟨kd,n,x,r⟩)(h0:n<(((ZM (L.take s)).length:Nat):Int))(Q:X->St->Prop) :
  AW Tryz.prog (Ya (Tryz.f4.body.getD .skip)) ⟨146,hkT ops i (.bsl 2 0 L.length d),hkB L s c d,[],(([]:List (List D)).length,([]:List Fr).length)⟩ (X.then (LandS (HkJ ops) 146 (([]:List (List D)).length,([]:List Fr).length) k) Q):=by
 refine Wb ops i k hk hlt kd x r g1 g2 _ L s c d hL hLi hO hc hd hx Q fun Q2=>?_
 conv=>enter [3];whnf
 have q0:(kd==0)=false:=by rw[hkd];rfl
 have q1:(kd==1)=false:=by rw[hkd];rfl
 have q2:(kd==2)=false:=by rw[hkd];rfl
 have q3:(kd==3)=true:=by rw[hkd];rfl
 repeat'(first|(apply Zx [0,1] [] (Hw L s c n (by omega) hO.1 h0);kernel_rfl;(iterate 10 exact Z))|(apply Zg Za;exact Z)|(apply Zh Za;exact Z)|(apply Zs Za;exact Z)|(apply Ze;exact Z;(first|with_reducible assumption|decide +kernel|(solve|simp only[bn])))|(apply Zf;exact Z;(first|with_reducible assumption|decide +kernel|(solve|simp only[bn])))|refine ZD ?_)
 all_goals
  refine LandS.mk' (m:=0) (tm1:=hkT ops i (.bsl 2 0 L.length d)) (bx:=hkB L s c d) [0,1,2] [] (by decide) ⟨L,s,_,by omega,hO,rfl,.inr ⟨hL,c,d,hc,hd,rfl,rfl,rfl⟩⟩ rfl rfl rfl rfl ?_ rfl rfl rfl
  exact .cons rfl (.cons rfl (.cons rfl (.cons rfl .nil)))
set_option maxRecDepth 10000 in
theorem SM [Known](ops:List OpH)(i k:Nat)(hk:k+i=80)(hlt:i<ops.length/\i<80)(kd:Int)(x:EvV)(r:RyV)(g1:Z2 x=false)(g2:decide (((r.data.map E.byte).length:Int)>1000)=false)(n:Int)(L:List Ln)(s c d:Nat)(hL:L ≠ [])(hLi:L.length<=i)(hO:WU L s)(hc:L.length<=c)(hd:L.length<=d)(hkd:kd=3)(hx:ops[i]?=some ⟨kd,n,x,r⟩)(h0:¬ n<(((ZM (L.take s)).length:Nat):Int))(h1:n>(((ZM L).length:Nat):Int))(Q:X->St->Prop) :
  AW Tryz.prog (Ya (Tryz.f4.body.getD .skip)) ⟨146,hkT ops i (.bsl 2 0 L.length d),hkB L s c d,[],(([]:List (List D)).length,([]:List Fr).length)⟩ (X.then (LandS (HkJ ops) 146 (([]:List (List D)).length,([]:List Fr).length) k) Q):=by
 refine Wb ops i k hk hlt kd x r g1 g2 _ L s c d hL hLi hO hc hd hx Q fun Q2=>?_
 conv=>enter [3];whnf
 have q0:(kd==0)=false:=by rw[hkd];rfl
 have q1:(kd==1)=false:=by rw[hkd];rfl
 have q2:(kd==2)=false:=by rw[hkd];rfl
 have q3:(kd==3)=true:=by rw[hkd];rfl
 repeat'(first|(apply Zx [0,1] [] (Hx L s c n (by omega) hO.1 h0 h1);kernel_rfl;(iterate 10 exact Z))|(apply Zg Za;exact Z)|(apply Zh Za;exact Z)|(apply Zs Za;exact Z)|(apply Ze;exact Z;(first|with_reducible assumption|decide +kernel|(solve|simp only[bn])))|(apply Zf;exact Z;(first|with_reducible assumption|decide +kernel|(solve|simp only[bn])))|refine ZD ?_)
 all_goals
  refine LandS.mk' (m:=0) (tm1:=hkT ops i (.bsl 2 0 L.length d)) (bx:=hkB L s c d) [0,1,2] [] (by decide) ⟨L,s,_,by omega,hO,rfl,.inr ⟨hL,c,d,hc,hd,rfl,rfl,rfl⟩⟩ rfl rfl rfl rfl ?_ rfl rfl rfl
  exact .cons rfl (.cons rfl (.cons rfl (.cons rfl .nil)))
set_option maxRecDepth 10000 in
theorem BS [Known](ops:List OpH)(i k:Nat)(hk:k+i=80)(hlt:i<ops.length/\i<80)(kd:Int)(x:EvV)(r:RyV)(g1:Z2 x=false)(g2:decide (((r.data.map E.byte).length:Int)>1000)=false)(n:Int)(L:List Ln)(s c d:Nat)(hL:L ≠ [])(hLi:L.length<=i)(hO:WU L s)(hc:L.length<=c)(hd:L.length<=d)(hkd:kd=3)(hx:ops[i]?=some ⟨kd,n,x,r⟩)(h0:¬ n<(((ZM (L.take s)).length:Nat):Int))(h1:¬ n>(((ZM L).length:Nat):Int))(Q:X->St->Prop) :
  AW Tryz.prog (Ya (Tryz.f4.body.getD .skip)) ⟨146,hkT ops i (.bsl 2 0 L.length d),hkB L s c d,[],(([]:List (List D)).length,([]:List Fr).length)⟩ (X.then (LandS (HkJ ops) 146 (([]:List (List D)).length,([]:List Fr).length) k) Q):=by
 refine Wb ops i k hk hlt kd x r g1 g2 _ L s c d hL hLi hO hc hd hx Q fun Q2=>?_
 conv=>enter [3];whnf
 have q0:(kd==0)=false:=by rw[hkd];rfl
 have q1:(kd==1)=false:=by rw[hkd];rfl
 have q2:(kd==2)=false:=by rw[hkd];rfl
 have q3:(kd==3)=true:=by rw[hkd];rfl
 have hC:=OQ L s c n (by omega) hO.1 h0 h1
 have hO2:=Hz hO h0
 have hll:(crA n 0 L).length=L.length:=VF ..
 have htd:=Nn n L
 have hL3:crA n 0 L ≠ []:=fun e=>hL (List.length_eq_zero_iff.1 (by rw[<- hll,e];rfl))
 repeat'(first|(apply Zx [0,1] [] (hC);kernel_rfl;(iterate 10 exact Z))|(apply Zg Za;exact Z)|(apply Zh Za;exact Z)|(apply Zs Za;exact Z)|(apply Ze;exact Z;(first|with_reducible assumption|decide +kernel|(solve|simp only[bn])))|(apply Zf;exact Z;(first|with_reducible assumption|decide +kernel|(solve|simp only[bn])))|refine ZD ?_)
 all_goals
  refine LandS.mk' (m:=0) (tm1:=hkT ops i (.bsl 2 0 L.length d)) (bx:=[[.bool true,.bsl 1 0 (crA n 0 L).length c,.int .i64 ((L.length:Nat):Int)],[.row (c*32) (lnF (crA n 0 L))],[.row (d*1) (tdF L)]]) [0,1,2] [] (by decide) ⟨crA n 0 L,L.length,_,by rw[hll];omega,hO2,rfl,.inr ⟨hL3,c,d,by rw[hll];exact hc,by rw[hll];exact hd,(by rw[hll];rfl),by unfold hkB;rw[htd],rfl⟩⟩ rfl rfl rfl rfl ?_ rfl rfl rfl
  exact .cons rfl (.cons rfl (.cons rfl (.cons rfl .nil)))
theorem UV {x:EvV}{r:RyV}(g1:Z2 x=false)(g2:decide (((r.data.map E.byte).length:Int)>1000)=false):Vb ⟨x,r,false,false⟩:=by
 unfold Z2 Js at g1
 simp only[Bool.or_eq_false_iff,decide_eq_false_iff_not,List.length_map]at g1 g2
 refine⟨?_,?_,?_⟩
 ·show x.data.length<=3000;omega
 ·show x.rq.pay.length<=3000;omega
 ·show r.data.length<=3000;omega
theorem XM (L:List Ln)(y:Ln):flat (L.map tdE++[.bool y.told])=tdF (L++[y]):=by
 unfold tdF
 rw[List.map_append]
 rfl
set_option maxRecDepth 10000 in
theorem SN [Known][KnownU8](ops:List OpH)(i k:Nat)(hk:k+i=80)(hlt:i<ops.length/\i<80)(kd:Int)(x:EvV)(r:RyV)(g1:Z2 x=false)(g2:decide (((r.data.map E.byte).length:Int)>1000)=false)(n:Int)(hkd:kd=0)(hx:ops[i]?=some ⟨kd,n,x,r⟩)(h0:(Ye x&&Yk r)=false)(Q:X->St->Prop) :
  AW Tryz.prog (Ya (Tryz.f4.body.getD .skip)) ⟨146,hkT ops i (.sl .nil []),hsN,[],(([]:List (List D)).length,([]:List Fr).length)⟩ (X.then (LandS (HkJ ops) 146 (([]:List (List D)).length,([]:List Fr).length) k) Q):=by
 refine VH ops i k hk hlt kd x r g1 g2 _ hx Q fun Q2=>?_
 conv=>enter [3];whnf
 have q0:(kd==0)=true:=by rw[hkd];rfl
 have hkx:Vb ⟨x,r,false,false⟩:=UV g1 g2
 repeat'(first|(apply Zx [0] [] (Hn x r hkx h0);kernel_rfl;(iterate 10 exact Z))|(apply Zg Za;exact Z)|(apply Zh Za;exact Z)|(apply Ze;exact Z;(first|with_reducible assumption|decide +kernel|(solve|simp only[bn])))|(apply Zf;exact Z;(first|with_reducible assumption|decide +kernel|(solve|simp only[bn]))))
 all_goals
  refine LandS.mk' (m:=0) (tm1:=hkT ops i (.sl .nil [])) (bx:=hsN) [0] [] (by decide) ⟨[],0,_,Nat.zero_le _,⟨Nat.le_refl _,fun x hx=>(by cases hx),fun j x hx=>(by simp at hx)⟩,rfl,.inl ⟨rfl,rfl,rfl,rfl,rfl⟩⟩ rfl rfl rfl rfl ?_ rfl rfl rfl
  exact .cons rfl (.cons rfl (.cons rfl (.cons rfl .nil)))
set_option maxRecDepth 10000 in
theorem SO [Known][KnownU8](ops:List OpH)(i k:Nat)(hk:k+i=80)(hlt:i<ops.length/\i<80)(kd:Int)(x:EvV)(r:RyV)(g1:Z2 x=false)(g2:decide (((r.data.map E.byte).length:Int)>1000)=false)(n:Int)(L:List Ln)(s c d:Nat)(hL:L ≠ [])(hLi:L.length<=i)(hO:WU L s)(hc:L.length<=c)(hd:L.length<=d)(hkd:kd=0)(hx:ops[i]?=some ⟨kd,n,x,r⟩)(h0:(Ye x&&Yk r)=false)(Q:X->St->Prop) :
  AW Tryz.prog (Ya (Tryz.f4.body.getD .skip)) ⟨146,hkT ops i (.bsl 2 0 L.length d),hkB L s c d,[],(([]:List (List D)).length,([]:List Fr).length)⟩ (X.then (LandS (HkJ ops) 146 (([]:List (List D)).length,([]:List Fr).length) k) Q):=by
 refine Wb ops i k hk hlt kd x r g1 g2 _ L s c d hL hLi hO hc hd hx Q fun Q2=>?_
 conv=>enter [3];whnf
 have q0:(kd==0)=true:=by rw[hkd];rfl
 have hkx:Vb ⟨x,r,false,false⟩:=UV g1 g2
 repeat'(first|(apply Zx [0,1] [] (Ho L s c x r hkx h0);kernel_rfl;(iterate 10 exact Z))|(apply Zg Za;exact Z)|(apply Zh Za;exact Z)|(apply Ze;exact Z;(first|with_reducible assumption|decide +kernel|(solve|simp only[bn])))|(apply Zf;exact Z;(first|with_reducible assumption|decide +kernel|(solve|simp only[bn]))))
 all_goals
  refine LandS.mk' (m:=0) (tm1:=hkT ops i (.bsl 2 0 L.length d)) (bx:=hkB L s c d) [0,1,2] [] (by decide) ⟨L,s,_,by omega,hO,rfl,.inr ⟨hL,c,d,hc,hd,rfl,rfl,rfl⟩⟩ rfl rfl rfl rfl ?_ rfl rfl rfl
  exact .cons rfl (.cons rfl (.cons rfl (.cons rfl .nil)))
set_option maxRecDepth 10000 in
theorem BT [Known][KnownU8](ops:List OpH)(i k:Nat)(hk:k+i=80)(hlt:i<ops.length/\i<80)(kd:Int)(x:EvV)(r:RyV)(g1:Z2 x=false)(g2:decide (((r.data.map E.byte).length:Int)>1000)=false)(n:Int)(hkd:kd=0)(hx:ops[i]?=some ⟨kd,n,x,r⟩)(h1:Ye x=true)(h2:Yk r=true)(Q:X->St->Prop) :
  AW Tryz.prog (Ya (Tryz.f4.body.getD .skip)) ⟨146,hkT ops i (.sl .nil []),hsN,[],(([]:List (List D)).length,([]:List Fr).length)⟩ (X.then (LandS (HkJ ops) 146 (([]:List (List D)).length,([]:List Fr).length) k) Q):=by
 refine VH ops i k hk hlt kd x r g1 g2 _ hx Q fun Q2=>?_
 conv=>enter [3];whnf
 have q0:(kd==0)=true:=by rw[hkd];rfl
 have hkx:Vb ⟨x,r,false,false⟩:=UV g1 g2
 repeat'(first|(apply UB [0] ((Tn x r hkx h1 h2));kernel_rfl;(iterate 3 exact Z);exact(fun _=>rfl);exact Z;exact Z;exact(fun _=>rfl);intro c1 hc1)|(apply Kr Za;(iterate 6 exact Z);(first|exact Zk rfl|with_reducible assumption|rotate_left);(first|exact Qb|rotate_left);(first|exact Qb|rotate_left);(first|exact Qb|rotate_left);exact Z;exact(fun _=>rfl);exact Z;intro c2 hc2)|(apply Zg Za;exact Z)|(apply Zh Za;exact Z)|(apply Ze;exact Z;(first|with_reducible assumption|decide +kernel|(solve|simp only[bn])))|refine ZO Za Z Z Z Z Z Z Z Z Z Z Z Z ?_)
 all_goals
  refine LandS.mk' (m:=0) (tm1:=hkT ops i (.bsl 3 0 1 c2)) (bx:=[[.bool true,.bsl 1 0 1 c1,.int .i64 0],[.row (c1*32) (lnF [⟨x,r,false,false⟩])],[.row (c2*1) (tdF [⟨x,r,false,false⟩])]]) [0,2,3] [] (by decide) ⟨[⟨x,r,false,false⟩],0,_,Nat.le_add_left ..,⟨Nat.zero_le _,fun y hy=>by rw[List.mem_singleton.1 hy];exact hkx,fun j y hy ht=>by rw[List.mem_singleton.1 (List.mem_of_getElem? hy)]at ht;cases ht⟩,rfl,.inr ⟨List.cons_ne_nil _ _,c1,c2,hc1,hc2,rfl,rfl,rfl⟩⟩ rfl rfl rfl rfl ?_ rfl rfl rfl
  exact .cons rfl (.cons rfl (.cons rfl (.cons rfl .nil)))
set_option maxRecDepth 10000 in
theorem SP [Known][KnownU8](ops:List OpH)(i k:Nat)(hk:k+i=80)(hlt:i<ops.length/\i<80)(kd:Int)(x:EvV)(r:RyV)(g1:Z2 x=false)(g2:decide (((r.data.map E.byte).length:Int)>1000)=false)(n:Int)(L:List Ln)(s c d:Nat)(hL:L ≠ [])(hLi:L.length<=i)(hO:WU L s)(hc:L.length<=c)(hd:L.length<=d)(hkd:kd=0)(hx:ops[i]?=some ⟨kd,n,x,r⟩)(h1:Ye x=true)(h2:Yk r=true)(h3:L.length+1<=c)(h4:L.length+1<=d)(Q:X->St->Prop) :
  AW Tryz.prog (Ya (Tryz.f4.body.getD .skip)) ⟨146,hkT ops i (.bsl 2 0 L.length d),hkB L s c d,[],(([]:List (List D)).length,([]:List Fr).length)⟩ (X.then (LandS (HkJ ops) 146 (([]:List (List D)).length,([]:List Fr).length) k) Q):=by
 refine Wb ops i k hk hlt kd x r g1 g2 _ L s c d hL hLi hO hc hd hx Q fun Q2=>?_
 conv=>enter [3];whnf
 have q0:(kd==0)=true:=by rw[hkd];rfl
 have hkx:Vb ⟨x,r,false,false⟩:=UV g1 g2
 have htl:(L.map tdE).length=L.length:=List.length_map ..
 have hUT:=Tq L
 have hd0:0<d:=by have:=List.length_pos_iff.2 hL;omega
 have hle5:(L.map tdE).length+1<=maxLen:=by rw[htl];unfold maxLen;omega
 have hby5:((L.map tdE).length+1)*1<=140737488355328:=by rw[htl];omega
 have hta:=XM L ⟨x,r,false,false⟩
 have hO2:=JJ hO x r hkx
 have hln:(L++[(⟨x,r,false,false⟩:Ln)]).length=L.length+1:=by rw[List.length_append];rfl
 have hrm5:(L.map tdE).length+1<=d:=by rw[htl];exact h4
 repeat'(first|(apply Zx [0,1] [] (Ij L s c hL (by omega) hc x r hkx h1 h2 h3);kernel_rfl;(iterate 10 exact Z))|(apply Jb (l:=L.map tdE) Za;(iterate 4 exact Z);exact(Src.sl rfl);exact Z;exact htl;exact Z;exact hd0;exact hUT;exact Zk rfl;exact List.cons_ne_nil _ _;exact hle5;exact hby5;exact Z;exact hrm5;exact Z;exact Z)|(apply Zg Za;exact Z)|(apply Zh Za;exact Z)|(apply Ze;exact Z;(first|with_reducible assumption|decide +kernel|(solve|simp only[bn])))|refine ZO Za Z Z Z Z Z Z Z Z Z Z Z Z ?_)
 all_goals
  refine LandS.mk' (m:=0) (tm1:=hkT ops i (.bsl 2 0 ((L.map tdE).length+1) d)) (bx:=[[.bool true,.bsl 1 0 (L++[(⟨x,r,false,false⟩:Ln)]).length c,.int .i64 (s:Int)],[.row (c*32) (lnF (L++[⟨x,r,false,false⟩]))],[.row (d*1) (flat (L.map tdE++[.bool false]))]]) [0,1,2] [] (by decide) ⟨L++[⟨x,r,false,false⟩],s,_,by rw[hln];omega,hO2,rfl,.inr ⟨(by simp),c,d,(by rw[hln];exact h3),(by rw[hln];exact h4),(by rw[hln,<- htl];rfl),(by rw[hta]),rfl⟩⟩ rfl rfl rfl rfl ?_ rfl rfl rfl
  exact .cons rfl (.cons rfl (.cons rfl (.cons rfl .nil)))
set_option maxRecDepth 10000 in
theorem SQ [Known][KnownU8](ops:List OpH)(i k:Nat)(hk:k+i=80)(hlt:i<ops.length/\i<80)(kd:Int)(x:EvV)(r:RyV)(g1:Z2 x=false)(g2:decide (((r.data.map E.byte).length:Int)>1000)=false)(n:Int)(L:List Ln)(s c d:Nat)(hL:L ≠ [])(hLi:L.length<=i)(hO:WU L s)(hc:L.length<=c)(hd:L.length<=d)(hkd:kd=0)(hx:ops[i]?=some ⟨kd,n,x,r⟩)(h1:Ye x=true)(h2:Yk r=true)(h3:L.length+1<=c)(h4:d<L.length+1)(Q:X->St->Prop) :
  AW Tryz.prog (Ya (Tryz.f4.body.getD .skip)) ⟨146,hkT ops i (.bsl 2 0 L.length d),hkB L s c d,[],(([]:List (List D)).length,([]:List Fr).length)⟩ (X.then (LandS (HkJ ops) 146 (([]:List (List D)).length,([]:List Fr).length) k) Q):=by
 refine Wb ops i k hk hlt kd x r g1 g2 _ L s c d hL hLi hO hc hd hx Q fun Q2=>?_
 conv=>enter [3];whnf
 have q0:(kd==0)=true:=by rw[hkd];rfl
 have hkx:Vb ⟨x,r,false,false⟩:=UV g1 g2
 have htl:(L.map tdE).length=L.length:=List.length_map ..
 have hUT:=Tq L
 have hd0:0<d:=by have:=List.length_pos_iff.2 hL;omega
 have hle5:(L.map tdE).length+1<=maxLen:=by rw[htl];unfold maxLen;omega
 have hby5:((L.map tdE).length+1)*1<=140737488355328:=by rw[htl];omega
 have hta:=XM L ⟨x,r,false,false⟩
 have hO2:=JJ hO x r hkx
 have hln:(L++[(⟨x,r,false,false⟩:Ln)]).length=L.length+1:=by rw[List.length_append];rfl
 have hrm5:d<(L.map tdE).length+1:=by rw[htl];exact h4
 repeat'(first|(apply Zx [0,1] [] (Ij L s c hL (by omega) hc x r hkx h1 h2 h3);kernel_rfl;(iterate 10 exact Z))|(apply Jc (l:=L.map tdE) Za;(iterate 4 exact Z);exact(Src.sl rfl);exact Z;exact htl;exact Z;exact hd0;exact hUT;exact Zk rfl;exact List.cons_ne_nil _ _;exact hle5;exact hby5;exact Z;exact hrm5;exact Z;exact(fun _=>rfl);exact Z;intro c2 hc2)|(apply Zg Za;exact Z)|(apply Zh Za;exact Z)|(apply Ze;exact Z;(first|with_reducible assumption|decide +kernel|(solve|simp only[bn])))|refine ZO Za Z Z Z Z Z Z Z Z Z Z Z Z ?_)
 all_goals
  refine LandS.mk' (m:=0) (tm1:=hkT ops i (.bsl 4 0 ((L.map tdE).length+1) c2)) (bx:=[[.bool true,.bsl 1 0 (L++[(⟨x,r,false,false⟩:Ln)]).length c,.int .i64 (s:Int)],[.row (c*32) (lnF (L++[⟨x,r,false,false⟩]))],[.row (c2*1) (flat (L.map tdE++[.bool false]))]]) [0,1,4] [] (by decide) ⟨L++[⟨x,r,false,false⟩],s,_,by rw[hln];omega,hO2,rfl,.inr ⟨(by simp),c,c2,(by rw[hln];exact h3),(by rw[hln,<- htl];exact hc2),(by rw[hln,<- htl];rfl),(by rw[hta]),rfl⟩⟩ rfl rfl rfl rfl ?_ rfl rfl rfl
  exact .cons rfl (.cons rfl (.cons rfl (.cons rfl .nil)))
set_option maxRecDepth 10000 in
theorem SR [Known][KnownU8](ops:List OpH)(i k:Nat)(hk:k+i=80)(hlt:i<ops.length/\i<80)(kd:Int)(x:EvV)(r:RyV)(g1:Z2 x=false)(g2:decide (((r.data.map E.byte).length:Int)>1000)=false)(n:Int)(L:List Ln)(s c d:Nat)(hL:L ≠ [])(hLi:L.length<=i)(hO:WU L s)(hc:L.length<=c)(hd:L.length<=d)(hkd:kd=0)(hx:ops[i]?=some ⟨kd,n,x,r⟩)(h1:Ye x=true)(h2:Yk r=true)(h3:c<L.length+1)(h4:L.length+1<=d)(Q:X->St->Prop) :
  AW Tryz.prog (Ya (Tryz.f4.body.getD .skip)) ⟨146,hkT ops i (.bsl 2 0 L.length d),hkB L s c d,[],(([]:List (List D)).length,([]:List Fr).length)⟩ (X.then (LandS (HkJ ops) 146 (([]:List (List D)).length,([]:List Fr).length) k) Q):=by
 refine Wb ops i k hk hlt kd x r g1 g2 _ L s c d hL hLi hO hc hd hx Q fun Q2=>?_
 conv=>enter [3];whnf
 have q0:(kd==0)=true:=by rw[hkd];rfl
 have hkx:Vb ⟨x,r,false,false⟩:=UV g1 g2
 have htl:(L.map tdE).length=L.length:=List.length_map ..
 have hUT:=Tq L
 have hd0:0<d:=by have:=List.length_pos_iff.2 hL;omega
 have hle5:(L.map tdE).length+1<=maxLen:=by rw[htl];unfold maxLen;omega
 have hby5:((L.map tdE).length+1)*1<=140737488355328:=by rw[htl];omega
 have hta:=XM L ⟨x,r,false,false⟩
 have hO2:=JJ hO x r hkx
 have hln:(L++[(⟨x,r,false,false⟩:Ln)]).length=L.length+1:=by rw[List.length_append];rfl
 have hrm5:(L.map tdE).length+1<=d:=by rw[htl];exact h4
 repeat'(first|(apply UB [0,1] ((Ik L s c hL (by omega) hc x r hkx h1 h2 h3));kernel_rfl;(iterate 3 exact Z);exact(fun _=>rfl);exact Z;exact Z;exact(fun _=>rfl);intro c1 hc1)|(apply Jb (l:=L.map tdE) Za;(iterate 4 exact Z);exact(Src.sl rfl);exact Z;exact htl;exact Z;exact hd0;exact hUT;exact Zk rfl;exact List.cons_ne_nil _ _;exact hle5;exact hby5;exact Z;exact hrm5;exact Z;exact Z)|(apply Zg Za;exact Z)|(apply Zh Za;exact Z)|(apply Ze;exact Z;(first|with_reducible assumption|decide +kernel|(solve|simp only[bn])))|refine ZO Za Z Z Z Z Z Z Z Z Z Z Z Z ?_)
 all_goals
  refine LandS.mk' (m:=0) (tm1:=hkT ops i (.bsl 2 0 ((L.map tdE).length+1) d)) (bx:=[[.bool true,.bsl 1 0 (L.length+1) c1,.int .i64 (s:Int)],[.row (c1*32) (lnF (L++[⟨x,r,false,false⟩]))],[.row (d*1) (flat (L.map tdE++[.bool false]))]]) [0,4,2] [] (by decide) ⟨L++[⟨x,r,false,false⟩],s,_,by rw[hln];omega,hO2,rfl,.inr ⟨(by simp),c1,d,(by rw[hln];exact hc1),(by rw[hln];exact h4),(by rw[hln,<- htl];rfl),(by rw[hta];unfold hkB;rw[hln]),rfl⟩⟩ rfl rfl rfl rfl ?_ rfl rfl rfl
  exact .cons rfl (.cons rfl (.cons rfl (.cons rfl .nil)))
set_option maxRecDepth 10000 in
theorem SS [Known][KnownU8](ops:List OpH)(i k:Nat)(hk:k+i=80)(hlt:i<ops.length/\i<80)(kd:Int)(x:EvV)(r:RyV)(g1:Z2 x=false)(g2:decide (((r.data.map E.byte).length:Int)>1000)=false)(n:Int)(L:List Ln)(s c d:Nat)(hL:L ≠ [])(hLi:L.length<=i)(hO:WU L s)(hc:L.length<=c)(hd:L.length<=d)(hkd:kd=0)(hx:ops[i]?=some ⟨kd,n,x,r⟩)(h1:Ye x=true)(h2:Yk r=true)(h3:c<L.length+1)(h4:d<L.length+1)(Q:X->St->Prop) :
  AW Tryz.prog (Ya (Tryz.f4.body.getD .skip)) ⟨146,hkT ops i (.bsl 2 0 L.length d),hkB L s c d,[],(([]:List (List D)).length,([]:List Fr).length)⟩ (X.then (LandS (HkJ ops) 146 (([]:List (List D)).length,([]:List Fr).length) k) Q):=by
 refine Wb ops i k hk hlt kd x r g1 g2 _ L s c d hL hLi hO hc hd hx Q fun Q2=>?_
 conv=>enter [3];whnf
 have q0:(kd==0)=true:=by rw[hkd];rfl
 have hkx:Vb ⟨x,r,false,false⟩:=UV g1 g2
 have htl:(L.map tdE).length=L.length:=List.length_map ..
 have hUT:=Tq L
 have hd0:0<d:=by have:=List.length_pos_iff.2 hL;omega
 have hle5:(L.map tdE).length+1<=maxLen:=by rw[htl];unfold maxLen;omega
 have hby5:((L.map tdE).length+1)*1<=140737488355328:=by rw[htl];omega
 have hta:=XM L ⟨x,r,false,false⟩
 have hO2:=JJ hO x r hkx
 have hln:(L++[(⟨x,r,false,false⟩:Ln)]).length=L.length+1:=by rw[List.length_append];rfl
 have hrm5:d<(L.map tdE).length+1:=by rw[htl];exact h4
 repeat'(first|(apply UB [0,1] ((Ik L s c hL (by omega) hc x r hkx h1 h2 h3));kernel_rfl;(iterate 3 exact Z);exact(fun _=>rfl);exact Z;exact Z;exact(fun _=>rfl);intro c1 hc1)|(apply Jc (l:=L.map tdE) Za;(iterate 4 exact Z);exact(Src.sl rfl);exact Z;exact htl;exact Z;exact hd0;exact hUT;exact Zk rfl;exact List.cons_ne_nil _ _;exact hle5;exact hby5;exact Z;exact hrm5;exact Z;exact(fun _=>rfl);exact Z;intro c2 hc2)|(apply Zg Za;exact Z)|(apply Zh Za;exact Z)|(apply Ze;exact Z;(first|with_reducible assumption|decide +kernel|(solve|simp only[bn])))|refine ZO Za Z Z Z Z Z Z Z Z Z Z Z Z ?_)
 all_goals
  refine LandS.mk' (m:=0) (tm1:=hkT ops i (.bsl 5 0 ((L.map tdE).length+1) c2)) (bx:=[[.bool true,.bsl 1 0 (L.length+1) c1,.int .i64 (s:Int)],[.row (c1*32) (lnF (L++[⟨x,r,false,false⟩]))],[.row (c2*1) (flat (L.map tdE++[.bool false]))]]) [0,4,5] [] (by decide) ⟨L++[⟨x,r,false,false⟩],s,_,by rw[hln];omega,hO2,rfl,.inr ⟨(by simp),c1,c2,(by rw[hln];exact hc1),(by rw[hln,<- htl];exact hc2),(by rw[hln,<- htl];rfl),(by rw[hta];unfold hkB;rw[hln]),rfl⟩⟩ rfl rfl rfl rfl ?_ rfl rfl rfl
  exact .cons rfl (.cons rfl (.cons rfl (.cons rfl .nil)))
theorem M0 [Known][KnownU8](ops:List OpH)(i k:Nat)(hk:k+i=80)(hlt:i<ops.length/\i<80)(kd:Int)(x:EvV)(r:RyV)(g1:Z2 x=false)(g2:decide (((r.data.map E.byte).length:Int)>1000)=false)(n:Int)(L:List Ln)(s:Nat)(td:D)(bx:List (List D))(fr:List Fr)(hLi:L.length<=i)(hO:WU L s)(hS:HkS L s td bx fr)(hx:ops[i]?=some ⟨kd,n,x,r⟩)(Q:X->St->Prop) :
  AW Tryz.prog (Ya (Tryz.f4.body.getD .skip)) ⟨146,hkT ops i td,bx,fr,(([]:List (List D)).length,([]:List Fr).length)⟩ (X.then (LandS (HkJ ops) 146 (([]:List (List D)).length,([]:List Fr).length) k) Q):=by
 rcases hS with⟨rfl,rfl,rfl,rfl,rfl⟩ | ⟨hL,c,d,hc,hd,rfl,rfl,rfl⟩
 ·by_cases k0:kd=0
  ·cases hb:(Ye x&&Yk r) with
   | false=>exact SN ops i k hk hlt kd x r g1 g2 n k0 hx hb Q
   | true=>
    simp only[Bool.and_eq_true]at hb
    exact BT ops i k hk hlt kd x r g1 g2 n k0 hx hb.1 hb.2 Q
  by_cases k1:kd=1
  ·exact BO ops i k hk hlt kd x r g1 g2 n k1 hx Q
  by_cases k2:kd=2
  ·by_cases h0:n=0
   ·exact SC ops i k hk hlt kd x r g1 g2 n k2 hx h0 Q
   ·exact SD ops i k hk hlt kd x r g1 g2 n k2 hx h0 Q
  by_cases k3:kd=3
  ·rcases Int.lt_trichotomy n 0 with h0|h0|h0
   ·exact SF ops i k hk hlt kd x r g1 g2 n k3 hx h0 Q
   ·exact SE ops i k hk hlt kd x r g1 g2 n k3 hx h0 Q
   ·exact SG ops i k hk hlt kd x r g1 g2 n k3 hx h0 Q
  exact BN ops i k hk hlt kd x r g1 g2 n k0 k1 k2 k3 hx Q
 ·by_cases k0:kd=0
  ·cases hb:(Ye x&&Yk r) with
   | false=>exact SO ops i k hk hlt kd x r g1 g2 n L s c d hL hLi hO hc hd k0 hx hb Q
   | true=>
    simp only[Bool.and_eq_true]at hb
    rcases Nat.lt_or_ge c (L.length+1) with h3|h3<;>rcases Nat.lt_or_ge d (L.length+1) with h4|h4
    ·exact SS ops i k hk hlt kd x r g1 g2 n L s c d hL hLi hO hc hd k0 hx hb.1 hb.2 h3 h4 Q
    ·exact SR ops i k hk hlt kd x r g1 g2 n L s c d hL hLi hO hc hd k0 hx hb.1 hb.2 h3 h4 Q
    ·exact SQ ops i k hk hlt kd x r g1 g2 n L s c d hL hLi hO hc hd k0 hx hb.1 hb.2 h3 h4 Q
    ·exact SP ops i k hk hlt kd x r g1 g2 n L s c d hL hLi hO hc hd k0 hx hb.1 hb.2 h3 h4 Q
  by_cases k1:kd=1
  ·by_cases h0:n<0\/(L.length:Int)<=n
   ·exact SH ops i k hk hlt kd x r g1 g2 n L s c d hL hLi hO hc hd k1 hx h0 Q
   obtain⟨m,rfl⟩:=Int.eq_ofNat_of_zero_le (show 0<=n by omega)
   have hm:m<L.length:=by omega
   have hy:=List.getElem?_eq_getElem hm
   by_cases h1:L[m].lost=true\/s<=m
   ·exact SI ops i k hk hlt kd x r g1 g2 m L s c d hL hLi hO hc hd k1 hx _ hy h1 Q
   have h2:L[m].lost=false:=by cases hl:L[m].lost with|false=>rfl|true=>exact absurd (.inl hl) h1
   have h3:m<s:=by omega
   cases ht:L[m].told with
   | true=>exact SJ ops i k hk hlt kd x r g1 g2 m L s c d hL hLi hO hc hd k1 hx _ hy h2 h3 ht Q
   | false=>exact BQ ops i k hk hlt kd x r g1 g2 m L s c d hL hLi hO hc hd k1 hx _ hy h2 h3 ht Q
  by_cases k2:kd=2
  ·by_cases h0:n<(s:Int)\/(L.length:Int)<n
   ·exact SK ops i k hk hlt kd x r g1 g2 n L s c d hL hLi hO hc hd k2 hx h0 Q
   obtain⟨m,rfl⟩:=Int.eq_ofNat_of_zero_le (show 0<=n by omega)
   exact BR ops i k hk hlt kd x r g1 g2 m L s c d hL hLi hO hc hd k2 hx (by omega) (by omega) Q
  by_cases k3:kd=3
  ·by_cases h0:n<(((ZM (L.take s)).length:Nat):Int)
   ·exact SL ops i k hk hlt kd x r g1 g2 n L s c d hL hLi hO hc hd k3 hx h0 Q
   by_cases h1:n>(((ZM L).length:Nat):Int)
   ·exact SM ops i k hk hlt kd x r g1 g2 n L s c d hL hLi hO hc hd k3 hx h0 h1 Q
   exact BS ops i k hk hlt kd x r g1 g2 n L s c d hL hLi hO hc hd k3 hx h0 h1 Q
  exact BP ops i k hk hlt kd x r g1 g2 n L s c d hL hLi hO hc hd k0 k1 k2 k3 hx Q
end Go.Proofs.YtchlgagdbflkmaaGreatDoor
end
