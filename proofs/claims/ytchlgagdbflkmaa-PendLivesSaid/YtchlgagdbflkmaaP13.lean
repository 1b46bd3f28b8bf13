/- PendLives: rounds that do nothing (pdgen5.py). -/
import Derived.Test.YtchlgagdbflkmaaP12
set_option linter.unusedVariables false
set_option linter.unusedSimpArgs false
section
open Go.RowKit Go.Pl Go.Av
namespace Go.Proofs.Ytchlgagdbflkmaa
set_option maxHeartbeats 4000000
set_option maxRecDepth 10000 in
theorem Ka [Known](ops:List OpV)(M:List Ev)(i k c:Nat)(kd n who:Int)(data:List UInt8)(need:Int)(hk:k+i=150)(hlt:i<ops.length/\i<150)(hMi:M.length<=i)(h64:(Zb M).length<=64)(hx:ops[i]?=some ⟨kd,n,⟨who,data,need⟩⟩)(g:decide (((data.map E.byte).length:Int)>1100)=false)(hM:M=[])(q0:(kd==0)=false)(q1:(kd==1)=false)(q2:(kd==2)=false)(q3:(kd==3)=false)(Q:X->St->Prop) :
  AW Try.prog (ZD (Try.f3.body.getD .skip)) ⟨205,plT ops i,[[.bool true,.sl .nil []],[.sl .nil []]],[],(([]:List (List D)).length,([]:List Fr).length)⟩ (X.then (LandS (PlJ ops) 205 (([]:List (List D)).length,([]:List Fr).length) k) Q):=by
 conv=>enter [3];whnf
 have hol:(ops.map opE).length=ops.length:=List.length_map ..
 have hUo:=ZP ops
 have hUd:=ZO data
 have hd1:decide ((i:Int)<((ops.map opE).length:Int))=true:=decide_eq_true (by rw[hol];omega)
 have hd2:decide ((i:Int)<150)=true:=decide_eq_true (by omega)
 have ei:IntKind.i64.wrap ((i:Int)+1)=((i+1:Nat):Int):=by rw[IntWalk.i64_in _ (by omega)];omega
 have hxe:(ops.map opE)[((i:Nat):Int).toNat]?=some (opE ⟨kd,n,⟨who,data,need⟩⟩):=by rw[Int.toNat_natCast,List.getElem?_map,hx];rfl
 replace hxe:(ops.map opE)[((i:Nat):Int).toNat]?=some (.agg [.int .i64 kd,.int .i64 n,.int .i64 who,.sl (data.map E.byte),.int .i64 need]):=hxe
 subst hM
 have hL1:=Z3 true
 have hL2:=YP
 repeat'(first|rw[ei]|(apply Zc [0] [] (hL1);kernel_rfl;(iterate 10 exact Z))|(apply Zc [1] [] (hL2);kernel_rfl;(iterate 10 exact Z))|(apply Zk Za;exact Z)|(apply Zh Za;exact Z)|(apply Zr Za;exact Z)|(apply Ze;(iterate 3 exact Z);(first|with_reducible assumption|decide +kernel|(solve|simp only[bn])))|(apply Zl;exact Z;(first|with_reducible assumption|decide +kernel|(solve|simp only[bn]));exact Z;exact Z)|(apply Zj;exact Z;(first|with_reducible assumption|decide +kernel|(solve|simp only[bn]));exact Z;exact Z)|(apply Zf;exact Z;(first|with_reducible assumption|decide +kernel|(solve|simp only[bn])))|(apply Zd;exact Z;(first|with_reducible assumption|decide +kernel|(solve|simp only[bn])))|refine Zo Za Z Z Z Z ?_|(apply Zv Za;(iterate 6 exact Z);(first|exact Qt|rotate_left);(first|with_reducible assumption|decide +kernel|exact Z);(first|exact Zg rfl|with_reducible assumption|decide +kernel|rotate_left)))
 refine LandS.mk' (m:=k-1) (tm1:=plT ops (i+1)) [0,1] [] (by omega) ⟨i+1,[],by omega,by omega,by omega,rfl,.inl ⟨rfl,rfl,rfl⟩⟩ rfl rfl rfl rfl ?_ rfl rfl rfl
 exact .cons rfl (.cons rfl (.cons rfl (.cons rfl .nil)))
set_option maxRecDepth 10000 in
theorem Kb [Known](ops:List OpV)(M:List Ev)(i k c:Nat)(kd n who:Int)(data:List UInt8)(need:Int)(hk:k+i=150)(hlt:i<ops.length/\i<150)(hMi:M.length<=i)(h64:(Zb M).length<=64)(hx:ops[i]?=some ⟨kd,n,⟨who,data,need⟩⟩)(g:decide (((data.map E.byte).length:Int)>1100)=false)(hM:M ≠ [])(hL:Zb M=[])(hc:M.length<=c)(q0:(kd==0)=false)(q1:(kd==1)=false)(q2:(kd==2)=false)(q3:(kd==3)=false)(Q:X->St->Prop) :
  AW Try.prog (ZD (Try.f3.body.getD .skip)) ⟨205,plT ops i,[[.bool true,.sl .nil []],[.bsl 2 0 M.length c],[.row (c*4) (reF M)]],[],(([]:List (List D)).length,([]:List Fr).length)⟩ (X.then (LandS (PlJ ops) 205 (([]:List (List D)).length,([]:List Fr).length) k) Q):=by
 conv=>enter [3];whnf
 have hol:(ops.map opE).length=ops.length:=List.length_map ..
 have hUo:=ZP ops
 have hUd:=ZO data
 have hd1:decide ((i:Int)<((ops.map opE).length:Int))=true:=decide_eq_true (by rw[hol];omega)
 have hd2:decide ((i:Int)<150)=true:=decide_eq_true (by omega)
 have ei:IntKind.i64.wrap ((i:Int)+1)=((i+1:Nat):Int):=by rw[IntWalk.i64_in _ (by omega)];omega
 have hxe:(ops.map opE)[((i:Nat):Int).toNat]?=some (opE ⟨kd,n,⟨who,data,need⟩⟩):=by rw[Int.toNat_natCast,List.getElem?_map,hx];rfl
 replace hxe:(ops.map opE)[((i:Nat):Int).toNat]?=some (.agg [.int .i64 kd,.int .i64 n,.int .i64 who,.sl (data.map E.byte),.int .i64 need]):=hxe
 have hl0:(((Zb M).length:Nat):Int)=0:=by rw[hL];rfl
 have hL1:=Z3 true
 have hL2:=ZE M (by omega) (c*4) c
 rw[hL]at hL2
 replace hL2:AQ Try.prog 14 [.ptr 0 0] [[.bsl 1 0 M.length c],[.row (c*4) (reF M)]] (.int .i64 0) [[.bsl 1 0 M.length c],[.row (c*4) (reF M)]]:=hL2
 repeat'(first|rw[ei]|(apply Zc [0] [] (hL1);kernel_rfl;(iterate 10 exact Z))|(apply Zi [1,2] (hL2);kernel_rfl;(iterate 7 exact Z))|(apply Zk Za;exact Z)|(apply Zh Za;exact Z)|(apply Zr Za;exact Z)|(apply Ze;(iterate 3 exact Z);(first|with_reducible assumption|decide +kernel|(solve|simp only[bn])))|(apply Zl;exact Z;(first|with_reducible assumption|decide +kernel|(solve|simp only[bn]));exact Z;exact Z)|(apply Zj;exact Z;(first|with_reducible assumption|decide +kernel|(solve|simp only[bn]));exact Z;exact Z)|(apply Zf;exact Z;(first|with_reducible assumption|decide +kernel|(solve|simp only[bn])))|(apply Zd;exact Z;(first|with_reducible assumption|decide +kernel|(solve|simp only[bn])))|refine Zo Za Z Z Z Z ?_|(apply Zv Za;(iterate 6 exact Z);(first|exact Qt|rotate_left);(first|with_reducible assumption|decide +kernel|exact Z);(first|exact Zg rfl|with_reducible assumption|decide +kernel|rotate_left)))
 refine LandS.mk' (m:=k-1) (tm1:=plT ops (i+1)) [0,1,2] [] (by omega) ⟨i+1,M,by omega,by omega,by omega,rfl,.inr (.inl ⟨hM,hL,c,hc,rfl,rfl⟩)⟩ rfl rfl rfl rfl ?_ rfl rfl rfl
 exact .cons rfl (.cons rfl (.cons rfl (.cons rfl .nil)))
set_option maxRecDepth 10000 in
theorem Kc [Known](ops:List OpV)(M:List Ev)(i k c:Nat)(kd n who:Int)(data:List UInt8)(need:Int)(hk:k+i=150)(hlt:i<ops.length/\i<150)(hMi:M.length<=i)(h64:(Zb M).length<=64)(hx:ops[i]?=some ⟨kd,n,⟨who,data,need⟩⟩)(g:decide (((data.map E.byte).length:Int)>1100)=false)(hM:M ≠ [])(hL:Zb M ≠ [])(hc:M.length<=c)(q0:(kd==0)=false)(q1:(kd==1)=false)(q2:(kd==2)=false)(q3:(kd==3)=false)(Q:X->St->Prop) :
  AW Try.prog (ZD (Try.f3.body.getD .skip)) ⟨205,plT ops i,[[.bool true,.sl (.own 0) ((Zb M).map enE)],[.bsl 2 0 M.length c],[.row (c*4) (reF M)]],[⟨(Zb M).length,3,31⟩],(([]:List (List D)).length,([]:List Fr).length)⟩ (X.then (LandS (PlJ ops) 205 (([]:List (List D)).length,([]:List Fr).length) k) Q):=by
 conv=>enter [3];whnf
 have hol:(ops.map opE).length=ops.length:=List.length_map ..
 have hUo:=ZP ops
 have hUd:=ZO data
 have hd1:decide ((i:Int)<((ops.map opE).length:Int))=true:=decide_eq_true (by rw[hol];omega)
 have hd2:decide ((i:Int)<150)=true:=decide_eq_true (by omega)
 have ei:IntKind.i64.wrap ((i:Int)+1)=((i+1:Nat):Int):=by rw[IntWalk.i64_in _ (by omega)];omega
 have hxe:(ops.map opE)[((i:Nat):Int).toNat]?=some (opE ⟨kd,n,⟨who,data,need⟩⟩):=by rw[Int.toNat_natCast,List.getElem?_map,hx];rfl
 replace hxe:(ops.map opE)[((i:Nat):Int).toNat]?=some (.agg [.int .i64 kd,.int .i64 n,.int .i64 who,.sl (data.map E.byte),.int .i64 need]):=hxe
 have hL1:=Yf ((Zb M).map enE) (Zb M).length
 have hL2:=ZE M (by omega) (c*4) c
 have hlm:(((Zb M).map enE).length:Int)=(((Zb M).length:Nat):Int):=by rw[List.length_map]
 rw[hlm]at hL1
 have hne:((((Zb M).length:Nat):Int) != (((Zb M).length:Nat):Int))=false:=by simp
 repeat'(first|rw[ei]|(apply Zc [0] [0] (hL1);kernel_rfl;(iterate 10 exact Z))|(apply Zi [1,2] (hL2);kernel_rfl;(iterate 7 exact Z))|(apply Zk Za;exact Z)|(apply Zh Za;exact Z)|(apply Zr Za;exact Z)|(apply Ze;(iterate 3 exact Z);(first|with_reducible assumption|decide +kernel|(solve|simp only[bn])))|(apply Zl;exact Z;(first|with_reducible assumption|decide +kernel|(solve|simp only[bn]));exact Z;exact Z)|(apply Zj;exact Z;(first|with_reducible assumption|decide +kernel|(solve|simp only[bn]));exact Z;exact Z)|(apply Zf;exact Z;(first|with_reducible assumption|decide +kernel|(solve|simp only[bn])))|(apply Zd;exact Z;(first|with_reducible assumption|decide +kernel|(solve|simp only[bn])))|refine Zo Za Z Z Z Z ?_|(apply Zv Za;(iterate 6 exact Z);(first|exact Qt|rotate_left);(first|with_reducible assumption|decide +kernel|exact Z);(first|exact Zg rfl|with_reducible assumption|decide +kernel|rotate_left)))
 refine LandS.mk' (m:=k-1) (tm1:=plT ops (i+1)) [0,1,2] [0] (by omega) ⟨i+1,M,by omega,by omega,by omega,rfl,.inr (.inr ⟨hM,hL,c,hc,rfl,rfl⟩)⟩ rfl rfl rfl rfl ?_ rfl rfl rfl
 exact .cons rfl (.cons rfl (.cons rfl (.cons rfl .nil)))
set_option maxRecDepth 10000 in
theorem Ke [Known](ops:List OpV)(M:List Ev)(i k c:Nat)(kd n who:Int)(data:List UInt8)(need:Int)(hk:k+i=150)(hlt:i<ops.length/\i<150)(hMi:M.length<=i)(h64:(Zb M).length<=64)(hx:ops[i]?=some ⟨kd,n,⟨who,data,need⟩⟩)(g:decide (((data.map E.byte).length:Int)>1100)=false)(hM:M=[])(hkd:kd=2)(hn:n=0)(Q:X->St->Prop) :
  AW Try.prog (ZD (Try.f3.body.getD .skip)) ⟨205,plT ops i,[[.bool true,.sl .nil []],[.sl .nil []]],[],(([]:List (List D)).length,([]:List Fr).length)⟩ (X.then (LandS (PlJ ops) 205 (([]:List (List D)).length,([]:List Fr).length) k) Q):=by
 conv=>enter [3];whnf
 have hol:(ops.map opE).length=ops.length:=List.length_map ..
 have hUo:=ZP ops
 have hUd:=ZO data
 have hd1:decide ((i:Int)<((ops.map opE).length:Int))=true:=decide_eq_true (by rw[hol];omega)
 have hd2:decide ((i:Int)<150)=true:=decide_eq_true (by omega)
 have ei:IntKind.i64.wrap ((i:Int)+1)=((i+1:Nat):Int):=by rw[IntWalk.i64_in _ (by omega)];omega
 have hxe:(ops.map opE)[((i:Nat):Int).toNat]?=some (opE ⟨kd,n,⟨who,data,need⟩⟩):=by rw[Int.toNat_natCast,List.getElem?_map,hx];rfl
 replace hxe:(ops.map opE)[((i:Nat):Int).toNat]?=some (.agg [.int .i64 kd,.int .i64 n,.int .i64 who,.sl (data.map E.byte),.int .i64 need]):=hxe
 subst hM
 have q0:(kd==0)=false:=by rw[hkd];rfl
 have q1:(kd==1)=false:=by rw[hkd];rfl
 have q2:(kd==2)=true:=by rw[hkd];rfl
 have z0:(n != 0)=false:=by rw[hn];rfl
 have hL1:=Z3 true
 have hL2:=YP
 repeat'(first|rw[ei]|(apply Zc [0] [] (hL1);kernel_rfl;(iterate 10 exact Z))|(apply Zc [1] [] (hL2);kernel_rfl;(iterate 10 exact Z))|(apply Zk Za;exact Z)|(apply Zh Za;exact Z)|(apply Zr Za;exact Z)|(apply Ze;(iterate 3 exact Z);(first|with_reducible assumption|decide +kernel|(solve|simp only[bn])))|(apply Zl;exact Z;(first|with_reducible assumption|decide +kernel|(solve|simp only[bn]));exact Z;exact Z)|(apply Zj;exact Z;(first|with_reducible assumption|decide +kernel|(solve|simp only[bn]));exact Z;exact Z)|(apply Zf;exact Z;(first|with_reducible assumption|decide +kernel|(solve|simp only[bn])))|(apply Zd;exact Z;(first|with_reducible assumption|decide +kernel|(solve|simp only[bn])))|refine Zo Za Z Z Z Z ?_|(apply Zv Za;(iterate 6 exact Z);(first|exact Qt|rotate_left);(first|with_reducible assumption|decide +kernel|exact Z);(first|exact Zg rfl|with_reducible assumption|decide +kernel|rotate_left)))
 refine LandS.mk' (m:=k-1) (tm1:=plT ops (i+1)) [0,1] [] (by omega) ⟨i+1,[],by omega,by omega,by omega,rfl,.inl ⟨rfl,rfl,rfl⟩⟩ rfl rfl rfl rfl ?_ rfl rfl rfl
 exact .cons rfl (.cons rfl (.cons rfl (.cons rfl .nil)))
set_option maxRecDepth 10000 in
theorem Kf [Known](ops:List OpV)(M:List Ev)(i k c:Nat)(kd n who:Int)(data:List UInt8)(need:Int)(hk:k+i=150)(hlt:i<ops.length/\i<150)(hMi:M.length<=i)(h64:(Zb M).length<=64)(hx:ops[i]?=some ⟨kd,n,⟨who,data,need⟩⟩)(g:decide (((data.map E.byte).length:Int)>1100)=false)(hM:M ≠ [])(hL:Zb M=[])(hc:M.length<=c)(hkd:kd=2)(hn:n=0)(Q:X->St->Prop) :
  AW Try.prog (ZD (Try.f3.body.getD .skip)) ⟨205,plT ops i,[[.bool true,.sl .nil []],[.bsl 2 0 M.length c],[.row (c*4) (reF M)]],[],(([]:List (List D)).length,([]:List Fr).length)⟩ (X.then (LandS (PlJ ops) 205 (([]:List (List D)).length,([]:List Fr).length) k) Q):=by
 conv=>enter [3];whnf
 have hol:(ops.map opE).length=ops.length:=List.length_map ..
 have hUo:=ZP ops
 have hUd:=ZO data
 have hd1:decide ((i:Int)<((ops.map opE).length:Int))=true:=decide_eq_true (by rw[hol];omega)
 have hd2:decide ((i:Int)<150)=true:=decide_eq_true (by omega)
 have ei:IntKind.i64.wrap ((i:Int)+1)=((i+1:Nat):Int):=by rw[IntWalk.i64_in _ (by omega)];omega
 have hxe:(ops.map opE)[((i:Nat):Int).toNat]?=some (opE ⟨kd,n,⟨who,data,need⟩⟩):=by rw[Int.toNat_natCast,List.getElem?_map,hx];rfl
 replace hxe:(ops.map opE)[((i:Nat):Int).toNat]?=some (.agg [.int .i64 kd,.int .i64 n,.int .i64 who,.sl (data.map E.byte),.int .i64 need]):=hxe
 have q0:(kd==0)=false:=by rw[hkd];rfl
 have q1:(kd==1)=false:=by rw[hkd];rfl
 have q2:(kd==2)=true:=by rw[hkd];rfl
 have z0:(n != 0)=false:=by rw[hn];rfl
 have hl0:(((Zb M).length:Nat):Int)=0:=by rw[hL];rfl
 have hL1:=Z3 true
 have hL2:=ZE M (by omega) (c*4) c
 rw[hL]at hL2
 replace hL2:AQ Try.prog 14 [.ptr 0 0] [[.bsl 1 0 M.length c],[.row (c*4) (reF M)]] (.int .i64 0) [[.bsl 1 0 M.length c],[.row (c*4) (reF M)]]:=hL2
 repeat'(first|rw[ei]|(apply Zc [0] [] (hL1);kernel_rfl;(iterate 10 exact Z))|(apply Zi [1,2] (hL2);kernel_rfl;(iterate 7 exact Z))|(apply Zk Za;exact Z)|(apply Zh Za;exact Z)|(apply Zr Za;exact Z)|(apply Ze;(iterate 3 exact Z);(first|with_reducible assumption|decide +kernel|(solve|simp only[bn])))|(apply Zl;exact Z;(first|with_reducible assumption|decide +kernel|(solve|simp only[bn]));exact Z;exact Z)|(apply Zj;exact Z;(first|with_reducible assumption|decide +kernel|(solve|simp only[bn]));exact Z;exact Z)|(apply Zf;exact Z;(first|with_reducible assumption|decide +kernel|(solve|simp only[bn])))|(apply Zd;exact Z;(first|with_reducible assumption|decide +kernel|(solve|simp only[bn])))|refine Zo Za Z Z Z Z ?_|(apply Zv Za;(iterate 6 exact Z);(first|exact Qt|rotate_left);(first|with_reducible assumption|decide +kernel|exact Z);(first|exact Zg rfl|with_reducible assumption|decide +kernel|rotate_left)))
 refine LandS.mk' (m:=k-1) (tm1:=plT ops (i+1)) [0,1,2] [] (by omega) ⟨i+1,M,by omega,by omega,by omega,rfl,.inr (.inl ⟨hM,hL,c,hc,rfl,rfl⟩)⟩ rfl rfl rfl rfl ?_ rfl rfl rfl
 exact .cons rfl (.cons rfl (.cons rfl (.cons rfl .nil)))
set_option maxRecDepth 10000 in
theorem Kg [Known](ops:List OpV)(M:List Ev)(i k c:Nat)(kd n who:Int)(data:List UInt8)(need:Int)(hk:k+i=150)(hlt:i<ops.length/\i<150)(hMi:M.length<=i)(h64:(Zb M).length<=64)(hx:ops[i]?=some ⟨kd,n,⟨who,data,need⟩⟩)(g:decide (((data.map E.byte).length:Int)>1100)=false)(hM:M ≠ [])(hL:Zb M ≠ [])(hc:M.length<=c)(hkd:kd=2)(hn:n=0)(Q:X->St->Prop) :
  AW Try.prog (ZD (Try.f3.body.getD .skip)) ⟨205,plT ops i,[[.bool true,.sl (.own 0) ((Zb M).map enE)],[.bsl 2 0 M.length c],[.row (c*4) (reF M)]],[⟨(Zb M).length,3,31⟩],(([]:List (List D)).length,([]:List Fr).length)⟩ (X.then (LandS (PlJ ops) 205 (([]:List (List D)).length,([]:List Fr).length) k) Q):=by
 conv=>enter [3];whnf
 have hol:(ops.map opE).length=ops.length:=List.length_map ..
 have hUo:=ZP ops
 have hUd:=ZO data
 have hd1:decide ((i:Int)<((ops.map opE).length:Int))=true:=decide_eq_true (by rw[hol];omega)
 have hd2:decide ((i:Int)<150)=true:=decide_eq_true (by omega)
 have ei:IntKind.i64.wrap ((i:Int)+1)=((i+1:Nat):Int):=by rw[IntWalk.i64_in _ (by omega)];omega
 have hxe:(ops.map opE)[((i:Nat):Int).toNat]?=some (opE ⟨kd,n,⟨who,data,need⟩⟩):=by rw[Int.toNat_natCast,List.getElem?_map,hx];rfl
 replace hxe:(ops.map opE)[((i:Nat):Int).toNat]?=some (.agg [.int .i64 kd,.int .i64 n,.int .i64 who,.sl (data.map E.byte),.int .i64 need]):=hxe
 have q0:(kd==0)=false:=by rw[hkd];rfl
 have q1:(kd==1)=false:=by rw[hkd];rfl
 have q2:(kd==2)=true:=by rw[hkd];rfl
 have z0:(n != 0)=false:=by rw[hn];rfl
 have hL1:=Yf ((Zb M).map enE) (Zb M).length
 have hL2:=ZE M (by omega) (c*4) c
 have hlm:(((Zb M).map enE).length:Int)=(((Zb M).length:Nat):Int):=by rw[List.length_map]
 rw[hlm]at hL1
 have hne:((((Zb M).length:Nat):Int) != (((Zb M).length:Nat):Int))=false:=by simp
 repeat'(first|rw[ei]|(apply Zc [0] [0] (hL1);kernel_rfl;(iterate 10 exact Z))|(apply Zi [1,2] (hL2);kernel_rfl;(iterate 7 exact Z))|(apply Zk Za;exact Z)|(apply Zh Za;exact Z)|(apply Zr Za;exact Z)|(apply Ze;(iterate 3 exact Z);(first|with_reducible assumption|decide +kernel|(solve|simp only[bn])))|(apply Zl;exact Z;(first|with_reducible assumption|decide +kernel|(solve|simp only[bn]));exact Z;exact Z)|(apply Zj;exact Z;(first|with_reducible assumption|decide +kernel|(solve|simp only[bn]));exact Z;exact Z)|(apply Zf;exact Z;(first|with_reducible assumption|decide +kernel|(solve|simp only[bn])))|(apply Zd;exact Z;(first|with_reducible assumption|decide +kernel|(solve|simp only[bn])))|refine Zo Za Z Z Z Z ?_|(apply Zv Za;(iterate 6 exact Z);(first|exact Qt|rotate_left);(first|with_reducible assumption|decide +kernel|exact Z);(first|exact Zg rfl|with_reducible assumption|decide +kernel|rotate_left)))
 refine LandS.mk' (m:=k-1) (tm1:=plT ops (i+1)) [0,1,2] [0] (by omega) ⟨i+1,M,by omega,by omega,by omega,rfl,.inr (.inr ⟨hM,hL,c,hc,rfl,rfl⟩)⟩ rfl rfl rfl rfl ?_ rfl rfl rfl
 exact .cons rfl (.cons rfl (.cons rfl (.cons rfl .nil)))
set_option maxRecDepth 10000 in
theorem Kh [Known](ops:List OpV)(M:List Ev)(i k c:Nat)(kd n who:Int)(data:List UInt8)(need:Int)(hk:k+i=150)(hlt:i<ops.length/\i<150)(hMi:M.length<=i)(h64:(Zb M).length<=64)(hx:ops[i]?=some ⟨kd,n,⟨who,data,need⟩⟩)(g:decide (((data.map E.byte).length:Int)>1100)=false)(hM:M=[])(hkd:kd=3)(Q:X->St->Prop) :
  AW Try.prog (ZD (Try.f3.body.getD .skip)) ⟨205,plT ops i,[[.bool true,.sl .nil []],[.sl .nil []]],[],(([]:List (List D)).length,([]:List Fr).length)⟩ (X.then (LandS (PlJ ops) 205 (([]:List (List D)).length,([]:List Fr).length) k) Q):=by
 conv=>enter [3];whnf
 have hol:(ops.map opE).length=ops.length:=List.length_map ..
 have hUo:=ZP ops
 have hUd:=ZO data
 have hd1:decide ((i:Int)<((ops.map opE).length:Int))=true:=decide_eq_true (by rw[hol];omega)
 have hd2:decide ((i:Int)<150)=true:=decide_eq_true (by omega)
 have ei:IntKind.i64.wrap ((i:Int)+1)=((i+1:Nat):Int):=by rw[IntWalk.i64_in _ (by omega)];omega
 have hxe:(ops.map opE)[((i:Nat):Int).toNat]?=some (opE ⟨kd,n,⟨who,data,need⟩⟩):=by rw[Int.toNat_natCast,List.getElem?_map,hx];rfl
 replace hxe:(ops.map opE)[((i:Nat):Int).toNat]?=some (.agg [.int .i64 kd,.int .i64 n,.int .i64 who,.sl (data.map E.byte),.int .i64 need]):=hxe
 subst hM
 have q0:(kd==0)=false:=by rw[hkd];rfl
 have q1:(kd==1)=false:=by rw[hkd];rfl
 have q2:(kd==2)=false:=by rw[hkd];rfl
 have q3:(kd==3)=true:=by rw[hkd];rfl
 have hC:=V0
 have hD:=UI 0
 have hL1:=Z3 true
 have hL2:=YP
 repeat'(first|rw[ei]|(apply Zc [0] [] (hC);kernel_rfl;(iterate 10 exact Z))|(apply Zc [1] [] (hD);kernel_rfl;(iterate 10 exact Z))|(apply Zc [0] [] (hL1);kernel_rfl;(iterate 10 exact Z))|(apply Zc [1] [] (hL2);kernel_rfl;(iterate 10 exact Z))|(apply Zk Za;exact Z)|(apply Zh Za;exact Z)|(apply Zr Za;exact Z)|(apply Ze;(iterate 3 exact Z);(first|with_reducible assumption|decide +kernel|(solve|simp only[bn])))|(apply Zl;exact Z;(first|with_reducible assumption|decide +kernel|(solve|simp only[bn]));exact Z;exact Z)|(apply Zj;exact Z;(first|with_reducible assumption|decide +kernel|(solve|simp only[bn]));exact Z;exact Z)|(apply Zf;exact Z;(first|with_reducible assumption|decide +kernel|(solve|simp only[bn])))|(apply Zd;exact Z;(first|with_reducible assumption|decide +kernel|(solve|simp only[bn])))|refine Zo Za Z Z Z Z ?_|(apply Zv Za;(iterate 6 exact Z);(first|exact Qt|rotate_left);(first|with_reducible assumption|decide +kernel|exact Z);(first|exact Zg rfl|with_reducible assumption|decide +kernel|rotate_left)))
 refine LandS.mk' (m:=k-1) (tm1:=plT ops (i+1)) [0,1] [] (by omega) ⟨i+1,[],by omega,by omega,by omega,rfl,.inl ⟨rfl,rfl,rfl⟩⟩ rfl rfl rfl rfl ?_ rfl rfl rfl
 exact .cons rfl (.cons rfl (.cons rfl (.cons rfl .nil)))
set_option maxRecDepth 10000 in
theorem Ki [Known](ops:List OpV)(M:List Ev)(i k c:Nat)(kd n who:Int)(data:List UInt8)(need:Int)(hk:k+i=150)(hlt:i<ops.length/\i<150)(hMi:M.length<=i)(h64:(Zb M).length<=64)(hx:ops[i]?=some ⟨kd,n,⟨who,data,need⟩⟩)(g:decide (((data.map E.byte).length:Int)>1100)=false)(hM:M ≠ [])(hL:Zb M=[])(hc:M.length<=c)(hkd:kd=3)(Q:X->St->Prop) :
  AW Try.prog (ZD (Try.f3.body.getD .skip)) ⟨205,plT ops i,[[.bool true,.sl .nil []],[.bsl 2 0 M.length c],[.row (c*4) (reF M)]],[],(([]:List (List D)).length,([]:List Fr).length)⟩ (X.then (LandS (PlJ ops) 205 (([]:List (List D)).length,([]:List Fr).length) k) Q):=by
 conv=>enter [3];whnf
 have hol:(ops.map opE).length=ops.length:=List.length_map ..
 have hUo:=ZP ops
 have hUd:=ZO data
 have hd1:decide ((i:Int)<((ops.map opE).length:Int))=true:=decide_eq_true (by rw[hol];omega)
 have hd2:decide ((i:Int)<150)=true:=decide_eq_true (by omega)
 have ei:IntKind.i64.wrap ((i:Int)+1)=((i+1:Nat):Int):=by rw[IntWalk.i64_in _ (by omega)];omega
 have hxe:(ops.map opE)[((i:Nat):Int).toNat]?=some (opE ⟨kd,n,⟨who,data,need⟩⟩):=by rw[Int.toNat_natCast,List.getElem?_map,hx];rfl
 replace hxe:(ops.map opE)[((i:Nat):Int).toNat]?=some (.agg [.int .i64 kd,.int .i64 n,.int .i64 who,.sl (data.map E.byte),.int .i64 need]):=hxe
 have q0:(kd==0)=false:=by rw[hkd];rfl
 have q1:(kd==1)=false:=by rw[hkd];rfl
 have q2:(kd==2)=false:=by rw[hkd];rfl
 have q3:(kd==3)=true:=by rw[hkd];rfl
 have hl0:Zb (Zu (fun _=>true) M)=[]:=by rw[ZC];exact List.filter_eq_nil_iff.2 (fun _ _=>by simp)
 have hD:=Vh 0 M (by omega) (c*4) c
 rw[UO]at hD
 have hL1:=Z3 true
 have hL2:=ZE (Zu (fun _=>true) M) (by rw[Zn];omega) (c*4) c
 rw[hl0,Zn]at hL2
 replace hL2:AQ Try.prog 14 [.ptr 0 0] [[.bsl 1 0 M.length c],[.row (c*4) (reF (Zu (fun _=>true) M))]] (.int .i64 0) [[.bsl 1 0 M.length c],[.row (c*4) (reF (Zu (fun _=>true) M))]]:=hL2
 have hC:=V0
 repeat'(first|rw[ei]|(apply Zc [0] [] (hC);kernel_rfl;(iterate 10 exact Z))|(apply Zi [1,2] (hD);kernel_rfl;(iterate 7 exact Z))|(apply Zc [0] [] (hL1);kernel_rfl;(iterate 10 exact Z))|(apply Zi [1,2] (hL2);kernel_rfl;(iterate 7 exact Z))|(apply Zk Za;exact Z)|(apply Zh Za;exact Z)|(apply Zr Za;exact Z)|(apply Ze;(iterate 3 exact Z);(first|with_reducible assumption|decide +kernel|(solve|simp only[bn])))|(apply Zl;exact Z;(first|with_reducible assumption|decide +kernel|(solve|simp only[bn]));exact Z;exact Z)|(apply Zj;exact Z;(first|with_reducible assumption|decide +kernel|(solve|simp only[bn]));exact Z;exact Z)|(apply Zf;exact Z;(first|with_reducible assumption|decide +kernel|(solve|simp only[bn])))|(apply Zd;exact Z;(first|with_reducible assumption|decide +kernel|(solve|simp only[bn])))|refine Zo Za Z Z Z Z ?_|(apply Zv Za;(iterate 6 exact Z);(first|exact Qt|rotate_left);(first|with_reducible assumption|decide +kernel|exact Z);(first|exact Zg rfl|with_reducible assumption|decide +kernel|rotate_left)))
 refine LandS.mk' (m:=k-1) (tm1:=plT ops (i+1)) (bx:=[[.bool true,.sl .nil []],[.bsl 2 0 M.length c],[.row (c*4) (reF (Zu (fun _=>true) M))]]) (fr:=[]) [0,1,2] [] (by omega) ⟨i+1,Zu (fun _=>true) M,by omega,by rw[Zn];omega,by have:=ZZ (fun _=>true) M;omega,rfl,.inr (.inl ⟨YQ hM,hl0,c,by rw[Zn];exact hc,by rw[Zn],rfl⟩)⟩ rfl rfl rfl rfl ?_ rfl rfl rfl
 exact .cons rfl (.cons rfl (.cons rfl (.cons rfl .nil)))
set_option maxRecDepth 10000 in
theorem Kj [Known](ops:List OpV)(M:List Ev)(i k c:Nat)(kd n who:Int)(data:List UInt8)(need:Int)(hk:k+i=150)(hlt:i<ops.length/\i<150)(hMi:M.length<=i)(h64:(Zb M).length<=64)(hx:ops[i]?=some ⟨kd,n,⟨who,data,need⟩⟩)(g:decide (((data.map E.byte).length:Int)>1100)=false)(hM:M ≠ [])(hL:Zb M ≠ [])(hc:M.length<=c)(hkd:kd=3)(Q:X->St->Prop) :
  AW Try.prog (ZD (Try.f3.body.getD .skip)) ⟨205,plT ops i,[[.bool true,.sl (.own 0) ((Zb M).map enE)],[.bsl 2 0 M.length c],[.row (c*4) (reF M)]],[⟨(Zb M).length,3,31⟩],(([]:List (List D)).length,([]:List Fr).length)⟩ (X.then (LandS (PlJ ops) 205 (([]:List (List D)).length,([]:List Fr).length) k) Q):=by
 conv=>enter [3];whnf
 have hol:(ops.map opE).length=ops.length:=List.length_map ..
 have hUo:=ZP ops
 have hUd:=ZO data
 have hd1:decide ((i:Int)<((ops.map opE).length:Int))=true:=decide_eq_true (by rw[hol];omega)
 have hd2:decide ((i:Int)<150)=true:=decide_eq_true (by omega)
 have ei:IntKind.i64.wrap ((i:Int)+1)=((i+1:Nat):Int):=by rw[IntWalk.i64_in _ (by omega)];omega
 have hxe:(ops.map opE)[((i:Nat):Int).toNat]?=some (opE ⟨kd,n,⟨who,data,need⟩⟩):=by rw[Int.toNat_natCast,List.getElem?_map,hx];rfl
 replace hxe:(ops.map opE)[((i:Nat):Int).toNat]?=some (.agg [.int .i64 kd,.int .i64 n,.int .i64 who,.sl (data.map E.byte),.int .i64 need]):=hxe
 have q0:(kd==0)=false:=by rw[hkd];rfl
 have q1:(kd==1)=false:=by rw[hkd];rfl
 have q2:(kd==2)=false:=by rw[hkd];rfl
 have q3:(kd==3)=true:=by rw[hkd];rfl
 have hl0:Zb (Zu (fun _=>true) M)=[]:=by rw[ZC];exact List.filter_eq_nil_iff.2 (fun _ _=>by simp)
 have hD:=Vh 0 M (by omega) (c*4) c
 rw[UO]at hD
 have hL1:=Z3 true
 have hL2:=ZE (Zu (fun _=>true) M) (by rw[Zn];omega) (c*4) c
 rw[hl0,Zn]at hL2
 replace hL2:AQ Try.prog 14 [.ptr 0 0] [[.bsl 1 0 M.length c],[.row (c*4) (reF (Zu (fun _=>true) M))]] (.int .i64 0) [[.bsl 1 0 M.length c],[.row (c*4) (reF (Zu (fun _=>true) M))]]:=hL2
 have hC:=JD ((Zb M).map enE) (Zb M).length
 repeat'(first|rw[ei]|(apply Zc [0] [0] (hC);kernel_rfl;(iterate 10 exact Z))|(apply Zi [1,2] (hD);kernel_rfl;(iterate 7 exact Z))|(apply Zc [0] [] (hL1);kernel_rfl;(iterate 10 exact Z))|(apply Zi [1,2] (hL2);kernel_rfl;(iterate 7 exact Z))|(apply Zk Za;exact Z)|(apply Zh Za;exact Z)|(apply Zr Za;exact Z)|(apply Ze;(iterate 3 exact Z);(first|with_reducible assumption|decide +kernel|(solve|simp only[bn])))|(apply Zl;exact Z;(first|with_reducible assumption|decide +kernel|(solve|simp only[bn]));exact Z;exact Z)|(apply Zj;exact Z;(first|with_reducible assumption|decide +kernel|(solve|simp only[bn]));exact Z;exact Z)|(apply Zf;exact Z;(first|with_reducible assumption|decide +kernel|(solve|simp only[bn])))|(apply Zd;exact Z;(first|with_reducible assumption|decide +kernel|(solve|simp only[bn])))|refine Zo Za Z Z Z Z ?_|(apply Zv Za;(iterate 6 exact Z);(first|exact Qt|rotate_left);(first|with_reducible assumption|decide +kernel|exact Z);(first|exact Zg rfl|with_reducible assumption|decide +kernel|rotate_left)))
 refine LandS.mk' (m:=k-1) (tm1:=plT ops (i+1)) (bx:=[[.bool true,.sl .nil []],[.bsl 2 0 M.length c],[.row (c*4) (reF (Zu (fun _=>true) M))]]) (fr:=[]) [0,1,2] [] (by omega) ⟨i+1,Zu (fun _=>true) M,by omega,by rw[Zn];omega,by have:=ZZ (fun _=>true) M;omega,rfl,.inr (.inl ⟨YQ hM,hl0,c,by rw[Zn];exact hc,by rw[Zn],rfl⟩)⟩ rfl rfl rfl rfl ?_ rfl rfl rfl
 exact .cons rfl (.cons rfl (.cons rfl (.cons rfl .nil)))
set_option maxRecDepth 10000 in
theorem Kk [Known](ops:List OpV)(M:List Ev)(i k c:Nat)(kd n who:Int)(data:List UInt8)(need:Int)(hk:k+i=150)(hlt:i<ops.length/\i<150)(hMi:M.length<=i)(h64:(Zb M).length<=64)(hx:ops[i]?=some ⟨kd,n,⟨who,data,need⟩⟩)(g:decide (((data.map E.byte).length:Int)>1100)=false)(hM:M=[])(hkd:kd=2)(hn:(n==0)=false)(Q:X->St->Prop) :
  AW Try.prog (ZD (Try.f3.body.getD .skip)) ⟨205,plT ops i,[[.bool true,.sl .nil []],[.sl .nil []]],[],(([]:List (List D)).length,([]:List Fr).length)⟩ (X.then (LandS (PlJ ops) 205 (([]:List (List D)).length,([]:List Fr).length) k) Q):=by
 conv=>enter [3];whnf
 have hol:(ops.map opE).length=ops.length:=List.length_map ..
 have hUo:=ZP ops
 have hUd:=ZO data
 have hd1:decide ((i:Int)<((ops.map opE).length:Int))=true:=decide_eq_true (by rw[hol];omega)
 have hd2:decide ((i:Int)<150)=true:=decide_eq_true (by omega)
 have ei:IntKind.i64.wrap ((i:Int)+1)=((i+1:Nat):Int):=by rw[IntWalk.i64_in _ (by omega)];omega
 have hxe:(ops.map opE)[((i:Nat):Int).toNat]?=some (opE ⟨kd,n,⟨who,data,need⟩⟩):=by rw[Int.toNat_natCast,List.getElem?_map,hx];rfl
 replace hxe:(ops.map opE)[((i:Nat):Int).toNat]?=some (.agg [.int .i64 kd,.int .i64 n,.int .i64 who,.sl (data.map E.byte),.int .i64 need]):=hxe
 subst hM
 have q0:(kd==0)=false:=by rw[hkd];rfl
 have q1:(kd==1)=false:=by rw[hkd];rfl
 have q2:(kd==2)=true:=by rw[hkd];rfl
 have z0:(n != 0)=true:=by rw[bne,hn];rfl
 have hC:=UM n true
 have hD:=UI n
 have hL1:=Z3 true
 have hL2:=YP
 repeat'(first|rw[ei]|(apply Zc [0] [] (hC);kernel_rfl;(iterate 10 exact Z))|(apply Zc [1] [] (hD);kernel_rfl;(iterate 10 exact Z))|(apply Zc [0] [] (hL1);kernel_rfl;(iterate 10 exact Z))|(apply Zc [1] [] (hL2);kernel_rfl;(iterate 10 exact Z))|(apply Zk Za;exact Z)|(apply Zh Za;exact Z)|(apply Zr Za;exact Z)|(apply Ze;(iterate 3 exact Z);(first|with_reducible assumption|decide +kernel|(solve|simp only[bn])))|(apply Zl;exact Z;(first|with_reducible assumption|decide +kernel|(solve|simp only[bn]));exact Z;exact Z)|(apply Zj;exact Z;(first|with_reducible assumption|decide +kernel|(solve|simp only[bn]));exact Z;exact Z)|(apply Zf;exact Z;(first|with_reducible assumption|decide +kernel|(solve|simp only[bn])))|(apply Zd;exact Z;(first|with_reducible assumption|decide +kernel|(solve|simp only[bn])))|refine Zo Za Z Z Z Z ?_|(apply Zq 7 Z5;decide +kernel;kernel_rfl;kernel_rfl;kernel_rfl;exact Z;exact Z)|(apply Zt;(iterate 4 exact Z))|exact AE.nil _ _ _ _|(apply Zz;exact Z)|(apply ZG;exact Z;exact Z;decide +kernel;exact Z)|(apply ZH;exact Z)|exact AO.nil _ _ _|(apply Zs;(decide +kernel))|exact AOs.nil|exact ZX rfl rfl|(apply Zv Za;(iterate 6 exact Z);(first|exact Qt|rotate_left);(first|with_reducible assumption|decide +kernel|exact Z);(first|exact Zg rfl|with_reducible assumption|decide +kernel|rotate_left)))
 refine LandS.mk' (m:=k-1) (tm1:=plT ops (i+1)) [0,1] [] (by omega) ⟨i+1,[],by omega,by omega,by omega,rfl,.inl ⟨rfl,rfl,rfl⟩⟩ rfl rfl rfl rfl ?_ rfl rfl rfl
 exact .cons rfl (.cons rfl (.cons rfl (.cons rfl .nil)))
set_option maxRecDepth 10000 in
theorem Kl [Known](ops:List OpV)(M:List Ev)(i k c:Nat)(kd n who:Int)(data:List UInt8)(need:Int)(hk:k+i=150)(hlt:i<ops.length/\i<150)(hMi:M.length<=i)(h64:(Zb M).length<=64)(hx:ops[i]?=some ⟨kd,n,⟨who,data,need⟩⟩)(g:decide (((data.map E.byte).length:Int)>1100)=false)(hM:M ≠ [])(hL:Zb M=[])(hc:M.length<=c)(hkd:kd=2)(hn:(n==0)=false)(Q:X->St->Prop) :
  AW Try.prog (ZD (Try.f3.body.getD .skip)) ⟨205,plT ops i,[[.bool true,.sl .nil []],[.bsl 2 0 M.length c],[.row (c*4) (reF M)]],[],(([]:List (List D)).length,([]:List Fr).length)⟩ (X.then (LandS (PlJ ops) 205 (([]:List (List D)).length,([]:List Fr).length) k) Q):=by
 conv=>enter [3];whnf
 have hol:(ops.map opE).length=ops.length:=List.length_map ..
 have hUo:=ZP ops
 have hUd:=ZO data
 have hd1:decide ((i:Int)<((ops.map opE).length:Int))=true:=decide_eq_true (by rw[hol];omega)
 have hd2:decide ((i:Int)<150)=true:=decide_eq_true (by omega)
 have ei:IntKind.i64.wrap ((i:Int)+1)=((i+1:Nat):Int):=by rw[IntWalk.i64_in _ (by omega)];omega
 have hxe:(ops.map opE)[((i:Nat):Int).toNat]?=some (opE ⟨kd,n,⟨who,data,need⟩⟩):=by rw[Int.toNat_natCast,List.getElem?_map,hx];rfl
 replace hxe:(ops.map opE)[((i:Nat):Int).toNat]?=some (.agg [.int .i64 kd,.int .i64 n,.int .i64 who,.sl (data.map E.byte),.int .i64 need]):=hxe
 have q0:(kd==0)=false:=by rw[hkd];rfl
 have q1:(kd==1)=false:=by rw[hkd];rfl
 have q2:(kd==2)=true:=by rw[hkd];rfl
 have z0:(n != 0)=true:=by rw[bne,hn];rfl
 have hD:=Vh n M (by omega) (c*4) c
 rw[V1 hn,UN]at hD
 have hL2:=ZE (Zu (fun x=>x.who==n) M) (by rw[Zn];omega) (c*4) c
 rw[ZC,Zn]at hL2
 rw[hL]at hD hL2
 have hl0:Zb (Zu (fun x=>x.who==n) M)=[]:=by rw[ZC,hL];rfl
 replace hD:AQ Try.prog 11 [.ptr 0 0,.int .i64 n] [[.bsl 1 0 M.length c],[.row (c*4) (reF M)]] (.int .i64 0) [[.bsl 1 0 M.length c],[.row (c*4) (reF (Zu (fun x=>x.who==n) M))]]:=hD
 replace hL2:AQ Try.prog 14 [.ptr 0 0] [[.bsl 1 0 M.length c],[.row (c*4) (reF (Zu (fun x=>x.who==n) M))]] (.int .i64 0) [[.bsl 1 0 M.length c],[.row (c*4) (reF (Zu (fun x=>x.who==n) M))]]:=hL2
 have hC:=UM n true
 have hL1:=Z3 true
 repeat'(first|rw[ei]|(apply Zc [0] [] (hC);kernel_rfl;(iterate 10 exact Z))|(apply Zi [1,2] (hD);kernel_rfl;(iterate 7 exact Z))|(apply Zc [0] [] (hL1);kernel_rfl;(iterate 10 exact Z))|(apply Zi [1,2] (hL2);kernel_rfl;(iterate 7 exact Z))|(apply Zk Za;exact Z)|(apply Zh Za;exact Z)|(apply Zr Za;exact Z)|(apply Ze;(iterate 3 exact Z);(first|with_reducible assumption|decide +kernel|(solve|simp only[bn])))|(apply Zl;exact Z;(first|with_reducible assumption|decide +kernel|(solve|simp only[bn]));exact Z;exact Z)|(apply Zj;exact Z;(first|with_reducible assumption|decide +kernel|(solve|simp only[bn]));exact Z;exact Z)|(apply Zf;exact Z;(first|with_reducible assumption|decide +kernel|(solve|simp only[bn])))|(apply Zd;exact Z;(first|with_reducible assumption|decide +kernel|(solve|simp only[bn])))|refine Zo Za Z Z Z Z ?_|(apply Zq 7 Z5;decide +kernel;kernel_rfl;kernel_rfl;kernel_rfl;exact Z;exact Z)|(apply Zt;(iterate 4 exact Z))|exact AE.nil _ _ _ _|(apply Zz;exact Z)|(apply ZG;exact Z;exact Z;decide +kernel;exact Z)|(apply ZH;exact Z)|exact AO.nil _ _ _|(apply Zs;(decide +kernel))|exact AOs.nil|exact ZX rfl rfl|(apply Zv Za;(iterate 6 exact Z);(first|exact Qt|rotate_left);(first|with_reducible assumption|decide +kernel|exact Z);(first|exact Zg rfl|with_reducible assumption|decide +kernel|rotate_left)))
 refine LandS.mk' (m:=k-1) (tm1:=plT ops (i+1)) (bx:=[[.bool true,.sl .nil []],[.bsl 2 0 M.length c],[.row (c*4) (reF (Zu (fun x=>x.who==n) M))]]) (fr:=[]) [0,1,2] [] (by omega) ⟨i+1,Zu (fun x=>x.who==n) M,by omega,by rw[Zn];omega,by have:=ZZ (fun x=>x.who==n) M;omega,rfl,.inr (.inl ⟨YQ hM,hl0,c,by rw[Zn];exact hc,by rw[Zn],rfl⟩)⟩ rfl rfl rfl rfl ?_ rfl rfl rfl
 exact .cons rfl (.cons rfl (.cons rfl (.cons rfl .nil)))
set_option maxRecDepth 10000 in
theorem Km [Known](ops:List OpV)(M:List Ev)(i k c:Nat)(kd n who:Int)(data:List UInt8)(need:Int)(hk:k+i=150)(hlt:i<ops.length/\i<150)(hMi:M.length<=i)(h64:(Zb M).length<=64)(hx:ops[i]?=some ⟨kd,n,⟨who,data,need⟩⟩)(g:decide (((data.map E.byte).length:Int)>1100)=false)(hM:M ≠ [])(hL:Zb M ≠ [])(hc:M.length<=c)(hkd:kd=2)(hn:(n==0)=false)(Q:X->St->Prop) :
  AW Try.prog (ZD (Try.f3.body.getD .skip)) ⟨205,plT ops i,[[.bool true,.sl (.own 0) ((Zb M).map enE)],[.bsl 2 0 M.length c],[.row (c*4) (reF M)]],[⟨(Zb M).length,3,31⟩],(([]:List (List D)).length,([]:List Fr).length)⟩ (X.then (LandS (PlJ ops) 205 (([]:List (List D)).length,([]:List Fr).length) k) Q):=by
 conv=>enter [3];whnf
 have hol:(ops.map opE).length=ops.length:=List.length_map ..
 have hUo:=ZP ops
 have hUd:=ZO data
 have hd1:decide ((i:Int)<((ops.map opE).length:Int))=true:=decide_eq_true (by rw[hol];omega)
 have hd2:decide ((i:Int)<150)=true:=decide_eq_true (by omega)
 have ei:IntKind.i64.wrap ((i:Int)+1)=((i+1:Nat):Int):=by rw[IntWalk.i64_in _ (by omega)];omega
 have hxe:(ops.map opE)[((i:Nat):Int).toNat]?=some (opE ⟨kd,n,⟨who,data,need⟩⟩):=by rw[Int.toNat_natCast,List.getElem?_map,hx];rfl
 replace hxe:(ops.map opE)[((i:Nat):Int).toNat]?=some (.agg [.int .i64 kd,.int .i64 n,.int .i64 who,.sl (data.map E.byte),.int .i64 need]):=hxe
 have q0:(kd==0)=false:=by rw[hkd];rfl
 have q1:(kd==1)=false:=by rw[hkd];rfl
 have q2:(kd==2)=true:=by rw[hkd];rfl
 have z0:(n != 0)=true:=by rw[bne,hn];rfl
 have hD:=Vh n M (by omega) (c*4) c
 rw[V1 hn,UN]at hD
 have hL2:=ZE (Zu (fun x=>x.who==n) M) (by rw[Zn];omega) (c*4) c
 rw[ZC,Zn]at hL2
 have he0:(((((Zb M).filter (fun x=>x.who==n)).length:Nat):Int)==((((Zb M).filter (fun x=>x.who==n)).length:Nat):Int))=true:=by simp
 have he2:(!(((((Zb M).filter (fun x=>x.who==n)).length:Nat):Int)==((((Zb M).filter (fun x=>x.who==n)).length:Nat):Int)))=false:=by simp
 have he1:(((((Zb M).filter (fun x=>!(x.who==n))).length:Nat):Int) != ((((Zb M).filter (fun x=>!(x.who==n))).length:Nat):Int))=false:=by simp
 by_cases hl:(Zb M).filter (fun x=>!(x.who==n))=[]
 ·have hC:=Ui n (Zb M) hL h64 _ _ (.inr ⟨hl,rfl,rfl⟩)
  have hl0:Zb (Zu (fun x=>x.who==n) M)=[]:=by rw[ZC];exact hl
  rw[hl]at hL2
  replace hL2:AQ Try.prog 14 [.ptr 0 0] [[.bsl 1 0 M.length c],[.row (c*4) (reF (Zu (fun x=>x.who==n) M))]] (.int .i64 0) [[.bsl 1 0 M.length c],[.row (c*4) (reF (Zu (fun x=>x.who==n) M))]]:=hL2
  have hL1:=Z3 true
  repeat'(first|rw[ei]|(apply Zc [0] [0] (hC);kernel_rfl;(iterate 10 exact Z))|(apply Zi [1,2] (hD);kernel_rfl;(iterate 7 exact Z))|(apply Zc [0] [] (hL1);kernel_rfl;(iterate 10 exact Z))|(apply Zi [1,2] (hL2);kernel_rfl;(iterate 7 exact Z))|(apply Zk Za;exact Z)|(apply Zh Za;exact Z)|(apply Zr Za;exact Z)|(apply Ze;(iterate 3 exact Z);(first|with_reducible assumption|decide +kernel|(solve|simp only[bn])))|(apply Zl;exact Z;(first|with_reducible assumption|decide +kernel|(solve|simp only[bn]));exact Z;exact Z)|(apply Zj;exact Z;(first|with_reducible assumption|decide +kernel|(solve|simp only[bn]));exact Z;exact Z)|(apply Zf;exact Z;(first|with_reducible assumption|decide +kernel|(solve|simp only[bn])))|(apply Zd;exact Z;(first|with_reducible assumption|decide +kernel|(solve|simp only[bn])))|refine Zo Za Z Z Z Z ?_|(apply Zq 7 Z5;decide +kernel;kernel_rfl;kernel_rfl;kernel_rfl;exact Z;exact Z)|(apply Zt;(iterate 4 exact Z))|exact AE.nil _ _ _ _|(apply Zz;exact Z)|(apply ZS;exact Z)|(apply ZG;exact Z;exact Z;decide +kernel;exact Z)|(apply ZH;exact Z)|(apply Ya;exact Z)|exact AO.nil _ _ _|(apply Zs;(decide +kernel))|(apply ZR;(iterate 3 exact Z))|exact AOs.nil|exact ZX rfl rfl|exact Yo rfl rfl|(apply Zv Za;(iterate 6 exact Z);(first|exact Qt|rotate_left);(first|with_reducible assumption|decide +kernel|exact Z);(first|exact Zg rfl|with_reducible assumption|decide +kernel|rotate_left)))
  refine LandS.mk' (m:=k-1) (tm1:=plT ops (i+1)) (bx:=[[.bool true,.sl .nil []],[.bsl 2 0 M.length c],[.row (c*4) (reF (Zu (fun x=>x.who==n) M))]]) (fr:=[]) [0,1,2] [] (by omega) ⟨i+1,Zu (fun x=>x.who==n) M,by omega,by rw[Zn];omega,by have:=ZZ (fun x=>x.who==n) M;omega,rfl,.inr (.inl ⟨YQ hM,hl0,c,by rw[Zn];exact hc,by rw[Zn],rfl⟩)⟩ rfl rfl rfl rfl ?_ rfl rfl rfl
  exact .cons rfl (.cons rfl (.cons rfl (.cons rfl .nil)))
 ·have hC:=Ui n (Zb M) hL h64 _ _ (.inl ⟨hl,rfl,rfl⟩)
  have hl1:Zb (Zu (fun x=>x.who==n) M) ≠ []:=by rw[ZC];exact hl
  have hL1:=Yf (((Zb M).filter (fun x=>!(x.who==n))).map enE) ((Zb M).filter (fun x=>!(x.who==n))).length
  have hlm:((((Zb M).filter (fun x=>!(x.who==n))).map enE).length:Int)=((((Zb M).filter (fun x=>!(x.who==n))).length:Nat):Int):=by rw[List.length_map]
  rw[hlm]at hL1
  repeat'(first|rw[ei]|(apply Zc [0] [0] (hC);kernel_rfl;(iterate 10 exact Z))|(apply Zi [1,2] (hD);kernel_rfl;(iterate 7 exact Z))|(apply Zc [0] [1] (hL1);kernel_rfl;(iterate 10 exact Z))|(apply Zi [1,2] (hL2);kernel_rfl;(iterate 7 exact Z))|(apply Zk Za;exact Z)|(apply Zh Za;exact Z)|(apply Zr Za;exact Z)|(apply Ze;(iterate 3 exact Z);(first|with_reducible assumption|decide +kernel|(solve|simp only[bn])))|(apply Zl;exact Z;(first|with_reducible assumption|decide +kernel|(solve|simp only[bn]));exact Z;exact Z)|(apply Zj;exact Z;(first|with_reducible assumption|decide +kernel|(solve|simp only[bn]));exact Z;exact Z)|(apply Zf;exact Z;(first|with_reducible assumption|decide +kernel|(solve|simp only[bn])))|(apply Zd;exact Z;(first|with_reducible assumption|decide +kernel|(solve|simp only[bn])))|refine Zo Za Z Z Z Z ?_|(apply Zq 7 Z5;decide +kernel;kernel_rfl;kernel_rfl;kernel_rfl;exact Z;exact Z)|(apply Zt;(iterate 4 exact Z))|exact AE.nil _ _ _ _|(apply Zz;exact Z)|(apply ZS;exact Z)|(apply ZG;exact Z;exact Z;decide +kernel;exact Z)|(apply ZH;exact Z)|(apply Ya;exact Z)|exact AO.nil _ _ _|(apply Zs;(decide +kernel))|(apply ZR;(iterate 3 exact Z))|exact AOs.nil|exact ZX rfl rfl|exact Yo rfl rfl|(apply Zv Za;(iterate 6 exact Z);(first|exact Qt|rotate_left);(first|with_reducible assumption|decide +kernel|exact Z);(first|exact Zg rfl|with_reducible assumption|decide +kernel|rotate_left)))
  refine LandS.mk' (m:=k-1) (tm1:=plT ops (i+1)) (bx:=[[.bool true,.sl (.own 0) (((Zb M).filter (fun x=>!(x.who==n))).map enE)],[.bsl 2 0 M.length c],[.row (c*4) (reF (Zu (fun x=>x.who==n) M))]]) (fr:=[⟨((Zb M).filter (fun x=>!(x.who==n))).length,3,31⟩]) [0,1,2] [1] (by omega) ⟨i+1,Zu (fun x=>x.who==n) M,by omega,by rw[Zn];omega,by have:=ZZ (fun x=>x.who==n) M;omega,rfl,.inr (.inr ⟨YQ hM,hl1,c,by rw[Zn];exact hc,by rw[Zn,ZC],by rw[ZC]⟩)⟩ rfl rfl rfl rfl ?_ rfl rfl rfl
  exact .cons rfl (.cons rfl (.cons rfl (.cons rfl .nil)))
end Go.Proofs.Ytchlgagdbflkmaa
end
