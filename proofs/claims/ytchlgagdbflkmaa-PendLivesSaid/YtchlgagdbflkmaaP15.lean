/- PendLives: rounds of refused Adds, no data (pdgen5.py). -/
import Derived.Test.YtchlgagdbflkmaaP12
set_option linter.unusedVariables false
set_option linter.unusedSimpArgs false
section
open Go.RowKit Go.Pl Go.Av
namespace Go.Proofs.Ytchlgagdbflkmaa
set_option maxHeartbeats 4000000
set_option maxRecDepth 10000 in
theorem Xd [Known](ops:List OpV)(M:List Ev)(i k c:Nat)(kd n who:Int)(data:List UInt8)(need:Int)(hk:k+i=150)(hlt:i<ops.length/\i<150)(hMi:M.length<=i)(h64:(Zb M).length<=64)(hx:ops[i]?=some ⟨kd,n,⟨who,data,need⟩⟩)(g:decide (((data.map E.byte).length:Int)>1100)=false)(hM:M=[])(hkd:kd=0)(hx0:data=[])(hb:ZA ⟨who,data,need⟩=true)(Q:X->St->Prop) :
  AW Try.prog (ZD (Try.f3.body.getD .skip)) ⟨205,plT ops i,[[.bool true,.sl .nil []],[.sl .nil []]],[],(([]:List (List D)).length,([]:List Fr).length)⟩ (X.then (LandS (PlJ ops) 205 (([]:List (List D)).length,([]:List Fr).length) k) Q):=by
 conv=>enter [3];whnf
 have hol:(ops.map opE).length=ops.length:=List.length_map ..
 have hUo:=ZP ops
 have hUd:=ZO data
 have hd1:decide ((i:Int)<((ops.map opE).length:Int))=true:=decide_eq_true (by rw[hol];omega)
 have hd2:decide ((i:Int)<150)=true:=decide_eq_true (by omega)
 have ei:IntKind.i64.wrap ((i:Int)+1)=((i+1:Nat):Int):=by rw[IntWalk.i64_in _ (by omega)];omega
 have hxe:(ops.map opE)[((i:Nat):Int).toNat]?=some (opE ⟨kd,n,⟨who,data,need⟩⟩):=by rw[Int.toNat_natCast,List.getElem?_map,hx];rfl
 replace hxe:(ops.map opE)[((i:Nat):Int).toNat]?=some (.agg [.int .i64 kd,.int .i64 n,.int .i64 who,.sl (data.map E.byte),.int .i64 need]):=hxe
 subst hM
 have q0:(kd==0)=true:=by rw[hkd];rfl
 subst hx0
 have hdl:([].map E.byte).length=[].length:=List.length_map ..
 have hC:AT Try.prog 6 [.ptr 0 0,.agg [.int .i64 who,.sl .zero [],.int .i64 need]] [[.bool true,.sl .nil []]] [] (.int .i64 1) [[.bool true,.sl .nil []]] []:=AC.unwk (Vy who need [] (by simp) hb)
 have hX:=Qu who need [] hb
 replace hX:AT Try.prog 7 [.ptr 0 0,.int .i64 who,.int .i64 need,.sl .ext []] _ _ _ _ _:=hX
 have hL1:=Z3 true
 have hL2:=YP
 repeat'(first|refine Ye Za Z Z Z Z Z Z ?_|rw[ei]|(apply Zc [0] [] (hC);kernel_rfl;(iterate 10 exact Z))|(apply Zc [1] [] (hX);kernel_rfl;(iterate 10 exact Z))|(apply Zc [0] [] (hL1);kernel_rfl;(iterate 10 exact Z))|(apply Zc [1] [] (hL2);kernel_rfl;(iterate 10 exact Z))|refine ZW 2 ?_|refine Yb ?_|(apply Zk Za;exact Z)|(apply Zh Za;exact Z)|(apply Zr Za;exact Z)|(apply Ze;(iterate 3 exact Z);(first|with_reducible assumption|decide +kernel|(solve|simp only[bn])))|(apply Zl;exact Z;(first|with_reducible assumption|decide +kernel|(solve|simp only[bn]));exact Z;exact Z)|(apply Zj;exact Z;(first|with_reducible assumption|decide +kernel|(solve|simp only[bn]));exact Z;exact Z)|(apply Zf;exact Z;(first|with_reducible assumption|decide +kernel|(solve|simp only[bn])))|(apply Zd;exact Z;(first|with_reducible assumption|decide +kernel|(solve|simp only[bn])))|refine Zo Za Z Z Z Z ?_|(apply Zq 20 Z5;decide +kernel;kernel_rfl;kernel_rfl;kernel_rfl;exact Z;exact Z)|(apply Zt;(iterate 4 exact Z))|exact AE.nil _ _ _ _|(apply Zz;exact Z)|(apply ZG;exact Z;exact Z;decide +kernel;exact Z)|(apply ZH;exact Z)|exact AO.nil _ _ _|(apply Zs;(decide +kernel))|exact AOs.nil|exact ZX rfl rfl|refine ZJ Za Z Z Z Z Z Z ?_|(apply Zv Za;(iterate 6 exact Z);(first|exact Qt|rotate_left);(first|with_reducible assumption|decide +kernel|exact Z);(first|exact Zg rfl|with_reducible assumption|decide +kernel|rotate_left)))
 refine LandS.mk' (m:=k-1) (tm1:=plT ops (i+1)) [0,1] [] (by omega) ⟨i+1,[],by omega,by omega,by omega,rfl,.inl ⟨rfl,rfl,rfl⟩⟩ rfl rfl rfl rfl ?_ rfl rfl rfl
 exact .cons rfl (.cons rfl (.cons rfl (.cons rfl .nil)))
set_option maxRecDepth 10000 in
theorem Xe [Known](ops:List OpV)(M:List Ev)(i k c:Nat)(kd n who:Int)(data:List UInt8)(need:Int)(hk:k+i=150)(hlt:i<ops.length/\i<150)(hMi:M.length<=i)(h64:(Zb M).length<=64)(hx:ops[i]?=some ⟨kd,n,⟨who,data,need⟩⟩)(g:decide (((data.map E.byte).length:Int)>1100)=false)(hM:M ≠ [])(hL:Zb M=[])(hc:M.length<=c)(hkd:kd=0)(hx0:data=[])(hb:ZA ⟨who,data,need⟩=true)(Q:X->St->Prop) :
  AW Try.prog (ZD (Try.f3.body.getD .skip)) ⟨205,plT ops i,[[.bool true,.sl .nil []],[.bsl 2 0 M.length c],[.row (c*4) (reF M)]],[],(([]:List (List D)).length,([]:List Fr).length)⟩ (X.then (LandS (PlJ ops) 205 (([]:List (List D)).length,([]:List Fr).length) k) Q):=by
 conv=>enter [3];whnf
 have hol:(ops.map opE).length=ops.length:=List.length_map ..
 have hUo:=ZP ops
 have hUd:=ZO data
 have hd1:decide ((i:Int)<((ops.map opE).length:Int))=true:=decide_eq_true (by rw[hol];omega)
 have hd2:decide ((i:Int)<150)=true:=decide_eq_true (by omega)
 have ei:IntKind.i64.wrap ((i:Int)+1)=((i+1:Nat):Int):=by rw[IntWalk.i64_in _ (by omega)];omega
 have hxe:(ops.map opE)[((i:Nat):Int).toNat]?=some (opE ⟨kd,n,⟨who,data,need⟩⟩):=by rw[Int.toNat_natCast,List.getElem?_map,hx];rfl
 replace hxe:(ops.map opE)[((i:Nat):Int).toNat]?=some (.agg [.int .i64 kd,.int .i64 n,.int .i64 who,.sl (data.map E.byte),.int .i64 need]):=hxe
 have q0:(kd==0)=true:=by rw[hkd];rfl
 subst hx0
 have hdl:([].map E.byte).length=[].length:=List.length_map ..
 have hC:AT Try.prog 6 [.ptr 0 0,.agg [.int .i64 who,.sl .zero [],.int .i64 need]] [[.bool true,.sl .nil []]] [] (.int .i64 1) [[.bool true,.sl .nil []]] []:=AC.unwk (Vy who need [] (by simp) hb)
 have hX:=Vj who need [] M (c*4) c hb
 replace hX:AQ Try.prog 7 [.ptr 0 0,.int .i64 who,.int .i64 need,.sl .ext []] _ _ _:=hX
 have hL1:=Z3 true
 have hL2:=ZE M (by omega) (c*4) c
 rw[hL]at hL2
 replace hL2:AQ Try.prog 14 [.ptr 0 0] [[.bsl 1 0 M.length c],[.row (c*4) (reF M)]] (.int .i64 0) [[.bsl 1 0 M.length c],[.row (c*4) (reF M)]]:=hL2
 repeat'(first|refine Ye Za Z Z Z Z Z Z ?_|rw[ei]|(apply Zc [0] [] (hC);kernel_rfl;(iterate 10 exact Z))|(apply Zi [1,2] (hX);kernel_rfl;(iterate 7 exact Z))|(apply Zc [0] [] (hL1);kernel_rfl;(iterate 10 exact Z))|(apply Zi [1,2] (hL2);kernel_rfl;(iterate 7 exact Z))|refine ZW 2 ?_|refine Yb ?_|(apply Zk Za;exact Z)|(apply Zh Za;exact Z)|(apply Zr Za;exact Z)|(apply Ze;(iterate 3 exact Z);(first|with_reducible assumption|decide +kernel|(solve|simp only[bn])))|(apply Zl;exact Z;(first|with_reducible assumption|decide +kernel|(solve|simp only[bn]));exact Z;exact Z)|(apply Zj;exact Z;(first|with_reducible assumption|decide +kernel|(solve|simp only[bn]));exact Z;exact Z)|(apply Zf;exact Z;(first|with_reducible assumption|decide +kernel|(solve|simp only[bn])))|(apply Zd;exact Z;(first|with_reducible assumption|decide +kernel|(solve|simp only[bn])))|refine Zo Za Z Z Z Z ?_|(apply Zq 20 Z5;decide +kernel;kernel_rfl;kernel_rfl;kernel_rfl;exact Z;exact Z)|(apply Zt;(iterate 4 exact Z))|exact AE.nil _ _ _ _|(apply Zz;exact Z)|(apply ZG;exact Z;exact Z;decide +kernel;exact Z)|(apply ZH;exact Z)|exact AO.nil _ _ _|(apply Zs;(decide +kernel))|exact AOs.nil|exact ZX rfl rfl|refine ZJ Za Z Z Z Z Z Z ?_|(apply Zv Za;(iterate 6 exact Z);(first|exact Qt|rotate_left);(first|with_reducible assumption|decide +kernel|exact Z);(first|exact Zg rfl|with_reducible assumption|decide +kernel|rotate_left)))
 refine LandS.mk' (m:=k-1) (tm1:=plT ops (i+1)) [0,1,2] [] (by omega) ⟨i+1,M,by omega,by omega,by omega,rfl,.inr (.inl ⟨hM,hL,c,hc,rfl,rfl⟩)⟩ rfl rfl rfl rfl ?_ rfl rfl rfl
 exact .cons rfl (.cons rfl (.cons rfl (.cons rfl .nil)))
set_option maxRecDepth 10000 in
theorem Xf [Known](ops:List OpV)(M:List Ev)(i k c:Nat)(kd n who:Int)(data:List UInt8)(need:Int)(hk:k+i=150)(hlt:i<ops.length/\i<150)(hMi:M.length<=i)(h64:(Zb M).length<=64)(hx:ops[i]?=some ⟨kd,n,⟨who,data,need⟩⟩)(g:decide (((data.map E.byte).length:Int)>1100)=false)(hM:M ≠ [])(hL:Zb M ≠ [])(hc:M.length<=c)(hkd:kd=0)(hx0:data=[])(hb:ZA ⟨who,data,need⟩=true)(Q:X->St->Prop) :
  AW Try.prog (ZD (Try.f3.body.getD .skip)) ⟨205,plT ops i,[[.bool true,.sl (.own 0) ((Zb M).map enE)],[.bsl 2 0 M.length c],[.row (c*4) (reF M)]],[⟨(Zb M).length,3,31⟩],(([]:List (List D)).length,([]:List Fr).length)⟩ (X.then (LandS (PlJ ops) 205 (([]:List (List D)).length,([]:List Fr).length) k) Q):=by
 conv=>enter [3];whnf
 have hol:(ops.map opE).length=ops.length:=List.length_map ..
 have hUo:=ZP ops
 have hUd:=ZO data
 have hd1:decide ((i:Int)<((ops.map opE).length:Int))=true:=decide_eq_true (by rw[hol];omega)
 have hd2:decide ((i:Int)<150)=true:=decide_eq_true (by omega)
 have ei:IntKind.i64.wrap ((i:Int)+1)=((i+1:Nat):Int):=by rw[IntWalk.i64_in _ (by omega)];omega
 have hxe:(ops.map opE)[((i:Nat):Int).toNat]?=some (opE ⟨kd,n,⟨who,data,need⟩⟩):=by rw[Int.toNat_natCast,List.getElem?_map,hx];rfl
 replace hxe:(ops.map opE)[((i:Nat):Int).toNat]?=some (.agg [.int .i64 kd,.int .i64 n,.int .i64 who,.sl (data.map E.byte),.int .i64 need]):=hxe
 have q0:(kd==0)=true:=by rw[hkd];rfl
 subst hx0
 have hdl:([].map E.byte).length=[].length:=List.length_map ..
 have hqm:((Zb M).map enE).length=(Zb M).length:=List.length_map ..
 have hC:AT Try.prog 6 [.ptr 0 0,.agg [.int .i64 who,.sl .zero [],.int .i64 need]] [[.bool true,.sl (.own 0) ((Zb M).map enE)]] (pqF ((Zb M).map enE).length) (.int .i64 1) [[.bool true,.sl (.own 0) ((Zb M).map enE)]] (pqF ((Zb M).map enE).length):=AC.unwk (Jx who need [] (by simp) ((Zb M).map enE) hb)
 rw[hqm]at hC
 have hX:=Vj who need [] M (c*4) c hb
 replace hX:AQ Try.prog 7 [.ptr 0 0,.int .i64 who,.int .i64 need,.sl .ext []] _ _ _:=hX
 have hL1:=Yf ((Zb M).map enE) (Zb M).length
 have hL2:=ZE M (by omega) (c*4) c
 have hlm:(((Zb M).map enE).length:Int)=(((Zb M).length:Nat):Int):=by rw[List.length_map]
 rw[hlm]at hL1
 have hne:((((Zb M).length:Nat):Int) != (((Zb M).length:Nat):Int))=false:=by simp
 repeat'(first|refine Ye Za Z Z Z Z Z Z ?_|rw[ei]|(apply Zc [0] [0] (hC);kernel_rfl;(iterate 10 exact Z))|(apply Zi [1,2] (hX);kernel_rfl;(iterate 7 exact Z))|(apply Zc [0] [0] (hL1);kernel_rfl;(iterate 10 exact Z))|(apply Zi [1,2] (hL2);kernel_rfl;(iterate 7 exact Z))|refine ZW 2 ?_|refine Yb ?_|(apply Zk Za;exact Z)|(apply Zh Za;exact Z)|(apply Zr Za;exact Z)|(apply Ze;(iterate 3 exact Z);(first|with_reducible assumption|decide +kernel|(solve|simp only[bn])))|(apply Zl;exact Z;(first|with_reducible assumption|decide +kernel|(solve|simp only[bn]));exact Z;exact Z)|(apply Zj;exact Z;(first|with_reducible assumption|decide +kernel|(solve|simp only[bn]));exact Z;exact Z)|(apply Zf;exact Z;(first|with_reducible assumption|decide +kernel|(solve|simp only[bn])))|(apply Zd;exact Z;(first|with_reducible assumption|decide +kernel|(solve|simp only[bn])))|refine Zo Za Z Z Z Z ?_|(apply Zq 20 Z5;decide +kernel;kernel_rfl;kernel_rfl;kernel_rfl;exact Z;exact Z)|(apply Zt;(iterate 4 exact Z))|exact AE.nil _ _ _ _|(apply Zz;exact Z)|(apply ZG;exact Z;exact Z;decide +kernel;exact Z)|(apply ZH;exact Z)|exact AO.nil _ _ _|(apply Zs;(decide +kernel))|exact AOs.nil|exact ZX rfl rfl|refine ZJ Za Z Z Z Z Z Z ?_|(apply Zv Za;(iterate 6 exact Z);(first|exact Qt|rotate_left);(first|with_reducible assumption|decide +kernel|exact Z);(first|exact Zg rfl|with_reducible assumption|decide +kernel|rotate_left)))
 refine LandS.mk' (m:=k-1) (tm1:=plT ops (i+1)) [0,1,2] [0] (by omega) ⟨i+1,M,by omega,by omega,by omega,rfl,.inr (.inr ⟨hM,hL,c,hc,rfl,rfl⟩)⟩ rfl rfl rfl rfl ?_ rfl rfl rfl
 exact .cons rfl (.cons rfl (.cons rfl (.cons rfl .nil)))
set_option maxRecDepth 10000 in
theorem Xg [Known](ops:List OpV)(M:List Ev)(i k c:Nat)(kd n who:Int)(data:List UInt8)(need:Int)(hk:k+i=150)(hlt:i<ops.length/\i<150)(hMi:M.length<=i)(h64:(Zb M).length<=64)(hx:ops[i]?=some ⟨kd,n,⟨who,data,need⟩⟩)(g:decide (((data.map E.byte).length:Int)>1100)=false)(hM:M ≠ [])(hL:Zb M ≠ [])(hc:M.length<=c)(hkd:kd=0)(hx0:data=[])(hb:ZA ⟨who,data,need⟩=false)(h65:64<=(Zb M).length)(Q:X->St->Prop) :
  AW Try.prog (ZD (Try.f3.body.getD .skip)) ⟨205,plT ops i,[[.bool true,.sl (.own 0) ((Zb M).map enE)],[.bsl 2 0 M.length c],[.row (c*4) (reF M)]],[⟨(Zb M).length,3,31⟩],(([]:List (List D)).length,([]:List Fr).length)⟩ (X.then (LandS (PlJ ops) 205 (([]:List (List D)).length,([]:List Fr).length) k) Q):=by
 conv=>enter [3];whnf
 have hol:(ops.map opE).length=ops.length:=List.length_map ..
 have hUo:=ZP ops
 have hUd:=ZO data
 have hd1:decide ((i:Int)<((ops.map opE).length:Int))=true:=decide_eq_true (by rw[hol];omega)
 have hd2:decide ((i:Int)<150)=true:=decide_eq_true (by omega)
 have ei:IntKind.i64.wrap ((i:Int)+1)=((i+1:Nat):Int):=by rw[IntWalk.i64_in _ (by omega)];omega
 have hxe:(ops.map opE)[((i:Nat):Int).toNat]?=some (opE ⟨kd,n,⟨who,data,need⟩⟩):=by rw[Int.toNat_natCast,List.getElem?_map,hx];rfl
 replace hxe:(ops.map opE)[((i:Nat):Int).toNat]?=some (.agg [.int .i64 kd,.int .i64 n,.int .i64 who,.sl (data.map E.byte),.int .i64 need]):=hxe
 have q0:(kd==0)=true:=by rw[hkd];rfl
 subst hx0
 have hdl:([].map E.byte).length=[].length:=List.length_map ..
 have hqm:((Zb M).map enE).length=(Zb M).length:=List.length_map ..
 have hC:AT Try.prog 6 [.ptr 0 0,.agg [.int .i64 who,.sl .zero [],.int .i64 need]] [[.bool true,.sl (.own 0) ((Zb M).map enE)]] (pqF ((Zb M).map enE).length) (.int .i64 5) [[.bool true,.sl (.own 0) ((Zb M).map enE)]] (pqF ((Zb M).map enE).length):=AC.unwk (QR who need [] (by simp) ((Zb M).map enE) hb (by rw[hqm];exact h65))
 rw[hqm]at hC
 have hX:=Qv who need [] M (by omega) (c*4) c h65 hb
 replace hX:AQ Try.prog 7 [.ptr 0 0,.int .i64 who,.int .i64 need,.sl .ext []] _ _ _:=hX
 have hL1:=Yf ((Zb M).map enE) (Zb M).length
 have hL2:=ZE M (by omega) (c*4) c
 have hlm:(((Zb M).map enE).length:Int)=(((Zb M).length:Nat):Int):=by rw[List.length_map]
 rw[hlm]at hL1
 have hne:((((Zb M).length:Nat):Int) != (((Zb M).length:Nat):Int))=false:=by simp
 repeat'(first|refine Ye Za Z Z Z Z Z Z ?_|rw[ei]|(apply Zc [0] [0] (hC);kernel_rfl;(iterate 10 exact Z))|(apply Zi [1,2] (hX);kernel_rfl;(iterate 7 exact Z))|(apply Zc [0] [0] (hL1);kernel_rfl;(iterate 10 exact Z))|(apply Zi [1,2] (hL2);kernel_rfl;(iterate 7 exact Z))|refine ZW 2 ?_|refine Yb ?_|(apply Zk Za;exact Z)|(apply Zh Za;exact Z)|(apply Zr Za;exact Z)|(apply Ze;(iterate 3 exact Z);(first|with_reducible assumption|decide +kernel|(solve|simp only[bn])))|(apply Zl;exact Z;(first|with_reducible assumption|decide +kernel|(solve|simp only[bn]));exact Z;exact Z)|(apply Zj;exact Z;(first|with_reducible assumption|decide +kernel|(solve|simp only[bn]));exact Z;exact Z)|(apply Zf;exact Z;(first|with_reducible assumption|decide +kernel|(solve|simp only[bn])))|(apply Zd;exact Z;(first|with_reducible assumption|decide +kernel|(solve|simp only[bn])))|refine Zo Za Z Z Z Z ?_|(apply Zq 20 Z5;decide +kernel;kernel_rfl;kernel_rfl;kernel_rfl;exact Z;exact Z)|(apply Zt;(iterate 4 exact Z))|exact AE.nil _ _ _ _|(apply Zz;exact Z)|(apply ZG;exact Z;exact Z;decide +kernel;exact Z)|(apply ZH;exact Z)|exact AO.nil _ _ _|(apply Zs;(decide +kernel))|exact AOs.nil|exact ZX rfl rfl|refine ZJ Za Z Z Z Z Z Z ?_|(apply Zv Za;(iterate 6 exact Z);(first|exact Qt|rotate_left);(first|with_reducible assumption|decide +kernel|exact Z);(first|exact Zg rfl|with_reducible assumption|decide +kernel|rotate_left)))
 refine LandS.mk' (m:=k-1) (tm1:=plT ops (i+1)) [0,1,2] [0] (by omega) ⟨i+1,M,by omega,by omega,by omega,rfl,.inr (.inr ⟨hM,hL,c,hc,rfl,rfl⟩)⟩ rfl rfl rfl rfl ?_ rfl rfl rfl
 exact .cons rfl (.cons rfl (.cons rfl (.cons rfl .nil)))
end Go.Proofs.Ytchlgagdbflkmaa
end
