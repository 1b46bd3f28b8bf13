/- PendLives: rounds that tell nothing (pdgen5.py). -/
import Derived.Test.YtchlgagdbflkmaaP12
set_option linter.unusedVariables false
set_option linter.unusedSimpArgs false
section
open Go.RowKit Go.Pl Go.Av
namespace Go.Proofs.Ytchlgagdbflkmaa
set_option maxHeartbeats 4000000
set_option maxRecDepth 10000 in
theorem Kn [Known](ops:List OpV)(M:List Ev)(i k c:Nat)(kd n who:Int)(data:List UInt8)(need:Int)(hk:k+i=150)(hlt:i<ops.length/\i<150)(hMi:M.length<=i)(h64:(Zb M).length<=64)(hx:ops[i]?=some ⟨kd,n,⟨who,data,need⟩⟩)(g:decide (((data.map E.byte).length:Int)>1100)=false)(hM:M=[])(hkd:kd=1)(Q:X->St->Prop) :
  AW Try.prog (ZD (Try.f3.body.getD .skip)) ⟨205,plT ops i,[[.bool true,.sl .nil []],[.sl .nil []]],[],(([]:List (List D)).length,([]:List Fr).length)⟩ (X.then (LandS (PlJ ops) 205 (([]:List (List D)).length,([]:List Fr).length) k) Q):=by
 conv=>enter [3];whnf
 have hol:(ops.map opE).length=ops.length:=List.length_map ..
 have hUo:=ZP ops
 have hUd:=ZO data
 have hd1:decide ((i:Int)<((ops.map opE).length:Int))=true:=decide_eq_true (by rw[hol];omega)
 have hd2:decide ((i:Int)<150)=true:=decide_eq_true (by omega)
 have ei:IntKind.i64.wrap ((i:Int)+1)=((i+1:Nat):Int):=by rw[IntWalk.i64_in _ (by omega)];omega
 have hxe:(ops.map opE)[((i:Nat):Int).toNat]?=some (opE ⟨kd,n,⟨who,data,need⟩⟩):=by rw[Int.toNat_natCast,List.getElem?_map,hx];rfl
 replace hxe:(ops.map opE)[((i:Nat):Int).toNat]?=some (.agg [.int .i64 kd,.int .i64 n,.int .i64 who,.sl (data.map E.byte),.int .i64 need]):=hxe
 subst hM
 have q0:(kd==0)=false:=by rw[hkd];rfl
 have q1:(kd==1)=true:=by rw[hkd];rfl
 have hC:=WA n true
 have hD:=QT n
 have hL1:=Z3 true
 have hL2:=YP
 repeat'(first|rw[ei]|(apply Zc [0] [] (hC);kernel_rfl;(iterate 10 exact Z))|(apply Zc [1] [] (hD);kernel_rfl;(iterate 10 exact Z))|(apply Zc [0] [] (hL1);kernel_rfl;(iterate 10 exact Z))|(apply Zc [1] [] (hL2);kernel_rfl;(iterate 10 exact Z))|refine ZW 2 ?_|refine Yb ?_|(apply Zk Za;exact Z)|(apply Zh Za;exact Z)|(apply Zr Za;exact Z)|(apply Ze;(iterate 3 exact Z);(first|with_reducible assumption|decide +kernel|(solve|simp only[bn])))|(apply Yl;(iterate 3 exact Z);(first|with_reducible assumption|decide +kernel|(solve|simp only[bn])))|(apply Zl;exact Z;(first|with_reducible assumption|decide +kernel|(solve|simp only[bn]));exact Z;exact Z)|(apply Zj;exact Z;(first|with_reducible assumption|decide +kernel|(solve|simp only[bn]));exact Z;exact Z)|(apply Zf;exact Z;(first|with_reducible assumption|decide +kernel|(solve|simp only[bn])))|(apply Zd;exact Z;(first|with_reducible assumption|decide +kernel|(solve|simp only[bn])))|refine Zo Za Z Z Z Z ?_|(apply Zq 7 Z5;decide +kernel;kernel_rfl;kernel_rfl;kernel_rfl;exact Z;exact Z)|(apply Zt;(iterate 4 exact Z))|exact AE.nil _ _ _ _|(apply Zz;exact Z)|(apply ZG;exact Z;exact Z;decide +kernel;exact Z)|(apply ZH;exact Z)|exact AO.nil _ _ _|(apply Zs;(decide +kernel))|exact AOs.nil|exact ZX rfl rfl|(apply Zv Za;(iterate 6 exact Z);(first|exact Qt|rotate_left);(first|with_reducible assumption|decide +kernel|exact Z);(first|exact Zg rfl|with_reducible assumption|decide +kernel|rotate_left)))
 refine LandS.mk' (m:=k-1) (tm1:=plT ops (i+1)) [0,1] [] (by omega) ⟨i+1,[],by omega,by omega,by omega,rfl,.inl ⟨rfl,rfl,rfl⟩⟩ rfl rfl rfl rfl ?_ rfl rfl rfl
 exact .cons rfl (.cons rfl (.cons rfl (.cons rfl .nil)))
set_option maxRecDepth 10000 in
theorem Ko [Known](ops:List OpV)(M:List Ev)(i k c:Nat)(kd n who:Int)(data:List UInt8)(need:Int)(hk:k+i=150)(hlt:i<ops.length/\i<150)(hMi:M.length<=i)(h64:(Zb M).length<=64)(hx:ops[i]?=some ⟨kd,n,⟨who,data,need⟩⟩)(g:decide (((data.map E.byte).length:Int)>1100)=false)(hM:M ≠ [])(hL:Zb M=[])(hc:M.length<=c)(hkd:kd=1)(Q:X->St->Prop) :
  AW Try.prog (ZD (Try.f3.body.getD .skip)) ⟨205,plT ops i,[[.bool true,.sl .nil []],[.bsl 2 0 M.length c],[.row (c*4) (reF M)]],[],(([]:List (List D)).length,([]:List Fr).length)⟩ (X.then (LandS (PlJ ops) 205 (([]:List (List D)).length,([]:List Fr).length) k) Q):=by
 conv=>enter [3];whnf
 have hol:(ops.map opE).length=ops.length:=List.length_map ..
 have hUo:=ZP ops
 have hUd:=ZO data
 have hd1:decide ((i:Int)<((ops.map opE).length:Int))=true:=decide_eq_true (by rw[hol];omega)
 have hd2:decide ((i:Int)<150)=true:=decide_eq_true (by omega)
 have ei:IntKind.i64.wrap ((i:Int)+1)=((i+1:Nat):Int):=by rw[IntWalk.i64_in _ (by omega)];omega
 have hxe:(ops.map opE)[((i:Nat):Int).toNat]?=some (opE ⟨kd,n,⟨who,data,need⟩⟩):=by rw[Int.toNat_natCast,List.getElem?_map,hx];rfl
 replace hxe:(ops.map opE)[((i:Nat):Int).toNat]?=some (.agg [.int .i64 kd,.int .i64 n,.int .i64 who,.sl (data.map E.byte),.int .i64 need]):=hxe
 have q0:(kd==0)=false:=by rw[hkd];rfl
 have q1:(kd==1)=true:=by rw[hkd];rfl
 have hD:=WV n M (by omega) (c*4) c
 have hsn:=YK (fun x=>decide (x.need<=n)) M 0
 have hL2:=ZE (Zu (fun x=>decide (x.need<=n)) M) (by rw[Zn];omega) (c*4) c
 rw[ZC,Zn]at hL2
 rw[hL]at hL2 hsn
 have hh0:ZL (fun x=>decide (x.need<=n)) 0 M=[]:=List.map_eq_nil_iff.1 hsn
 replace hD:AQ Try.prog 9 [.ptr 0 0,.int .i64 n] [[.bsl 1 0 M.length c],[.row (c*4) (reF M)]] (.sl .ext []) [[.bsl 1 0 M.length c],[.row (c*4) (reF (Zu (fun x=>decide (x.need<=n)) M))]]:=by rw[hh0]at hD;exact hD
 have hl0:Zb (Zu (fun x=>decide (x.need<=n)) M)=[]:=by rw[ZC,hL];rfl
 replace hL2:AQ Try.prog 14 [.ptr 0 0] [[.bsl 1 0 M.length c],[.row (c*4) (reF (Zu (fun x=>decide (x.need<=n)) M))]] (.int .i64 0) [[.bsl 1 0 M.length c],[.row (c*4) (reF (Zu (fun x=>decide (x.need<=n)) M))]]:=hL2
 have hC:=WA n true
 have hL1:=Z3 true
 repeat'(first|rw[ei]|(apply Zc [0] [] (hC);kernel_rfl;(iterate 10 exact Z))|(apply Zi [1,2] (hD);kernel_rfl;(iterate 7 exact Z))|(apply Zc [0] [] (hL1);kernel_rfl;(iterate 10 exact Z))|(apply Zi [1,2] (hL2);kernel_rfl;(iterate 7 exact Z))|refine ZW 2 ?_|refine Yb ?_|(apply Zk Za;exact Z)|(apply Zh Za;exact Z)|(apply Zr Za;exact Z)|(apply Ze;(iterate 3 exact Z);(first|with_reducible assumption|decide +kernel|(solve|simp only[bn])))|(apply Yl;(iterate 3 exact Z);(first|with_reducible assumption|decide +kernel|(solve|simp only[bn])))|(apply Zl;exact Z;(first|with_reducible assumption|decide +kernel|(solve|simp only[bn]));exact Z;exact Z)|(apply Zj;exact Z;(first|with_reducible assumption|decide +kernel|(solve|simp only[bn]));exact Z;exact Z)|(apply Zf;exact Z;(first|with_reducible assumption|decide +kernel|(solve|simp only[bn])))|(apply Zd;exact Z;(first|with_reducible assumption|decide +kernel|(solve|simp only[bn])))|refine Zo Za Z Z Z Z ?_|(apply Zq 7 Z5;decide +kernel;kernel_rfl;kernel_rfl;kernel_rfl;exact Z;exact Z)|(apply Zt;(iterate 4 exact Z))|exact AE.nil _ _ _ _|(apply Zz;exact Z)|(apply ZG;exact Z;exact Z;decide +kernel;exact Z)|(apply ZH;exact Z)|exact AO.nil _ _ _|(apply Zs;(decide +kernel))|exact AOs.nil|exact ZX rfl rfl|(apply Zv Za;(iterate 6 exact Z);(first|exact Qt|rotate_left);(first|with_reducible assumption|decide +kernel|exact Z);(first|exact Zg rfl|with_reducible assumption|decide +kernel|rotate_left)))
 refine LandS.mk' (m:=k-1) (tm1:=plT ops (i+1)) (bx:=[[.bool true,.sl .nil []],[.bsl 2 0 M.length c],[.row (c*4) (reF (Zu (fun x=>decide (x.need<=n)) M))]]) (fr:=[]) [0,1,2] [] (by omega) ⟨i+1,Zu (fun x=>decide (x.need<=n)) M,by omega,by rw[Zn];omega,by have:=ZZ (fun x=>decide (x.need<=n)) M;omega,rfl,.inr (.inl ⟨YQ hM,hl0,c,by rw[Zn];exact hc,by rw[Zn],rfl⟩)⟩ rfl rfl rfl rfl ?_ rfl rfl rfl
 exact .cons rfl (.cons rfl (.cons rfl (.cons rfl .nil)))
set_option maxRecDepth 10000 in
theorem XM [Known](ops:List OpV)(M:List Ev)(i k c:Nat)(kd n who:Int)(data:List UInt8)(need:Int)(hk:k+i=150)(hlt:i<ops.length/\i<150)(hMi:M.length<=i)(h64:(Zb M).length<=64)(hx:ops[i]?=some ⟨kd,n,⟨who,data,need⟩⟩)(g:decide (((data.map E.byte).length:Int)>1100)=false)(hM:M ≠ [])(hL:Zb M ≠ [])(hc:M.length<=c)(hkd:kd=1)(ho:(Zb M).filter (fun x=>decide (x.need<=n))=[])(hl:(Zb M).filter (fun x=>!decide (x.need<=n)) ≠ [])(Q:X->St->Prop) :
  AW Try.prog (ZD (Try.f3.body.getD .skip)) ⟨205,plT ops i,[[.bool true,.sl (.own 0) ((Zb M).map enE)],[.bsl 2 0 M.length c],[.row (c*4) (reF M)]],[⟨(Zb M).length,3,31⟩],(([]:List (List D)).length,([]:List Fr).length)⟩ (X.then (LandS (PlJ ops) 205 (([]:List (List D)).length,([]:List Fr).length) k) Q):=by
 conv=>enter [3];whnf
 have hol:(ops.map opE).length=ops.length:=List.length_map ..
 have hUo:=ZP ops
 have hUd:=ZO data
 have hd1:decide ((i:Int)<((ops.map opE).length:Int))=true:=decide_eq_true (by rw[hol];omega)
 have hd2:decide ((i:Int)<150)=true:=decide_eq_true (by omega)
 have ei:IntKind.i64.wrap ((i:Int)+1)=((i+1:Nat):Int):=by rw[IntWalk.i64_in _ (by omega)];omega
 have hxe:(ops.map opE)[((i:Nat):Int).toNat]?=some (opE ⟨kd,n,⟨who,data,need⟩⟩):=by rw[Int.toNat_natCast,List.getElem?_map,hx];rfl
 replace hxe:(ops.map opE)[((i:Nat):Int).toNat]?=some (.agg [.int .i64 kd,.int .i64 n,.int .i64 who,.sl (data.map E.byte),.int .i64 need]):=hxe
 have q0:(kd==0)=false:=by rw[hkd];rfl
 have q1:(kd==1)=true:=by rw[hkd];rfl
 have hD:=WV n M (by omega) (c*4) c
 have hsn:=YK (fun x=>decide (x.need<=n)) M 0
 have hL2:=ZE (Zu (fun x=>decide (x.need<=n)) M) (by rw[Zn];omega) (c*4) c
 rw[ZC,Zn]at hL2
 have hC:=Ws n (Zb M) hL h64 _ _ _ (.inl ⟨ho,hl,rfl,rfl,rfl⟩)
 have hl1:Zb (Zu (fun x=>decide (x.need<=n)) M) ≠ []:=by rw[ZC];exact hl
 have hL1:=Yf (((Zb M).filter (fun x=>!decide (x.need<=n))).map enE) ((Zb M).filter (fun x=>!decide (x.need<=n))).length
 have hlm:((((Zb M).filter (fun x=>!decide (x.need<=n))).map enE).length:Int)=((((Zb M).filter (fun x=>!decide (x.need<=n))).length:Nat):Int):=by rw[List.length_map]
 rw[hlm]at hL1
 have he1:(((((Zb M).filter (fun x=>!decide (x.need<=n))).length:Nat):Int) != ((((Zb M).filter (fun x=>!decide (x.need<=n))).length:Nat):Int))=false:=by simp
 rw[ho]at hsn
 have hh0:ZL (fun x=>decide (x.need<=n)) 0 M=[]:=List.map_eq_nil_iff.1 hsn
 replace hD:AQ Try.prog 9 [.ptr 0 0,.int .i64 n] [[.bsl 1 0 M.length c],[.row (c*4) (reF M)]] (.sl .ext []) [[.bsl 1 0 M.length c],[.row (c*4) (reF (Zu (fun x=>decide (x.need<=n)) M))]]:=by rw[hh0]at hD;exact hD
 repeat'(first|rw[ei]|(apply Zc [0] [0] (hC);kernel_rfl;(iterate 10 exact Z))|(apply Zi [1,2] (hD);kernel_rfl;(iterate 7 exact Z))|(apply Zc [0] [1] (hL1);kernel_rfl;(iterate 10 exact Z))|(apply Zi [1,2] (hL2);kernel_rfl;(iterate 7 exact Z))|refine ZW 2 ?_|refine Yb ?_|(apply Zk Za;exact Z)|(apply Zh Za;exact Z)|(apply Zr Za;exact Z)|(apply Ze;(iterate 3 exact Z);(first|with_reducible assumption|decide +kernel|(solve|simp only[bn])))|(apply Yl;(iterate 3 exact Z);(first|with_reducible assumption|decide +kernel|(solve|simp only[bn])))|(apply Zl;exact Z;(first|with_reducible assumption|decide +kernel|(solve|simp only[bn]));exact Z;exact Z)|(apply Zj;exact Z;(first|with_reducible assumption|decide +kernel|(solve|simp only[bn]));exact Z;exact Z)|(apply Zf;exact Z;(first|with_reducible assumption|decide +kernel|(solve|simp only[bn])))|(apply Zd;exact Z;(first|with_reducible assumption|decide +kernel|(solve|simp only[bn])))|refine Zo Za Z Z Z Z ?_|(apply Zq 7 Z5;decide +kernel;kernel_rfl;kernel_rfl;kernel_rfl;exact Z;exact Z)|(apply Zt;(iterate 4 exact Z))|exact AE.nil _ _ _ _|(apply Zz;exact Z)|(apply ZS;exact Z)|(apply ZG;exact Z;exact Z;decide +kernel;exact Z)|(apply ZH;exact Z)|(apply Ya;exact Z)|exact AO.nil _ _ _|(apply Zs;(decide +kernel))|(apply ZR;(iterate 3 exact Z))|exact AOs.nil|exact ZX rfl rfl|exact Yo rfl rfl|(apply Zv Za;(iterate 6 exact Z);(first|exact Qt|rotate_left);(first|with_reducible assumption|decide +kernel|exact Z);(first|exact Zg rfl|with_reducible assumption|decide +kernel|rotate_left)))
 refine LandS.mk' (m:=k-1) (tm1:=plT ops (i+1)) (bx:=[[.bool true,.sl (.own 0) (((Zb M).filter (fun x=>!decide (x.need<=n))).map enE)],[.bsl 2 0 M.length c],[.row (c*4) (reF (Zu (fun x=>decide (x.need<=n)) M))]]) (fr:=[⟨((Zb M).filter (fun x=>!decide (x.need<=n))).length,3,31⟩]) [0,1,2] [1] (by omega) ⟨i+1,Zu (fun x=>decide (x.need<=n)) M,by omega,by rw[Zn];omega,by have:=ZZ (fun x=>decide (x.need<=n)) M;omega,rfl,.inr (.inr ⟨YQ hM,hl1,c,by rw[Zn];exact hc,by rw[Zn,ZC],by rw[ZC]⟩)⟩ rfl rfl rfl rfl ?_ rfl rfl rfl
 exact .cons rfl (.cons rfl (.cons rfl (.cons rfl .nil)))
theorem Qx {M:List Ev}{i:Nat}{e:Ev}(h:M[i]?=some e):((reF M).drop (((i:Nat):Int).toNat*4)).take 4=reL e:=by
 rw[Int.toNat_natCast]
 apply List.ext_getElem?
 intro j
 rw[List.getElem?_take]
 by_cases hj:j<4
 ·rw[if_pos hj,List.getElem?_drop,We j h hj]
 ·rw[if_neg hj,List.getElem?_eq_none (by simp;omega)]
set_option maxRecDepth 10000 in
theorem XN [Known](ops:List OpV)(M:List Ev)(i k c:Nat)(kd n who:Int)(data:List UInt8)(need:Int)(hk:k+i=150)(hlt:i<ops.length/\i<150)(hMi:M.length<=i)(h64:(Zb M).length<=64)(hx:ops[i]?=some ⟨kd,n,⟨who,data,need⟩⟩)(g:decide (((data.map E.byte).length:Int)>1100)=false)(hM:M ≠ [])(hL:Zb M ≠ [])(hc:M.length<=c)(hkd:kd=1)(ho:(Zb M).filter (fun x=>decide (x.need<=n)) ≠ [])(hl:(Zb M).filter (fun x=>!decide (x.need<=n))=[])(Q:X->St->Prop) :
  AW Try.prog (ZD (Try.f3.body.getD .skip)) ⟨205,plT ops i,[[.bool true,.sl (.own 0) ((Zb M).map enE)],[.bsl 2 0 M.length c],[.row (c*4) (reF M)]],[⟨(Zb M).length,3,31⟩],(([]:List (List D)).length,([]:List Fr).length)⟩ (X.then (LandS (PlJ ops) 205 (([]:List (List D)).length,([]:List Fr).length) k) Q):=by
 conv=>enter [3];whnf
 have hol:(ops.map opE).length=ops.length:=List.length_map ..
 have hUo:=ZP ops
 have hUd:=ZO data
 have hd1:decide ((i:Int)<((ops.map opE).length:Int))=true:=decide_eq_true (by rw[hol];omega)
 have hd2:decide ((i:Int)<150)=true:=decide_eq_true (by omega)
 have ei:IntKind.i64.wrap ((i:Int)+1)=((i+1:Nat):Int):=by rw[IntWalk.i64_in _ (by omega)];omega
 have hxe:(ops.map opE)[((i:Nat):Int).toNat]?=some (opE ⟨kd,n,⟨who,data,need⟩⟩):=by rw[Int.toNat_natCast,List.getElem?_map,hx];rfl
 replace hxe:(ops.map opE)[((i:Nat):Int).toNat]?=some (.agg [.int .i64 kd,.int .i64 n,.int .i64 who,.sl (data.map E.byte),.int .i64 need]):=hxe
 have q0:(kd==0)=false:=by rw[hkd];rfl
 have q1:(kd==1)=true:=by rw[hkd];rfl
 have hD:=WV n M (by omega) (c*4) c
 have hsn:=YK (fun x=>decide (x.need<=n)) M 0
 have hL2:=ZE (Zu (fun x=>decide (x.need<=n)) M) (by rw[Zn];omega) (c*4) c
 rw[ZC,Zn]at hL2
 have hC:=Ws n (Zb M) hL h64 _ _ _ (.inr (.inl ⟨ho,hl,rfl,rfl,rfl⟩))
 have hl0:Zb (Zu (fun x=>decide (x.need<=n)) M)=[]:=by rw[ZC];exact hl
 rw[hl]at hL2
 replace hL2:AQ Try.prog 14 [.ptr 0 0] [[.bsl 1 0 M.length c],[.row (c*4) (reF (Zu (fun x=>decide (x.need<=n)) M))]] (.int .i64 0) [[.bsl 1 0 M.length c],[.row (c*4) (reF (Zu (fun x=>decide (x.need<=n)) M))]]:=hL2
 have hL1:=Z3 true
 have hget:=W6 (fun x=>decide (x.need<=n)) M 0
 have hhl:=Wz (fun x=>decide (x.need<=n)) M 0
 rw[<- hsn]at hC
 rw[List.length_map]at hC
 generalize ZL (fun x=>decide (x.need<=n)) 0 M=H at *
 obtain⟨M2,hM2⟩:∃ M2,M2=Zu (fun x=>decide (x.need<=n)) M:=⟨_,rfl⟩
 have hm1:((H.map (·.2)).map enE).length=H.length:=by rw[List.length_map,List.length_map]
 have hm2:(H.map fun p=>E.int .i64 (p.1:Int)).length=H.length:=List.length_map ..
 have hU1:=WT (H.map (·.2))
 have hU2:Uni 1 (H.map fun p=>E.int .i64 (p.1:Int)):=Uni.map (f:=fun p:Nat × En=>E.int .i64 (p.1:Int)) (fun _=>rfl) _
 have hfl:(((((H.map (·.2)).map enE).length:Nat):Int)==(((H.map fun p=>E.int .i64 (p.1:Int)).length:Nat):Int))=true:=by rw[hm1,hm2];simp
 rw[<- hM2]at hD hL2
 repeat'(first|(apply Zc [0] [0] (hC);kernel_rfl;(iterate 10 exact Z))|(apply Zi [1,2] (hD);kernel_rfl;(iterate 7 exact Z))|(apply Zk Za;exact Z)|(apply Zh Za;exact Z)|(apply Zr Za;exact Z)|(apply Ze;(iterate 3 exact Z);(first|with_reducible assumption|decide +kernel|(solve|simp only[bn])))|(apply Zl;exact Z;(first|with_reducible assumption|decide +kernel|(solve|simp only[bn]));exact Z;exact Z)|(apply Zf;exact Z;(first|with_reducible assumption|decide +kernel|(solve|simp only[bn])))|(apply Zd;exact Z;(first|with_reducible assumption|decide +kernel|(solve|simp only[bn])))|refine Zo Za Z Z Z Z ?_|(apply Zq 7 Z5;decide +kernel;kernel_rfl;kernel_rfl;kernel_rfl;exact Z;exact Z)|(apply Zt;(iterate 4 exact Z))|exact AE.nil _ _ _ _|(apply Zz;exact Z)|(apply ZS;exact Z)|(apply ZG;exact Z;exact Z;decide +kernel;exact Z)|(apply ZH;exact Z)|(apply Ya;exact Z)|exact AO.nil _ _ _|(apply Zs;(decide +kernel))|(apply ZR;(iterate 3 exact Z))|exact AOs.nil|exact ZX rfl rfl|exact Yo rfl rfl|(apply Zv Za;(iterate 6 exact Z);(first|exact Qt|rotate_left);(first|with_reducible assumption|decide +kernel|exact Z);(first|exact Zg rfl|with_reducible assumption|decide +kernel|rotate_left)))
 refine Z7 (fun f tm bx fr=>∃ j:Nat,f+j=H.length/\tm=[(0,.sl .ext (ops.map opE)),(3,.ptr 0 0),(4,.ptr 1 0),(5,.int .i64 (i:Int)),(7,.bool true),(10,.sl (.own 1) ((H.map (·.2)).map enE)),(11,.sl .ext (H.map fun p=>E.int .i64 (p.1:Int))),(12,.int .i64 (j:Int))]/\bx=[[.bool true,.sl .nil []],[.bsl 2 0 M.length c],[.row (c*4) (reF M2)]]/\fr=[⟨(Zb M).length,3,31⟩,⟨H.length,3,31⟩]) (H.length+1) (Lands.mk' (m:=H.length) (Nat.lt_succ_self _) ⟨0,rfl,rfl,rfl,rfl⟩ ?_ rfl rfl rfl rfl rfl rfl) ?_
 ·exact .cons rfl (.cons rfl (.cons rfl (.cons rfl (.cons (congrArg D.bool hfl) (.cons rfl (.cons rfl (.cons rfl .nil)))))))
 clear hC hD
 rintro f tm bx fr ⟨j,hf,rfl,rfl,rfl⟩
 rcases Nat.lt_or_ge j H.length with hjl|hjg
 ·have hdj:decide ((j:Int)<((H.map fun p=>E.int .i64 (p.1:Int)).length:Int))=true:=decide_eq_true (by rw[hm2];omega)
  obtain⟨⟨p,e⟩,hp⟩:∃ p,H[j]?=some p:=⟨_,List.getElem?_eq_getElem hjl⟩
  obtain⟨_,g2,hg2⟩:=hget (p,e) (List.mem_of_getElem? hp)
  have hg2:M[p]?=some (e,g2):=hg2
  have hpl:=(List.getElem?_eq_some_iff.1 hg2).1
  have h1:((H.map (·.2)).map enE)[((j:Nat):Int).toNat]?=some (enE e):=by rw[Int.toNat_natCast,List.getElem?_map,List.getElem?_map,hp];rfl
  have h2:(H.map fun p=>E.int .i64 (p.1:Int))[((j:Nat):Int).toNat]?=some (.int .i64 (p:Int)):=by rw[Int.toNat_natCast,List.getElem?_map,hp];rfl
  have h3:M2[p]?=some (e,g2||decide (e.need<=n)):=by rw[hM2];unfold Zu;rw[List.getElem?_map,hg2];rfl
  have hpi:(p:Int)<(M.length:Int):=by omega
  have ht4:=Qx h3
  have hle4:((p:Nat):Int).toNat*4+4<=(reF M2).length:=by rw[Int.toNat_natCast,Vg,hM2,Zn];omega
  have ej:IntKind.i64.wrap ((j:Int)+1)=((j+1:Nat):Int):=by rw[IntWalk.i64_in _ (by omega)];omega
  generalize (g2||decide (e.need<=n))=gg at *
  clear h3 hg2 hget
  obtain⟨w2,d2,n2⟩:=e
  have u1:(w2==w2)=true:=by simp
  have u2:(d2==d2)=true:=by simp
  have u3:(n2==n2)=true:=by simp
  replace h1:((H.map (·.2)).map enE)[((j:Nat):Int).toNat]?=some (.agg [.int .i64 w2,.sl (d2.map E.byte),.int .i64 n2]):=h1
  replace ht4:((reF M2).drop (((p:Nat):Int).toNat*4)).take 4=[.int .i64 w2,.str d2,.int .i64 n2,.bool gg]:=ht4
  repeat'(first|refine ZU Za Z Z Z Z Z Z (Int.natCast_nonneg _) hpi Z ?_|refine VV Za Z Z Z Z ht4 hle4 Z Z ?_|refine Yq Za Z Z Z Z Z Z Z Z Z ?_|rw[ej]|(apply Zk Za;exact Z)|(apply Zh Za;exact Z)|(apply Zr Za;exact Z)|(apply Ze;(iterate 3 exact Z);(first|with_reducible assumption|decide +kernel|(solve|simp only[bn])))|(apply Zl;exact Z;(first|with_reducible assumption|decide +kernel|(solve|simp only[bn]));exact Z;exact Z)|(apply Zf;exact Z;(first|with_reducible assumption|decide +kernel|(solve|simp only[bn])))|refine Zo Za Z Z Z Z ?_|(apply Zq 11 Z5;decide +kernel;kernel_rfl;kernel_rfl;kernel_rfl;exact Z;exact Z)|(apply Zq 27 Z5;decide +kernel;kernel_rfl;kernel_rfl;kernel_rfl;exact Z;exact Z)|(apply Zt;(iterate 4 exact Z))|exact AE.nil _ _ _ _|(apply Zz;exact Z)|(apply ZS;exact Z)|(apply ZG;exact Z;exact Z;decide +kernel;exact Z)|(apply ZH;exact Z)|(apply Ya;exact Z)|exact AO.nil _ _ _|(apply Zs;(decide +kernel))|(apply ZR;(iterate 3 exact Z))|exact AOs.nil|exact ZX rfl rfl|exact Yo rfl rfl|(apply Zv Za;(iterate 6 exact Z);(first|exact Qt|rotate_left);(first|with_reducible assumption|decide +kernel|exact Z);(first|exact Zg rfl|with_reducible assumption|decide +kernel|rotate_left))|refine Yq Za Z Z Z Z Z Z Z Z Z ?_)
  refine Lands.mk' (m:=f-1) (by omega) ⟨j+1,by omega,rfl,rfl,rfl⟩ ?_ rfl rfl rfl rfl rfl rfl
  exact .cons rfl (.cons rfl (.cons rfl (.cons rfl (.cons (by first|rfl|exact congrArg D.bool u3|(simp only[Go.Av.look];simp)) (.cons rfl (.cons rfl (.cons rfl .nil)))))))
 ·have hdj:decide ((j:Int)<((H.map fun p=>E.int .i64 (p.1:Int)).length:Int))=false:=decide_eq_false (by rw[hm2];omega)
  repeat'(first|rw[ei]|(apply Zc [0] [] (hL1);kernel_rfl;(iterate 10 exact Z))|(apply Zi [1,2] (hL2);kernel_rfl;(iterate 7 exact Z))|(apply Zk Za;exact Z)|(apply Zh Za;exact Z)|(apply Zr Za;exact Z)|(apply Ze;(iterate 3 exact Z);(first|with_reducible assumption|decide +kernel|(solve|simp only[bn])))|(apply Yl;(iterate 3 exact Z);(first|with_reducible assumption|decide +kernel|(solve|simp only[bn])))|(apply Zj;exact Z;(first|with_reducible assumption|decide +kernel|(solve|simp only[bn]));exact Z;exact Z)|(apply Zd;exact Z;(first|with_reducible assumption|decide +kernel|(solve|simp only[bn])))|refine Zo Za Z Z Z Z ?_)
  subst hM2
  refine LandS.mk' (m:=k-1) (tm1:=plT ops (i+1)) (bx:=[[.bool true,.sl .nil []],[.bsl 2 0 M.length c],[.row (c*4) (reF (Zu (fun x=>decide (x.need<=n)) M))]]) (fr:=[]) [0,1,2] [] (by omega) ⟨i+1,Zu (fun x=>decide (x.need<=n)) M,by omega,by rw[Zn];omega,by have:=ZZ (fun x=>decide (x.need<=n)) M;omega,rfl,.inr (.inl ⟨YQ hM,hl0,c,by rw[Zn];exact hc,by rw[Zn],rfl⟩)⟩ rfl rfl rfl rfl ?_ rfl rfl rfl
  exact .cons rfl (.cons rfl (.cons rfl (.cons rfl .nil)))
set_option maxRecDepth 10000 in
theorem XO [Known](ops:List OpV)(M:List Ev)(i k c:Nat)(kd n who:Int)(data:List UInt8)(need:Int)(hk:k+i=150)(hlt:i<ops.length/\i<150)(hMi:M.length<=i)(h64:(Zb M).length<=64)(hx:ops[i]?=some ⟨kd,n,⟨who,data,need⟩⟩)(g:decide (((data.map E.byte).length:Int)>1100)=false)(hM:M ≠ [])(hL:Zb M ≠ [])(hc:M.length<=c)(hkd:kd=1)(ho:(Zb M).filter (fun x=>decide (x.need<=n)) ≠ [])(hl:(Zb M).filter (fun x=>!decide (x.need<=n)) ≠ [])(Q:X->St->Prop) :
  AW Try.prog (ZD (Try.f3.body.getD .skip)) ⟨205,plT ops i,[[.bool true,.sl (.own 0) ((Zb M).map enE)],[.bsl 2 0 M.length c],[.row (c*4) (reF M)]],[⟨(Zb M).length,3,31⟩],(([]:List (List D)).length,([]:List Fr).length)⟩ (X.then (LandS (PlJ ops) 205 (([]:List (List D)).length,([]:List Fr).length) k) Q):=by
 conv=>enter [3];whnf
 have hol:(ops.map opE).length=ops.length:=List.length_map ..
 have hUo:=ZP ops
 have hUd:=ZO data
 have hd1:decide ((i:Int)<((ops.map opE).length:Int))=true:=decide_eq_true (by rw[hol];omega)
 have hd2:decide ((i:Int)<150)=true:=decide_eq_true (by omega)
 have ei:IntKind.i64.wrap ((i:Int)+1)=((i+1:Nat):Int):=by rw[IntWalk.i64_in _ (by omega)];omega
 have hxe:(ops.map opE)[((i:Nat):Int).toNat]?=some (opE ⟨kd,n,⟨who,data,need⟩⟩):=by rw[Int.toNat_natCast,List.getElem?_map,hx];rfl
 replace hxe:(ops.map opE)[((i:Nat):Int).toNat]?=some (.agg [.int .i64 kd,.int .i64 n,.int .i64 who,.sl (data.map E.byte),.int .i64 need]):=hxe
 have q0:(kd==0)=false:=by rw[hkd];rfl
 have q1:(kd==1)=true:=by rw[hkd];rfl
 have hD:=WV n M (by omega) (c*4) c
 have hsn:=YK (fun x=>decide (x.need<=n)) M 0
 have hL2:=ZE (Zu (fun x=>decide (x.need<=n)) M) (by rw[Zn];omega) (c*4) c
 rw[ZC,Zn]at hL2
 have hC:=Ws n (Zb M) hL h64 _ _ _ (.inr (.inr ⟨ho,hl,rfl,rfl,rfl⟩))
 have hl1:Zb (Zu (fun x=>decide (x.need<=n)) M) ≠ []:=by rw[ZC];exact hl
 have hL1:=Yf (((Zb M).filter (fun x=>!decide (x.need<=n))).map enE) ((Zb M).filter (fun x=>!decide (x.need<=n))).length
 have hlm:((((Zb M).filter (fun x=>!decide (x.need<=n))).map enE).length:Int)=((((Zb M).filter (fun x=>!decide (x.need<=n))).length:Nat):Int):=by rw[List.length_map]
 rw[hlm]at hL1
 have he1:(((((Zb M).filter (fun x=>!decide (x.need<=n))).length:Nat):Int) != ((((Zb M).filter (fun x=>!decide (x.need<=n))).length:Nat):Int))=false:=by simp
 have hget:=W6 (fun x=>decide (x.need<=n)) M 0
 have hhl:=Wz (fun x=>decide (x.need<=n)) M 0
 rw[<- hsn]at hC
 rw[List.length_map]at hC
 generalize ZL (fun x=>decide (x.need<=n)) 0 M=H at *
 obtain⟨M2,hM2⟩:∃ M2,M2=Zu (fun x=>decide (x.need<=n)) M:=⟨_,rfl⟩
 have hm1:((H.map (·.2)).map enE).length=H.length:=by rw[List.length_map,List.length_map]
 have hm2:(H.map fun p=>E.int .i64 (p.1:Int)).length=H.length:=List.length_map ..
 have hU1:=WT (H.map (·.2))
 have hU2:Uni 1 (H.map fun p=>E.int .i64 (p.1:Int)):=Uni.map (f:=fun p:Nat × En=>E.int .i64 (p.1:Int)) (fun _=>rfl) _
 have hfl:(((((H.map (·.2)).map enE).length:Nat):Int)==(((H.map fun p=>E.int .i64 (p.1:Int)).length:Nat):Int))=true:=by rw[hm1,hm2];simp
 rw[<- hM2]at hD hL2
 repeat'(first|(apply Zc [0] [0] (hC);kernel_rfl;(iterate 10 exact Z))|(apply Zi [1,2] (hD);kernel_rfl;(iterate 7 exact Z))|(apply Zk Za;exact Z)|(apply Zh Za;exact Z)|(apply Zr Za;exact Z)|(apply Ze;(iterate 3 exact Z);(first|with_reducible assumption|decide +kernel|(solve|simp only[bn])))|(apply Zl;exact Z;(first|with_reducible assumption|decide +kernel|(solve|simp only[bn]));exact Z;exact Z)|(apply Zf;exact Z;(first|with_reducible assumption|decide +kernel|(solve|simp only[bn])))|(apply Zd;exact Z;(first|with_reducible assumption|decide +kernel|(solve|simp only[bn])))|refine Zo Za Z Z Z Z ?_|(apply Zq 7 Z5;decide +kernel;kernel_rfl;kernel_rfl;kernel_rfl;exact Z;exact Z)|(apply Zt;(iterate 4 exact Z))|exact AE.nil _ _ _ _|(apply Zz;exact Z)|(apply ZS;exact Z)|(apply ZG;exact Z;exact Z;decide +kernel;exact Z)|(apply ZH;exact Z)|(apply Ya;exact Z)|exact AO.nil _ _ _|(apply Zs;(decide +kernel))|(apply ZR;(iterate 3 exact Z))|exact AOs.nil|exact ZX rfl rfl|exact Yo rfl rfl|(apply Zv Za;(iterate 6 exact Z);(first|exact Qt|rotate_left);(first|with_reducible assumption|decide +kernel|exact Z);(first|exact Zg rfl|with_reducible assumption|decide +kernel|rotate_left)))
 refine Z7 (fun f tm bx fr=>∃ j:Nat,f+j=H.length/\tm=[(0,.sl .ext (ops.map opE)),(3,.ptr 0 0),(4,.ptr 1 0),(5,.int .i64 (i:Int)),(7,.bool true),(10,.sl (.own 1) ((H.map (·.2)).map enE)),(11,.sl .ext (H.map fun p=>E.int .i64 (p.1:Int))),(12,.int .i64 (j:Int))]/\bx=[[.bool true,.sl (.own 2) (((Zb M).filter (fun x=>!decide (x.need<=n))).map enE)],[.bsl 2 0 M.length c],[.row (c*4) (reF M2)]]/\fr=[⟨(Zb M).length,3,31⟩,⟨H.length,3,31⟩,⟨((Zb M).filter (fun x=>!decide (x.need<=n))).length,3,31⟩]) (H.length+1) (Lands.mk' (m:=H.length) (Nat.lt_succ_self _) ⟨0,rfl,rfl,rfl,rfl⟩ ?_ rfl rfl rfl rfl rfl rfl) ?_
 ·exact .cons rfl (.cons rfl (.cons rfl (.cons rfl (.cons (congrArg D.bool hfl) (.cons rfl (.cons rfl (.cons rfl .nil)))))))
 clear hC hD
 rintro f tm bx fr ⟨j,hf,rfl,rfl,rfl⟩
 rcases Nat.lt_or_ge j H.length with hjl|hjg
 ·have hdj:decide ((j:Int)<((H.map fun p=>E.int .i64 (p.1:Int)).length:Int))=true:=decide_eq_true (by rw[hm2];omega)
  obtain⟨⟨p,e⟩,hp⟩:∃ p,H[j]?=some p:=⟨_,List.getElem?_eq_getElem hjl⟩
  obtain⟨_,g2,hg2⟩:=hget (p,e) (List.mem_of_getElem? hp)
  have hg2:M[p]?=some (e,g2):=hg2
  have hpl:=(List.getElem?_eq_some_iff.1 hg2).1
  have h1:((H.map (·.2)).map enE)[((j:Nat):Int).toNat]?=some (enE e):=by rw[Int.toNat_natCast,List.getElem?_map,List.getElem?_map,hp];rfl
  have h2:(H.map fun p=>E.int .i64 (p.1:Int))[((j:Nat):Int).toNat]?=some (.int .i64 (p:Int)):=by rw[Int.toNat_natCast,List.getElem?_map,hp];rfl
  have h3:M2[p]?=some (e,g2||decide (e.need<=n)):=by rw[hM2];unfold Zu;rw[List.getElem?_map,hg2];rfl
  have hpi:(p:Int)<(M.length:Int):=by omega
  have ht4:=Qx h3
  have hle4:((p:Nat):Int).toNat*4+4<=(reF M2).length:=by rw[Int.toNat_natCast,Vg,hM2,Zn];omega
  have ej:IntKind.i64.wrap ((j:Int)+1)=((j+1:Nat):Int):=by rw[IntWalk.i64_in _ (by omega)];omega
  generalize (g2||decide (e.need<=n))=gg at *
  clear h3 hg2 hget
  obtain⟨w2,d2,n2⟩:=e
  have u1:(w2==w2)=true:=by simp
  have u2:(d2==d2)=true:=by simp
  have u3:(n2==n2)=true:=by simp
  replace h1:((H.map (·.2)).map enE)[((j:Nat):Int).toNat]?=some (.agg [.int .i64 w2,.sl (d2.map E.byte),.int .i64 n2]):=h1
  replace ht4:((reF M2).drop (((p:Nat):Int).toNat*4)).take 4=[.int .i64 w2,.str d2,.int .i64 n2,.bool gg]:=ht4
  repeat'(first|refine ZU Za Z Z Z Z Z Z (Int.natCast_nonneg _) hpi Z ?_|refine VV Za Z Z Z Z ht4 hle4 Z Z ?_|refine Yq Za Z Z Z Z Z Z Z Z Z ?_|rw[ej]|(apply Zk Za;exact Z)|(apply Zh Za;exact Z)|(apply Zr Za;exact Z)|(apply Ze;(iterate 3 exact Z);(first|with_reducible assumption|decide +kernel|(solve|simp only[bn])))|(apply Zl;exact Z;(first|with_reducible assumption|decide +kernel|(solve|simp only[bn]));exact Z;exact Z)|(apply Zf;exact Z;(first|with_reducible assumption|decide +kernel|(solve|simp only[bn])))|refine Zo Za Z Z Z Z ?_|(apply Zq 11 Z5;decide +kernel;kernel_rfl;kernel_rfl;kernel_rfl;exact Z;exact Z)|(apply Zq 27 Z5;decide +kernel;kernel_rfl;kernel_rfl;kernel_rfl;exact Z;exact Z)|(apply Zt;(iterate 4 exact Z))|exact AE.nil _ _ _ _|(apply Zz;exact Z)|(apply ZS;exact Z)|(apply ZG;exact Z;exact Z;decide +kernel;exact Z)|(apply ZH;exact Z)|(apply Ya;exact Z)|exact AO.nil _ _ _|(apply Zs;(decide +kernel))|(apply ZR;(iterate 3 exact Z))|exact AOs.nil|exact ZX rfl rfl|exact Yo rfl rfl|(apply Zv Za;(iterate 6 exact Z);(first|exact Qt|rotate_left);(first|with_reducible assumption|decide +kernel|exact Z);(first|exact Zg rfl|with_reducible assumption|decide +kernel|rotate_left))|refine Yq Za Z Z Z Z Z Z Z Z Z ?_)
  refine Lands.mk' (m:=f-1) (by omega) ⟨j+1,by omega,rfl,rfl,rfl⟩ ?_ rfl rfl rfl rfl rfl rfl
  exact .cons rfl (.cons rfl (.cons rfl (.cons rfl (.cons (by first|rfl|exact congrArg D.bool u3|(simp only[Go.Av.look];simp)) (.cons rfl (.cons rfl (.cons rfl .nil)))))))
 ·have hdj:decide ((j:Int)<((H.map fun p=>E.int .i64 (p.1:Int)).length:Int))=false:=decide_eq_false (by rw[hm2];omega)
  repeat'(first|rw[ei]|(apply Zc [0] [2] (hL1);kernel_rfl;(iterate 10 exact Z))|(apply Zi [1,2] (hL2);kernel_rfl;(iterate 7 exact Z))|(apply Zk Za;exact Z)|(apply Zh Za;exact Z)|(apply Zr Za;exact Z)|(apply Ze;(iterate 3 exact Z);(first|with_reducible assumption|decide +kernel|(solve|simp only[bn])))|(apply Yl;(iterate 3 exact Z);(first|with_reducible assumption|decide +kernel|(solve|simp only[bn])))|(apply Zj;exact Z;(first|with_reducible assumption|decide +kernel|(solve|simp only[bn]));exact Z;exact Z)|(apply Zd;exact Z;(first|with_reducible assumption|decide +kernel|(solve|simp only[bn])))|refine Zo Za Z Z Z Z ?_)
  subst hM2
  refine LandS.mk' (m:=k-1) (tm1:=plT ops (i+1)) (bx:=[[.bool true,.sl (.own 0) (((Zb M).filter (fun x=>!decide (x.need<=n))).map enE)],[.bsl 2 0 M.length c],[.row (c*4) (reF (Zu (fun x=>decide (x.need<=n)) M))]]) (fr:=[⟨((Zb M).filter (fun x=>!decide (x.need<=n))).length,3,31⟩]) [0,1,2] [2] (by omega) ⟨i+1,Zu (fun x=>decide (x.need<=n)) M,by omega,by rw[Zn];omega,by have:=ZZ (fun x=>decide (x.need<=n)) M;omega,rfl,.inr (.inr ⟨YQ hM,hl1,c,by rw[Zn];exact hc,by rw[Zn,ZC],by rw[ZC]⟩)⟩ rfl rfl rfl rfl ?_ rfl rfl rfl
  exact .cons rfl (.cons rfl (.cons rfl (.cons rfl .nil)))
end Go.Proofs.Ytchlgagdbflkmaa
end
