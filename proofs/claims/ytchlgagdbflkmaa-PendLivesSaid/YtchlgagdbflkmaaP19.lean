/- PendLives: rounds of Adds (pdgen5.py). -/
import Derived.Test.YtchlgagdbflkmaaP12
import Derived.Test.YtchlgagdbflkmaaP17
set_option linter.unusedVariables false
set_option linter.unusedSimpArgs false
section
open Go.RowKit Go.Pl Go.Av
namespace Go.Proofs.Ytchlgagdbflkmaa
set_option maxHeartbeats 4000000
set_option maxRecDepth 10000 in
theorem JJ [Known](ops:List OpV)(M:List Ev)(i k c:Nat)(kd n who:Int)(data:List UInt8)(need:Int)(hk:k+i=150)(hlt:i<ops.length/\i<150)(hMi:M.length<=i)(h64:(Zb M).length<=64)(hx:ops[i]?=some ⟨kd,n,⟨who,data,need⟩⟩)(g:decide (((data.map E.byte).length:Int)>1100)=false)(hM:M ≠ [])(hL:Zb M=[])(hc:M.length<=c)(hkd:kd=0)(hx0:data ≠ [])(hb:ZA ⟨who,data,need⟩=false)(hrm:M.length+1<=c)(Q:X->St->Prop) :
  AW Try.prog (ZD (Try.f3.body.getD .skip)) ⟨205,plT ops i,[[.bool true,.sl .nil []],[.bsl 2 0 M.length c],[.row (c*4) (reF M)]],[],(([]:List (List D)).length,([]:List Fr).length)⟩ (X.then (LandS (PlJ ops) 205 (([]:List (List D)).length,([]:List Fr).length) k) Q):=by
 conv=>enter [3];whnf
 have hol:(ops.map opE).length=ops.length:=List.length_map ..
 have hUo:=ZP ops
 have hUd:=ZO data
 have hd1:decide ((i:Int)<((ops.map opE).length:Int))=true:=decide_eq_true (by rw[hol];omega)
 have hd2:decide ((i:Int)<150)=true:=decide_eq_true (by omega)
 have ei:IntKind.i64.wrap ((i:Int)+1)=((i+1:Nat):Int):=by rw[IntWalk.i64_in _ (by omega)];omega
 have hxe:(ops.map opE)[((i:Nat):Int).toNat]?=some (opE ⟨kd,n,⟨who,data,need⟩⟩):=by rw[Int.toNat_natCast,List.getElem?_map,hx];rfl
 replace hxe:(ops.map opE)[((i:Nat):Int).toNat]?=some (.agg [.int .i64 kd,.int .i64 n,.int .i64 who,.sl (data.map E.byte),.int .i64 need]):=hxe
 have q0:(kd==0)=true:=by rw[hkd];rfl
 have hdl:(data.map E.byte).length=data.length:=List.length_map ..
 have hd11:data.length<=1100:=by have:=of_decide_eq_false g;omega
 have hdn:data.map E.byte ≠ []:=fun e=>hx0 (List.map_eq_nil_iff.1 e)
 have hdm:(data.map E.byte).length<=maxLen:=by rw[hdl];unfold maxLen;omega
 have hdb:(data.map E.byte).length*1<=140737488355328:=by rw[hdl];omega
 have hC:AT Try.prog 6 [.ptr 0 0,.agg [.int .i64 who,.bsl 1 0 (data.map E.byte).length 0,.int .i64 need]] [[.bool true,.sl .nil []],[.row 0 (flat (data.map E.byte))]] [] (.int .i64 0) [[.bool true,.sl (.own 0) ([enE (⟨who,data,need⟩:En)])],[.row 0 (flat (data.map E.byte))]] (pqF 1):=Uf who need data hx0 (by omega) hb
 unfold ZA at hb
 dsimp only at hb
 rw[<- hdl]at hb
 simp only[Bool.or_eq_false_iff]at hb
 obtain⟨t1,t2,t3,t4,t5⟩:=hb
 have hml:(M.map reE).length=M.length:=List.length_map ..
 have hUM:Uni 4 (M.map reE):=Uni.map (f:=reE) (fun _=>rfl) M
 have hMp:0<M.length:=List.length_pos_iff.2 hM
 have hc0:0<c:=by omega
 have hle1:(M.map reE).length+1<=maxLen:=by rw[hml];unfold maxLen;omega
 have hby1:((M.map reE).length+1)*40<=140737488355328:=by rw[hml];omega
 have hL0:=ZE M (by omega) (c*4) c
 rw[hL]at hL0
 replace hL0:AQ Try.prog 14 [.ptr 0 0] [[.bsl 1 0 M.length c],[.row (c*4) (reF M)]] (.int .i64 0) [[.bsl 1 0 M.length c],[.row (c*4) (reF M)]]:=hL0
 have hL2:∀ c2:Nat,AQ Try.prog 14 [.ptr 0 0] [[.bsl 1 0 ((M.map reE).length+1) c2],[.row (c2*4) (flat (M.map reE++[reE ((⟨who,data,need⟩:En),false)]))]] (.int .i64 1) [[.bsl 1 0 ((M.map reE).length+1) c2],[.row (c2*4) (flat (M.map reE++[reE ((⟨who,data,need⟩:En),false)]))]]:=fun c2=>by
  have h:=ZE (M++[((⟨who,data,need⟩:En),false)]) (by simp;omega) (c2*4) c2
  have e1:reF (M++[((⟨who,data,need⟩:En),false)])=flat (M.map reE++[reE ((⟨who,data,need⟩:En),false)]):=by unfold reF;rw[List.map_append];rfl
  rw[e1,Zp,List.length_append,List.length_append]at h
  rw[hml]
  rw[hL]at h
  exact h
 have hL1:=Yf [enE (⟨who,data,need⟩:En)] 1
 have he1:(((([enE (⟨who,data,need⟩:En)]:List E).length:Nat):Int) != 1)=false:=rfl
 have hrm2:(M.map reE).length+1<=c:=by rw[hml];exact hrm
 repeat'(first|refine Ye Za Z Z Z Z Z Z ?_|(apply Z8 (m:=4) (t:=47) Za;(iterate 4 exact Z);exact(Src.sl rfl);exact Z;exact hUd;exact hdn;exact Z;exact hdm;exact hdb;(iterate 3 exact Z))|(apply Zc [0,4] [] (hC);kernel_rfl;(iterate 10 exact Z))|(apply Zi [1,2] (hL0);kernel_rfl;(iterate 7 exact Z))|(apply Y4 Try.func7 Try.ntmps7;exact Z;exact Z;kernel_rfl;(iterate 6 exact Z))|(apply Y3;(apply Zm Za;exact Z);exact Z)|refine Yq Za Z Z Z Z Z Z Z Z Z ?_|(apply Wg (l:=M.map reE) Za;(iterate 4 exact Z);exact(Src.sl rfl);exact Z;exact hml;exact Z;exact hc0;exact hUM;exact Zg rfl;exact List.cons_ne_nil _ _;exact hle1;exact hby1;exact Z;exact hrm2;exact Z;exact Z)|(apply Zk Za;exact Z)|(apply Zh Za;exact Z)|(apply Zr Za;exact Z)|(apply Ze;(iterate 3 exact Z);(first|with_reducible assumption|decide +kernel|(solve|simp only[bn])))|(apply Zl;exact Z;(first|with_reducible assumption|decide +kernel|(solve|simp only[bn]));exact Z;exact Z)|(apply Zj;exact Z;(first|with_reducible assumption|decide +kernel|(solve|simp only[bn]));exact Z;exact Z)|(apply Zf;exact Z;(first|with_reducible assumption|decide +kernel|(solve|simp only[bn])))|(apply Zd;exact Z;(first|with_reducible assumption|decide +kernel|(solve|simp only[bn])))|refine Zo Za Z Z Z Z ?_|refine ZY Za Z Z Z Z Z Z Z Z Z Z Z Z ?_|(apply Zq 12 Z5;decide +kernel;kernel_rfl;kernel_rfl;kernel_rfl;exact Z;exact Z)|(apply Zq 20 Z5;decide +kernel;kernel_rfl;kernel_rfl;kernel_rfl;exact Z;exact Z)|(apply Zt;(iterate 4 exact Z))|exact AE.nil _ _ _ _|(apply Zz;exact Z)|(apply ZS;exact Z)|(apply ZG;exact Z;exact Z;decide +kernel;exact Z)|(apply ZH;exact Z)|(apply Ya;exact Z)|exact AO.nil _ _ _|(apply Zs;(decide +kernel))|(apply ZR;(iterate 3 exact Z))|exact AOs.nil|exact ZX rfl rfl|exact YY rfl rfl rfl rfl rfl|exact Yo rfl rfl|(apply Zv Za;(iterate 6 exact Z);(first|exact Qt|rotate_left);(first|with_reducible assumption|decide +kernel|exact Z);(first|exact Zg rfl|with_reducible assumption|decide +kernel|rotate_left))|refine Yq Za Z Z Z Z Z Z Z Z Z ?_)
 refine Z7 (fun f tm bx fr=>∃(j:Nat) (R:List UInt8),f+j=data.length/\R.length=data.length/\tm=[(0,.sl .ext (ops.map opE)),(3,.ptr 0 0),(4,.ptr 1 0),(5,.int .i64 (i:Int)),(7,.bool true),(8,.bsl 4 0 (data.map E.byte).length 0),(9,.int .i64 (j:Int))]/\bx=[[.bool true,.sl (.own 0) ([enE (⟨who,data,need⟩:En)])],[.bsl 2 0 ((M.map reE).length+1) c],[.row (c*4) (flat (M.map reE++[reE ((⟨who,data,need⟩:En),false)]))],[.int .i64 kd,.int .i64 n,.int .i64 who,.sl .ext (data.map E.byte),.int .i64 need],[.row 0 (flat (R.map E.byte))]]/\fr=[⟨1,3,31⟩]) (data.length+1) (Lands.mk' (m:=data.length) (Nat.lt_succ_self _) ⟨0,data,rfl,rfl,rfl,rfl,rfl⟩ ?_ rfl rfl rfl rfl rfl rfl) ?_
 ·exact .cons rfl (.cons rfl (.cons rfl (.cons rfl (.cons rfl (.cons rfl (.cons rfl .nil))))))
 rintro f tm bx fr ⟨j,R,hf,hR,rfl,rfl,rfl⟩
 rcases Nat.lt_or_ge j data.length with hjl|hjg
 ·have hd3:decide ((j:Int)<((data.map E.byte).length:Int))=true:=decide_eq_true (by rw[hdl];omega)
  have hd4:(j:Int)<((data.map E.byte).length:Int):=of_decide_eq_true hd3
  obtain⟨y,hy⟩:∃ y,R[j]?=some y:=⟨_,List.getElem?_eq_getElem (by omega)⟩
  have he:(flat (R.map E.byte))[((j:Nat):Int).toNat*1]?=some (.int .u8 (y.toNat:Int)):=by rw[Yt,Int.toNat_natCast,Nat.mul_one,List.getElem?_map,hy];rfl
  have hle:((j:Nat):Int).toNat*1+1<=(flat (R.map E.byte)).length:=by rw[Yt,Int.toNat_natCast,List.length_map];omega
  have hst:Z2 (flat (R.map E.byte)) (((j:Nat):Int).toNat*1) [.int .u8 ((y ^^^ 255).toNat:Int)]=flat ((R.set j (y ^^^ 255)).map E.byte):=by
   rw[Int.toNat_natCast,Nat.mul_one]
   exact Z9 R (by omega) _
  have hx3:=Wd y
  have ek:IntKind.i64.wrap ((j:Int)+1)=((j+1:Nat):Int):=by rw[IntWalk.i64_in _ (by omega)];omega
  repeat'(first|refine Zx Za Z Z Z Z ?_|refine ZU Za Z Z Z Z Z Z (Int.natCast_nonneg _) hd4 Z ?_|refine ZI Za Z Z Z Z he Z Z ?_|rw[hx3]|refine Z6 Za Z Z Z Z Z Z hle hst Z ?_|rw[ek]|(apply Zk Za;exact Z)|(apply Zh Za;exact Z)|(apply Zr Za;exact Z)|(apply Zf;exact Z;(first|with_reducible assumption|decide +kernel|(solve|simp only[bn]))))
  refine Lands.mk' (m:=f-1) (by omega) ⟨j+1,R.set j (y ^^^ 255),by omega,by rw[List.length_set];exact hR,rfl,rfl,rfl⟩ ?_ rfl rfl rfl rfl rfl rfl
  exact .cons rfl (.cons rfl (.cons rfl (.cons rfl (.cons rfl (.cons rfl (.cons rfl .nil))))))
 ·have hd3:decide ((j:Int)<((data.map E.byte).length:Int))=false:=decide_eq_false (by rw[hdl];omega)
  repeat'(first|refine Zx Za Z Z Z Z ?_|rw[ei]|(apply Zc [0] [0] (hL1);kernel_rfl;(iterate 10 exact Z))|(apply Zi [1,2] (hL2 c);kernel_rfl;(iterate 7 exact Z))|(apply Zk Za;exact Z)|(apply Zh Za;exact Z)|(apply Zr Za;exact Z)|(apply Ze;(iterate 3 exact Z);(first|with_reducible assumption|decide +kernel|(solve|simp only[bn])))|(apply Zj;exact Z;(first|with_reducible assumption|decide +kernel|(solve|simp only[bn]));exact Z;exact Z)|(apply Zd;exact Z;(first|with_reducible assumption|decide +kernel|(solve|simp only[bn]))))
  refine LandS.mk' (m:=k-1) (tm1:=plT ops (i+1)) (bx:=[[.bool true,.sl (.own 0) ([enE (⟨who,data,need⟩:En)])],[.bsl 2 0 ((M.map reE).length+1) c],[.row (c*4) (flat (M.map reE++[reE ((⟨who,data,need⟩:En),false)]))]]) (fr:=[⟨1,3,31⟩]) [0,1,2] [0] (by omega) ⟨i+1,(M++[((⟨who,data,need⟩:En),false)]),by omega,by simp;omega,by rw[Zp,hL];simp,rfl,.inr (.inr ⟨by simp,by rw[Zp];simp,c,by rw[List.length_append,<- hml];exact hrm2,by unfold reF;rw[Zp,List.map_append,List.map_append,List.length_append,hL];first|rfl|(rw[hml];rfl),by rw[Zp,List.length_append,hL];rfl⟩)⟩ rfl rfl rfl rfl ?_ rfl rfl rfl
  exact .cons rfl (.cons rfl (.cons rfl (.cons rfl .nil)))
set_option maxRecDepth 10000 in
theorem JK [Known](ops:List OpV)(M:List Ev)(i k c:Nat)(kd n who:Int)(data:List UInt8)(need:Int)(hk:k+i=150)(hlt:i<ops.length/\i<150)(hMi:M.length<=i)(h64:(Zb M).length<=64)(hx:ops[i]?=some ⟨kd,n,⟨who,data,need⟩⟩)(g:decide (((data.map E.byte).length:Int)>1100)=false)(hM:M ≠ [])(hL:Zb M=[])(hc:M.length<=c)(hkd:kd=0)(hx0:data ≠ [])(hb:ZA ⟨who,data,need⟩=false)(hrm:c<M.length+1)(Q:X->St->Prop) :
  AW Try.prog (ZD (Try.f3.body.getD .skip)) ⟨205,plT ops i,[[.bool true,.sl .nil []],[.bsl 2 0 M.length c],[.row (c*4) (reF M)]],[],(([]:List (List D)).length,([]:List Fr).length)⟩ (X.then (LandS (PlJ ops) 205 (([]:List (List D)).length,([]:List Fr).length) k) Q):=by
 conv=>enter [3];whnf
 have hol:(ops.map opE).length=ops.length:=List.length_map ..
 have hUo:=ZP ops
 have hUd:=ZO data
 have hd1:decide ((i:Int)<((ops.map opE).length:Int))=true:=decide_eq_true (by rw[hol];omega)
 have hd2:decide ((i:Int)<150)=true:=decide_eq_true (by omega)
 have ei:IntKind.i64.wrap ((i:Int)+1)=((i+1:Nat):Int):=by rw[IntWalk.i64_in _ (by omega)];omega
 have hxe:(ops.map opE)[((i:Nat):Int).toNat]?=some (opE ⟨kd,n,⟨who,data,need⟩⟩):=by rw[Int.toNat_natCast,List.getElem?_map,hx];rfl
 replace hxe:(ops.map opE)[((i:Nat):Int).toNat]?=some (.agg [.int .i64 kd,.int .i64 n,.int .i64 who,.sl (data.map E.byte),.int .i64 need]):=hxe
 have q0:(kd==0)=true:=by rw[hkd];rfl
 have hdl:(data.map E.byte).length=data.length:=List.length_map ..
 have hd11:data.length<=1100:=by have:=of_decide_eq_false g;omega
 have hdn:data.map E.byte ≠ []:=fun e=>hx0 (List.map_eq_nil_iff.1 e)
 have hdm:(data.map E.byte).length<=maxLen:=by rw[hdl];unfold maxLen;omega
 have hdb:(data.map E.byte).length*1<=140737488355328:=by rw[hdl];omega
 have hC:AT Try.prog 6 [.ptr 0 0,.agg [.int .i64 who,.bsl 1 0 (data.map E.byte).length 0,.int .i64 need]] [[.bool true,.sl .nil []],[.row 0 (flat (data.map E.byte))]] [] (.int .i64 0) [[.bool true,.sl (.own 0) ([enE (⟨who,data,need⟩:En)])],[.row 0 (flat (data.map E.byte))]] (pqF 1):=Uf who need data hx0 (by omega) hb
 unfold ZA at hb
 dsimp only at hb
 rw[<- hdl]at hb
 simp only[Bool.or_eq_false_iff]at hb
 obtain⟨t1,t2,t3,t4,t5⟩:=hb
 have hml:(M.map reE).length=M.length:=List.length_map ..
 have hUM:Uni 4 (M.map reE):=Uni.map (f:=reE) (fun _=>rfl) M
 have hMp:0<M.length:=List.length_pos_iff.2 hM
 have hc0:0<c:=by omega
 have hle1:(M.map reE).length+1<=maxLen:=by rw[hml];unfold maxLen;omega
 have hby1:((M.map reE).length+1)*40<=140737488355328:=by rw[hml];omega
 have hL0:=ZE M (by omega) (c*4) c
 rw[hL]at hL0
 replace hL0:AQ Try.prog 14 [.ptr 0 0] [[.bsl 1 0 M.length c],[.row (c*4) (reF M)]] (.int .i64 0) [[.bsl 1 0 M.length c],[.row (c*4) (reF M)]]:=hL0
 have hL2:∀ c2:Nat,AQ Try.prog 14 [.ptr 0 0] [[.bsl 1 0 ((M.map reE).length+1) c2],[.row (c2*4) (flat (M.map reE++[reE ((⟨who,data,need⟩:En),false)]))]] (.int .i64 1) [[.bsl 1 0 ((M.map reE).length+1) c2],[.row (c2*4) (flat (M.map reE++[reE ((⟨who,data,need⟩:En),false)]))]]:=fun c2=>by
  have h:=ZE (M++[((⟨who,data,need⟩:En),false)]) (by simp;omega) (c2*4) c2
  have e1:reF (M++[((⟨who,data,need⟩:En),false)])=flat (M.map reE++[reE ((⟨who,data,need⟩:En),false)]):=by unfold reF;rw[List.map_append];rfl
  rw[e1,Zp,List.length_append,List.length_append]at h
  rw[hml]
  rw[hL]at h
  exact h
 have hL1:=Yf [enE (⟨who,data,need⟩:En)] 1
 have he1:(((([enE (⟨who,data,need⟩:En)]:List E).length:Nat):Int) != 1)=false:=rfl
 have hrm2:c<(M.map reE).length+1:=by rw[hml];exact hrm
 repeat'(first|refine Ye Za Z Z Z Z Z Z ?_|(apply Z8 (m:=4) (t:=47) Za;(iterate 4 exact Z);exact(Src.sl rfl);exact Z;exact hUd;exact hdn;exact Z;exact hdm;exact hdb;(iterate 3 exact Z))|(apply YT 14 11 (fun c=>(M.map reE).length+1<=c) (c0:=(M.map reE).length+1) (Nat.le_refl _) Z5;decide +kernel;kernel_rfl;kernel_rfl;kernel_rfl;(iterate 8 exact Z))|(show WW _=true;exact Z)|(show nfl (ZT _ _ _)=some _;exact Z)|(apply V2 c2 hc2;(iterate 4 exact Z))|(refine W9 ?_;intro c2 hc2)|(apply Zc [0,4] [] (hC);kernel_rfl;(iterate 10 exact Z))|(apply Zi [1,2] (hL0);kernel_rfl;(iterate 7 exact Z))|(apply Y4 Try.func7 Try.ntmps7;exact Z;exact Z;kernel_rfl;(iterate 6 exact Z))|(apply Y3;(apply Zm Za;exact Z);exact Z)|refine Yq Za Z Z Z Z Z Z Z Z Z ?_|(apply Wh (l:=M.map reE) Za;(iterate 4 exact Z);exact(Src.sl rfl);exact Z;exact hml;exact Z;exact hc0;exact hUM;exact Zg rfl;exact List.cons_ne_nil _ _;exact hle1;exact hby1;exact Z;exact hrm2;exact Z;exact(fun _=>rfl);exact Z;intro c2 hc2)|(apply Zk Za;exact Z)|(apply Zh Za;exact Z)|(apply Zr Za;exact Z)|(apply Ze;(iterate 3 exact Z);(first|with_reducible assumption|decide +kernel|(solve|simp only[bn])))|(apply Zl;exact Z;(first|with_reducible assumption|decide +kernel|(solve|simp only[bn]));exact Z;exact Z)|(apply Zj;exact Z;(first|with_reducible assumption|decide +kernel|(solve|simp only[bn]));exact Z;exact Z)|(apply Zf;exact Z;(first|with_reducible assumption|decide +kernel|(solve|simp only[bn])))|(apply Zd;exact Z;(first|with_reducible assumption|decide +kernel|(solve|simp only[bn])))|refine Zo Za Z Z Z Z ?_|refine ZY Za Z Z Z Z Z Z Z Z Z Z Z Z ?_|(apply Zq 20 Z5;decide +kernel;kernel_rfl;kernel_rfl;kernel_rfl;exact Z;exact Z)|(apply Zt;(iterate 4 exact Z))|exact AE.nil _ _ _ _|(apply Zz;exact Z)|(apply ZS;exact Z)|(apply ZG;exact Z;exact Z;decide +kernel;exact Z)|(apply ZH;exact Z)|(apply Ya;exact Z)|exact AO.nil _ _ _|(apply Zs;(decide +kernel))|(apply ZR;(iterate 3 exact Z))|exact AOs.nil|exact ZX rfl rfl|exact YY rfl rfl rfl rfl rfl|exact Yo rfl rfl|(apply Zv Za;(iterate 6 exact Z);(first|exact Qt|rotate_left);(first|with_reducible assumption|decide +kernel|exact Z);(first|exact Zg rfl|with_reducible assumption|decide +kernel|rotate_left))|refine Yq Za Z Z Z Z Z Z Z Z Z ?_)
 refine Z7 (fun f tm bx fr=>∃(j:Nat) (R:List UInt8),f+j=data.length/\R.length=data.length/\tm=[(0,.sl .ext (ops.map opE)),(3,.ptr 0 0),(4,.ptr 1 0),(5,.int .i64 (i:Int)),(7,.bool true),(8,.bsl 4 0 (data.map E.byte).length 0),(9,.int .i64 (j:Int))]/\bx=[[.bool true,.sl (.own 0) ([enE (⟨who,data,need⟩:En)])],[.bsl 5 0 ((M.map reE).length+1) c2],[.row (c*4) (reF M)],[.int .i64 kd,.int .i64 n,.int .i64 who,.sl .ext (data.map E.byte),.int .i64 need],[.row 0 (flat (R.map E.byte))],[.row (c2*4) (flat (M.map reE++[reE ((⟨who,data,need⟩:En),false)]))]]/\fr=[⟨1,3,31⟩]) (data.length+1) (Lands.mk' (m:=data.length) (Nat.lt_succ_self _) ⟨0,data,rfl,rfl,rfl,rfl,rfl⟩ ?_ rfl rfl rfl rfl rfl rfl) ?_
 ·exact .cons rfl (.cons rfl (.cons rfl (.cons rfl (.cons rfl (.cons rfl (.cons rfl .nil))))))
 rintro f tm bx fr ⟨j,R,hf,hR,rfl,rfl,rfl⟩
 rcases Nat.lt_or_ge j data.length with hjl|hjg
 ·have hd3:decide ((j:Int)<((data.map E.byte).length:Int))=true:=decide_eq_true (by rw[hdl];omega)
  have hd4:(j:Int)<((data.map E.byte).length:Int):=of_decide_eq_true hd3
  obtain⟨y,hy⟩:∃ y,R[j]?=some y:=⟨_,List.getElem?_eq_getElem (by omega)⟩
  have he:(flat (R.map E.byte))[((j:Nat):Int).toNat*1]?=some (.int .u8 (y.toNat:Int)):=by rw[Yt,Int.toNat_natCast,Nat.mul_one,List.getElem?_map,hy];rfl
  have hle:((j:Nat):Int).toNat*1+1<=(flat (R.map E.byte)).length:=by rw[Yt,Int.toNat_natCast,List.length_map];omega
  have hst:Z2 (flat (R.map E.byte)) (((j:Nat):Int).toNat*1) [.int .u8 ((y ^^^ 255).toNat:Int)]=flat ((R.set j (y ^^^ 255)).map E.byte):=by
   rw[Int.toNat_natCast,Nat.mul_one]
   exact Z9 R (by omega) _
  have hx3:=Wd y
  have ek:IntKind.i64.wrap ((j:Int)+1)=((j+1:Nat):Int):=by rw[IntWalk.i64_in _ (by omega)];omega
  repeat'(first|refine Zx Za Z Z Z Z ?_|refine ZU Za Z Z Z Z Z Z (Int.natCast_nonneg _) hd4 Z ?_|refine ZI Za Z Z Z Z he Z Z ?_|rw[hx3]|refine Z6 Za Z Z Z Z Z Z hle hst Z ?_|rw[ek]|(apply Zk Za;exact Z)|(apply Zh Za;exact Z)|(apply Zr Za;exact Z)|(apply Zf;exact Z;(first|with_reducible assumption|decide +kernel|(solve|simp only[bn]))))
  refine Lands.mk' (m:=f-1) (by omega) ⟨j+1,R.set j (y ^^^ 255),by omega,by rw[List.length_set];exact hR,rfl,rfl,rfl⟩ ?_ rfl rfl rfl rfl rfl rfl
  exact .cons rfl (.cons rfl (.cons rfl (.cons rfl (.cons rfl (.cons rfl (.cons rfl .nil))))))
 ·have hd3:decide ((j:Int)<((data.map E.byte).length:Int))=false:=decide_eq_false (by rw[hdl];omega)
  repeat'(first|refine Zx Za Z Z Z Z ?_|rw[ei]|(apply Zc [0] [0] (hL1);kernel_rfl;(iterate 10 exact Z))|(apply Zi [1,5] (hL2 c2);kernel_rfl;(iterate 7 exact Z))|(apply Zk Za;exact Z)|(apply Zh Za;exact Z)|(apply Zr Za;exact Z)|(apply Ze;(iterate 3 exact Z);(first|with_reducible assumption|decide +kernel|(solve|simp only[bn])))|(apply Zj;exact Z;(first|with_reducible assumption|decide +kernel|(solve|simp only[bn]));exact Z;exact Z)|(apply Zd;exact Z;(first|with_reducible assumption|decide +kernel|(solve|simp only[bn]))))
  refine LandS.mk' (m:=k-1) (tm1:=plT ops (i+1)) (bx:=[[.bool true,.sl (.own 0) ([enE (⟨who,data,need⟩:En)])],[.bsl 2 0 ((M.map reE).length+1) c2],[.row (c2*4) (flat (M.map reE++[reE ((⟨who,data,need⟩:En),false)]))]]) (fr:=[⟨1,3,31⟩]) [0,1,5] [0] (by omega) ⟨i+1,(M++[((⟨who,data,need⟩:En),false)]),by omega,by simp;omega,by rw[Zp,hL];simp,rfl,.inr (.inr ⟨by simp,by rw[Zp];simp,c2,by rw[List.length_append,<- hml];exact hc2,by unfold reF;rw[Zp,List.map_append,List.map_append,List.length_append,hL];first|rfl|(rw[hml];rfl),by rw[Zp,List.length_append,hL];rfl⟩)⟩ rfl rfl rfl rfl ?_ rfl rfl rfl
  exact .cons rfl (.cons rfl (.cons rfl (.cons rfl .nil)))
set_option maxRecDepth 10000 in
theorem JL [Known](ops:List OpV)(M:List Ev)(i k c:Nat)(kd n who:Int)(data:List UInt8)(need:Int)(hk:k+i=150)(hlt:i<ops.length/\i<150)(hMi:M.length<=i)(h64:(Zb M).length<=64)(hx:ops[i]?=some ⟨kd,n,⟨who,data,need⟩⟩)(g:decide (((data.map E.byte).length:Int)>1100)=false)(hM:M ≠ [])(hL:Zb M ≠ [])(hc:M.length<=c)(hkd:kd=0)(hx0:data ≠ [])(hb:ZA ⟨who,data,need⟩=false)(h65:(Zb M).length<64)(hrm:M.length+1<=c)(Q:X->St->Prop) :
  AW Try.prog (ZD (Try.f3.body.getD .skip)) ⟨205,plT ops i,[[.bool true,.sl (.own 0) ((Zb M).map enE)],[.bsl 2 0 M.length c],[.row (c*4) (reF M)]],[⟨(Zb M).length,3,31⟩],(([]:List (List D)).length,([]:List Fr).length)⟩ (X.then (LandS (PlJ ops) 205 (([]:List (List D)).length,([]:List Fr).length) k) Q):=by
 conv=>enter [3];whnf
 have hol:(ops.map opE).length=ops.length:=List.length_map ..
 have hUo:=ZP ops
 have hUd:=ZO data
 have hd1:decide ((i:Int)<((ops.map opE).length:Int))=true:=decide_eq_true (by rw[hol];omega)
 have hd2:decide ((i:Int)<150)=true:=decide_eq_true (by omega)
 have ei:IntKind.i64.wrap ((i:Int)+1)=((i+1:Nat):Int):=by rw[IntWalk.i64_in _ (by omega)];omega
 have hxe:(ops.map opE)[((i:Nat):Int).toNat]?=some (opE ⟨kd,n,⟨who,data,need⟩⟩):=by rw[Int.toNat_natCast,List.getElem?_map,hx];rfl
 replace hxe:(ops.map opE)[((i:Nat):Int).toNat]?=some (.agg [.int .i64 kd,.int .i64 n,.int .i64 who,.sl (data.map E.byte),.int .i64 need]):=hxe
 have q0:(kd==0)=true:=by rw[hkd];rfl
 have hdl:(data.map E.byte).length=data.length:=List.length_map ..
 have hd11:data.length<=1100:=by have:=of_decide_eq_false g;omega
 have hdn:data.map E.byte ≠ []:=fun e=>hx0 (List.map_eq_nil_iff.1 e)
 have hdm:(data.map E.byte).length<=maxLen:=by rw[hdl];unfold maxLen;omega
 have hdb:(data.map E.byte).length*1<=140737488355328:=by rw[hdl];omega
 have hqm:((Zb M).map enE).length=(Zb M).length:=List.length_map ..
 have hC:AT Try.prog 6 [.ptr 0 0,.agg [.int .i64 who,.bsl 1 0 (data.map E.byte).length 0,.int .i64 need]] [[.bool true,.sl (.own 0) ((Zb M).map enE)],[.row 0 (flat (data.map E.byte))]] (pqF ((Zb M).map enE).length) (.int .i64 0) [[.bool true,.sl (.own 0) (((Zb M).map enE)++[enE (⟨who,data,need⟩:En)])],[.row 0 (flat (data.map E.byte))]] (pqF (((Zb M).map enE).length+1)):=Qq who need data hx0 (by omega) ((Zb M).map enE) hb (by rw[hqm];exact h65) (WT _)
 rw[hqm]at hC
 unfold ZA at hb
 dsimp only at hb
 rw[<- hdl]at hb
 simp only[Bool.or_eq_false_iff]at hb
 obtain⟨t1,t2,t3,t4,t5⟩:=hb
 have hml:(M.map reE).length=M.length:=List.length_map ..
 have hUM:Uni 4 (M.map reE):=Uni.map (f:=reE) (fun _=>rfl) M
 have hMp:0<M.length:=List.length_pos_iff.2 hM
 have hc0:0<c:=by omega
 have hle1:(M.map reE).length+1<=maxLen:=by rw[hml];unfold maxLen;omega
 have hby1:((M.map reE).length+1)*40<=140737488355328:=by rw[hml];omega
 have hL0:=ZE M (by omega) (c*4) c
 have d6:decide ((((Zb M).length:Nat):Int) ≥ 64)=false:=decide_eq_false (by omega)
 have hL2:∀ c2:Nat,AQ Try.prog 14 [.ptr 0 0] [[.bsl 1 0 ((M.map reE).length+1) c2],[.row (c2*4) (flat (M.map reE++[reE ((⟨who,data,need⟩:En),false)]))]] (.int .i64 (((Zb M).length+1:Nat):Int)) [[.bsl 1 0 ((M.map reE).length+1) c2],[.row (c2*4) (flat (M.map reE++[reE ((⟨who,data,need⟩:En),false)]))]]:=fun c2=>by
  have h:=ZE (M++[((⟨who,data,need⟩:En),false)]) (by simp;omega) (c2*4) c2
  have e1:reF (M++[((⟨who,data,need⟩:En),false)])=flat (M.map reE++[reE ((⟨who,data,need⟩:En),false)]):=by unfold reF;rw[List.map_append];rfl
  rw[e1,Zp,List.length_append,List.length_append]at h
  rw[hml]
  exact h
 have hL1:=Yf (((Zb M).map enE)++[enE (⟨who,data,need⟩:En)]) ((Zb M).length+1)
 have hlm:(((((Zb M).map enE)++[enE (⟨who,data,need⟩:En)]).length:Nat):Int)=(((Zb M).length+1:Nat):Int):=by rw[List.length_append,hqm];rfl
 rw[hlm]at hL1
 have he1:((((Zb M).length+1:Nat):Int) != (((Zb M).length+1:Nat):Int))=false:=by simp
 have hrm2:(M.map reE).length+1<=c:=by rw[hml];exact hrm
 repeat'(first|refine Ye Za Z Z Z Z Z Z ?_|(apply Z8 (m:=4) (t:=47) Za;(iterate 4 exact Z);exact(Src.sl rfl);exact Z;exact hUd;exact hdn;exact Z;exact hdm;exact hdb;(iterate 3 exact Z))|(apply Zc [0,4] [0] (hC);kernel_rfl;(iterate 10 exact Z))|(apply Zi [1,2] (hL0);kernel_rfl;(iterate 7 exact Z))|(apply Y4 Try.func7 Try.ntmps7;exact Z;exact Z;kernel_rfl;(iterate 6 exact Z))|(apply Y3;(apply Zm Za;exact Z);exact Z)|refine Yq Za Z Z Z Z Z Z Z Z Z ?_|(apply Wg (l:=M.map reE) Za;(iterate 4 exact Z);exact(Src.sl rfl);exact Z;exact hml;exact Z;exact hc0;exact hUM;exact Zg rfl;exact List.cons_ne_nil _ _;exact hle1;exact hby1;exact Z;exact hrm2;exact Z;exact Z)|(apply Zk Za;exact Z)|(apply Zh Za;exact Z)|(apply Zr Za;exact Z)|(apply Ze;(iterate 3 exact Z);(first|with_reducible assumption|decide +kernel|(solve|simp only[bn])))|(apply Zl;exact Z;(first|with_reducible assumption|decide +kernel|(solve|simp only[bn]));exact Z;exact Z)|(apply Zj;exact Z;(first|with_reducible assumption|decide +kernel|(solve|simp only[bn]));exact Z;exact Z)|(apply Zf;exact Z;(first|with_reducible assumption|decide +kernel|(solve|simp only[bn])))|(apply Zd;exact Z;(first|with_reducible assumption|decide +kernel|(solve|simp only[bn])))|refine Zo Za Z Z Z Z ?_|refine ZY Za Z Z Z Z Z Z Z Z Z Z Z Z ?_|(apply Zq 12 Z5;decide +kernel;kernel_rfl;kernel_rfl;kernel_rfl;exact Z;exact Z)|(apply Zq 20 Z5;decide +kernel;kernel_rfl;kernel_rfl;kernel_rfl;exact Z;exact Z)|(apply Zt;(iterate 4 exact Z))|exact AE.nil _ _ _ _|(apply Zz;exact Z)|(apply ZS;exact Z)|(apply ZG;exact Z;exact Z;decide +kernel;exact Z)|(apply ZH;exact Z)|(apply Ya;exact Z)|exact AO.nil _ _ _|(apply Zs;(decide +kernel))|(apply ZR;(iterate 3 exact Z))|exact AOs.nil|exact ZX rfl rfl|exact YY rfl rfl rfl rfl rfl|exact Yo rfl rfl|(apply Zv Za;(iterate 6 exact Z);(first|exact Qt|rotate_left);(first|with_reducible assumption|decide +kernel|exact Z);(first|exact Zg rfl|with_reducible assumption|decide +kernel|rotate_left))|refine Yq Za Z Z Z Z Z Z Z Z Z ?_)
 refine Z7 (fun f tm bx fr=>∃(j:Nat) (R:List UInt8),f+j=data.length/\R.length=data.length/\tm=[(0,.sl .ext (ops.map opE)),(3,.ptr 0 0),(4,.ptr 1 0),(5,.int .i64 (i:Int)),(7,.bool true),(8,.bsl 4 0 (data.map E.byte).length 0),(9,.int .i64 (j:Int))]/\bx=[[.bool true,.sl (.own 0) (((Zb M).map enE)++[enE (⟨who,data,need⟩:En)])],[.bsl 2 0 ((M.map reE).length+1) c],[.row (c*4) (flat (M.map reE++[reE ((⟨who,data,need⟩:En),false)]))],[.int .i64 kd,.int .i64 n,.int .i64 who,.sl .ext (data.map E.byte),.int .i64 need],[.row 0 (flat (R.map E.byte))]]/\fr=[⟨(Zb M).length+1,3,31⟩]) (data.length+1) (Lands.mk' (m:=data.length) (Nat.lt_succ_self _) ⟨0,data,rfl,rfl,rfl,rfl,rfl⟩ ?_ rfl rfl rfl rfl rfl rfl) ?_
 ·exact .cons rfl (.cons rfl (.cons rfl (.cons rfl (.cons rfl (.cons rfl (.cons rfl .nil))))))
 rintro f tm bx fr ⟨j,R,hf,hR,rfl,rfl,rfl⟩
 rcases Nat.lt_or_ge j data.length with hjl|hjg
 ·have hd3:decide ((j:Int)<((data.map E.byte).length:Int))=true:=decide_eq_true (by rw[hdl];omega)
  have hd4:(j:Int)<((data.map E.byte).length:Int):=of_decide_eq_true hd3
  obtain⟨y,hy⟩:∃ y,R[j]?=some y:=⟨_,List.getElem?_eq_getElem (by omega)⟩
  have he:(flat (R.map E.byte))[((j:Nat):Int).toNat*1]?=some (.int .u8 (y.toNat:Int)):=by rw[Yt,Int.toNat_natCast,Nat.mul_one,List.getElem?_map,hy];rfl
  have hle:((j:Nat):Int).toNat*1+1<=(flat (R.map E.byte)).length:=by rw[Yt,Int.toNat_natCast,List.length_map];omega
  have hst:Z2 (flat (R.map E.byte)) (((j:Nat):Int).toNat*1) [.int .u8 ((y ^^^ 255).toNat:Int)]=flat ((R.set j (y ^^^ 255)).map E.byte):=by
   rw[Int.toNat_natCast,Nat.mul_one]
   exact Z9 R (by omega) _
  have hx3:=Wd y
  have ek:IntKind.i64.wrap ((j:Int)+1)=((j+1:Nat):Int):=by rw[IntWalk.i64_in _ (by omega)];omega
  repeat'(first|refine Zx Za Z Z Z Z ?_|refine ZU Za Z Z Z Z Z Z (Int.natCast_nonneg _) hd4 Z ?_|refine ZI Za Z Z Z Z he Z Z ?_|rw[hx3]|refine Z6 Za Z Z Z Z Z Z hle hst Z ?_|rw[ek]|(apply Zk Za;exact Z)|(apply Zh Za;exact Z)|(apply Zr Za;exact Z)|(apply Zf;exact Z;(first|with_reducible assumption|decide +kernel|(solve|simp only[bn]))))
  refine Lands.mk' (m:=f-1) (by omega) ⟨j+1,R.set j (y ^^^ 255),by omega,by rw[List.length_set];exact hR,rfl,rfl,rfl⟩ ?_ rfl rfl rfl rfl rfl rfl
  exact .cons rfl (.cons rfl (.cons rfl (.cons rfl (.cons rfl (.cons rfl (.cons rfl .nil))))))
 ·have hd3:decide ((j:Int)<((data.map E.byte).length:Int))=false:=decide_eq_false (by rw[hdl];omega)
  repeat'(first|refine Zx Za Z Z Z Z ?_|rw[ei]|(apply Zc [0] [0] (hL1);kernel_rfl;(iterate 10 exact Z))|(apply Zi [1,2] (hL2 c);kernel_rfl;(iterate 7 exact Z))|(apply Zk Za;exact Z)|(apply Zh Za;exact Z)|(apply Zr Za;exact Z)|(apply Ze;(iterate 3 exact Z);(first|with_reducible assumption|decide +kernel|(solve|simp only[bn])))|(apply Zj;exact Z;(first|with_reducible assumption|decide +kernel|(solve|simp only[bn]));exact Z;exact Z)|(apply Zd;exact Z;(first|with_reducible assumption|decide +kernel|(solve|simp only[bn]))))
  refine LandS.mk' (m:=k-1) (tm1:=plT ops (i+1)) (bx:=[[.bool true,.sl (.own 0) (((Zb M).map enE)++[enE (⟨who,data,need⟩:En)])],[.bsl 2 0 ((M.map reE).length+1) c],[.row (c*4) (flat (M.map reE++[reE ((⟨who,data,need⟩:En),false)]))]]) (fr:=[⟨(Zb M).length+1,3,31⟩]) [0,1,2] [0] (by omega) ⟨i+1,(M++[((⟨who,data,need⟩:En),false)]),by omega,by simp;omega,by rw[Zp,List.length_append];simp;omega,rfl,.inr (.inr ⟨by simp,by rw[Zp];simp,c,by rw[List.length_append,<- hml];exact hrm2,by unfold reF;rw[Zp,List.map_append,List.map_append,List.length_append];first|rfl|(rw[hml];rfl),by rw[Zp,List.length_append];rfl⟩)⟩ rfl rfl rfl rfl ?_ rfl rfl rfl
  exact .cons rfl (.cons rfl (.cons rfl (.cons rfl .nil)))
set_option maxRecDepth 10000 in
theorem JM [Known](ops:List OpV)(M:List Ev)(i k c:Nat)(kd n who:Int)(data:List UInt8)(need:Int)(hk:k+i=150)(hlt:i<ops.length/\i<150)(hMi:M.length<=i)(h64:(Zb M).length<=64)(hx:ops[i]?=some ⟨kd,n,⟨who,data,need⟩⟩)(g:decide (((data.map E.byte).length:Int)>1100)=false)(hM:M ≠ [])(hL:Zb M ≠ [])(hc:M.length<=c)(hkd:kd=0)(hx0:data ≠ [])(hb:ZA ⟨who,data,need⟩=false)(h65:(Zb M).length<64)(hrm:c<M.length+1)(Q:X->St->Prop) :
  AW Try.prog (ZD (Try.f3.body.getD .skip)) ⟨205,plT ops i,[[.bool true,.sl (.own 0) ((Zb M).map enE)],[.bsl 2 0 M.length c],[.row (c*4) (reF M)]],[⟨(Zb M).length,3,31⟩],(([]:List (List D)).length,([]:List Fr).length)⟩ (X.then (LandS (PlJ ops) 205 (([]:List (List D)).length,([]:List Fr).length) k) Q):=by
 conv=>enter [3];whnf
 have hol:(ops.map opE).length=ops.length:=List.length_map ..
 have hUo:=ZP ops
 have hUd:=ZO data
 have hd1:decide ((i:Int)<((ops.map opE).length:Int))=true:=decide_eq_true (by rw[hol];omega)
 have hd2:decide ((i:Int)<150)=true:=decide_eq_true (by omega)
 have ei:IntKind.i64.wrap ((i:Int)+1)=((i+1:Nat):Int):=by rw[IntWalk.i64_in _ (by omega)];omega
 have hxe:(ops.map opE)[((i:Nat):Int).toNat]?=some (opE ⟨kd,n,⟨who,data,need⟩⟩):=by rw[Int.toNat_natCast,List.getElem?_map,hx];rfl
 replace hxe:(ops.map opE)[((i:Nat):Int).toNat]?=some (.agg [.int .i64 kd,.int .i64 n,.int .i64 who,.sl (data.map E.byte),.int .i64 need]):=hxe
 have q0:(kd==0)=true:=by rw[hkd];rfl
 have hdl:(data.map E.byte).length=data.length:=List.length_map ..
 have hd11:data.length<=1100:=by have:=of_decide_eq_false g;omega
 have hdn:data.map E.byte ≠ []:=fun e=>hx0 (List.map_eq_nil_iff.1 e)
 have hdm:(data.map E.byte).length<=maxLen:=by rw[hdl];unfold maxLen;omega
 have hdb:(data.map E.byte).length*1<=140737488355328:=by rw[hdl];omega
 have hqm:((Zb M).map enE).length=(Zb M).length:=List.length_map ..
 have hC:AT Try.prog 6 [.ptr 0 0,.agg [.int .i64 who,.bsl 1 0 (data.map E.byte).length 0,.int .i64 need]] [[.bool true,.sl (.own 0) ((Zb M).map enE)],[.row 0 (flat (data.map E.byte))]] (pqF ((Zb M).map enE).length) (.int .i64 0) [[.bool true,.sl (.own 0) (((Zb M).map enE)++[enE (⟨who,data,need⟩:En)])],[.row 0 (flat (data.map E.byte))]] (pqF (((Zb M).map enE).length+1)):=Qq who need data hx0 (by omega) ((Zb M).map enE) hb (by rw[hqm];exact h65) (WT _)
 rw[hqm]at hC
 unfold ZA at hb
 dsimp only at hb
 rw[<- hdl]at hb
 simp only[Bool.or_eq_false_iff]at hb
 obtain⟨t1,t2,t3,t4,t5⟩:=hb
 have hml:(M.map reE).length=M.length:=List.length_map ..
 have hUM:Uni 4 (M.map reE):=Uni.map (f:=reE) (fun _=>rfl) M
 have hMp:0<M.length:=List.length_pos_iff.2 hM
 have hc0:0<c:=by omega
 have hle1:(M.map reE).length+1<=maxLen:=by rw[hml];unfold maxLen;omega
 have hby1:((M.map reE).length+1)*40<=140737488355328:=by rw[hml];omega
 have hL0:=ZE M (by omega) (c*4) c
 have d6:decide ((((Zb M).length:Nat):Int) ≥ 64)=false:=decide_eq_false (by omega)
 have hL2:∀ c2:Nat,AQ Try.prog 14 [.ptr 0 0] [[.bsl 1 0 ((M.map reE).length+1) c2],[.row (c2*4) (flat (M.map reE++[reE ((⟨who,data,need⟩:En),false)]))]] (.int .i64 (((Zb M).length+1:Nat):Int)) [[.bsl 1 0 ((M.map reE).length+1) c2],[.row (c2*4) (flat (M.map reE++[reE ((⟨who,data,need⟩:En),false)]))]]:=fun c2=>by
  have h:=ZE (M++[((⟨who,data,need⟩:En),false)]) (by simp;omega) (c2*4) c2
  have e1:reF (M++[((⟨who,data,need⟩:En),false)])=flat (M.map reE++[reE ((⟨who,data,need⟩:En),false)]):=by unfold reF;rw[List.map_append];rfl
  rw[e1,Zp,List.length_append,List.length_append]at h
  rw[hml]
  exact h
 have hL1:=Yf (((Zb M).map enE)++[enE (⟨who,data,need⟩:En)]) ((Zb M).length+1)
 have hlm:(((((Zb M).map enE)++[enE (⟨who,data,need⟩:En)]).length:Nat):Int)=(((Zb M).length+1:Nat):Int):=by rw[List.length_append,hqm];rfl
 rw[hlm]at hL1
 have he1:((((Zb M).length+1:Nat):Int) != (((Zb M).length+1:Nat):Int))=false:=by simp
 have hrm2:c<(M.map reE).length+1:=by rw[hml];exact hrm
 repeat'(first|refine Ye Za Z Z Z Z Z Z ?_|(apply Z8 (m:=4) (t:=47) Za;(iterate 4 exact Z);exact(Src.sl rfl);exact Z;exact hUd;exact hdn;exact Z;exact hdm;exact hdb;(iterate 3 exact Z))|(apply YT 14 11 (fun c=>(M.map reE).length+1<=c) (c0:=(M.map reE).length+1) (Nat.le_refl _) Z5;decide +kernel;kernel_rfl;kernel_rfl;kernel_rfl;(iterate 8 exact Z))|(show WW _=true;exact Z)|(show nfl (ZT _ _ _)=some _;exact Z)|(apply V2 c2 hc2;(iterate 4 exact Z))|(refine W9 ?_;intro c2 hc2)|(apply Zc [0,4] [0] (hC);kernel_rfl;(iterate 10 exact Z))|(apply Zi [1,2] (hL0);kernel_rfl;(iterate 7 exact Z))|(apply Y4 Try.func7 Try.ntmps7;exact Z;exact Z;kernel_rfl;(iterate 6 exact Z))|(apply Y3;(apply Zm Za;exact Z);exact Z)|refine Yq Za Z Z Z Z Z Z Z Z Z ?_|(apply Wh (l:=M.map reE) Za;(iterate 4 exact Z);exact(Src.sl rfl);exact Z;exact hml;exact Z;exact hc0;exact hUM;exact Zg rfl;exact List.cons_ne_nil _ _;exact hle1;exact hby1;exact Z;exact hrm2;exact Z;exact(fun _=>rfl);exact Z;intro c2 hc2)|(apply Zk Za;exact Z)|(apply Zh Za;exact Z)|(apply Zr Za;exact Z)|(apply Ze;(iterate 3 exact Z);(first|with_reducible assumption|decide +kernel|(solve|simp only[bn])))|(apply Zl;exact Z;(first|with_reducible assumption|decide +kernel|(solve|simp only[bn]));exact Z;exact Z)|(apply Zj;exact Z;(first|with_reducible assumption|decide +kernel|(solve|simp only[bn]));exact Z;exact Z)|(apply Zf;exact Z;(first|with_reducible assumption|decide +kernel|(solve|simp only[bn])))|(apply Zd;exact Z;(first|with_reducible assumption|decide +kernel|(solve|simp only[bn])))|refine Zo Za Z Z Z Z ?_|refine ZY Za Z Z Z Z Z Z Z Z Z Z Z Z ?_|(apply Zq 20 Z5;decide +kernel;kernel_rfl;kernel_rfl;kernel_rfl;exact Z;exact Z)|(apply Zt;(iterate 4 exact Z))|exact AE.nil _ _ _ _|(apply Zz;exact Z)|(apply ZS;exact Z)|(apply ZG;exact Z;exact Z;decide +kernel;exact Z)|(apply ZH;exact Z)|(apply Ya;exact Z)|exact AO.nil _ _ _|(apply Zs;(decide +kernel))|(apply ZR;(iterate 3 exact Z))|exact AOs.nil|exact ZX rfl rfl|exact YY rfl rfl rfl rfl rfl|exact Yo rfl rfl|(apply Zv Za;(iterate 6 exact Z);(first|exact Qt|rotate_left);(first|with_reducible assumption|decide +kernel|exact Z);(first|exact Zg rfl|with_reducible assumption|decide +kernel|rotate_left))|refine Yq Za Z Z Z Z Z Z Z Z Z ?_)
 refine Z7 (fun f tm bx fr=>∃(j:Nat) (R:List UInt8),f+j=data.length/\R.length=data.length/\tm=[(0,.sl .ext (ops.map opE)),(3,.ptr 0 0),(4,.ptr 1 0),(5,.int .i64 (i:Int)),(7,.bool true),(8,.bsl 4 0 (data.map E.byte).length 0),(9,.int .i64 (j:Int))]/\bx=[[.bool true,.sl (.own 0) (((Zb M).map enE)++[enE (⟨who,data,need⟩:En)])],[.bsl 5 0 ((M.map reE).length+1) c2],[.row (c*4) (reF M)],[.int .i64 kd,.int .i64 n,.int .i64 who,.sl .ext (data.map E.byte),.int .i64 need],[.row 0 (flat (R.map E.byte))],[.row (c2*4) (flat (M.map reE++[reE ((⟨who,data,need⟩:En),false)]))]]/\fr=[⟨(Zb M).length+1,3,31⟩]) (data.length+1) (Lands.mk' (m:=data.length) (Nat.lt_succ_self _) ⟨0,data,rfl,rfl,rfl,rfl,rfl⟩ ?_ rfl rfl rfl rfl rfl rfl) ?_
 ·exact .cons rfl (.cons rfl (.cons rfl (.cons rfl (.cons rfl (.cons rfl (.cons rfl .nil))))))
 rintro f tm bx fr ⟨j,R,hf,hR,rfl,rfl,rfl⟩
 rcases Nat.lt_or_ge j data.length with hjl|hjg
 ·have hd3:decide ((j:Int)<((data.map E.byte).length:Int))=true:=decide_eq_true (by rw[hdl];omega)
  have hd4:(j:Int)<((data.map E.byte).length:Int):=of_decide_eq_true hd3
  obtain⟨y,hy⟩:∃ y,R[j]?=some y:=⟨_,List.getElem?_eq_getElem (by omega)⟩
  have he:(flat (R.map E.byte))[((j:Nat):Int).toNat*1]?=some (.int .u8 (y.toNat:Int)):=by rw[Yt,Int.toNat_natCast,Nat.mul_one,List.getElem?_map,hy];rfl
  have hle:((j:Nat):Int).toNat*1+1<=(flat (R.map E.byte)).length:=by rw[Yt,Int.toNat_natCast,List.length_map];omega
  have hst:Z2 (flat (R.map E.byte)) (((j:Nat):Int).toNat*1) [.int .u8 ((y ^^^ 255).toNat:Int)]=flat ((R.set j (y ^^^ 255)).map E.byte):=by
   rw[Int.toNat_natCast,Nat.mul_one]
   exact Z9 R (by omega) _
  have hx3:=Wd y
  have ek:IntKind.i64.wrap ((j:Int)+1)=((j+1:Nat):Int):=by rw[IntWalk.i64_in _ (by omega)];omega
  repeat'(first|refine Zx Za Z Z Z Z ?_|refine ZU Za Z Z Z Z Z Z (Int.natCast_nonneg _) hd4 Z ?_|refine ZI Za Z Z Z Z he Z Z ?_|rw[hx3]|refine Z6 Za Z Z Z Z Z Z hle hst Z ?_|rw[ek]|(apply Zk Za;exact Z)|(apply Zh Za;exact Z)|(apply Zr Za;exact Z)|(apply Zf;exact Z;(first|with_reducible assumption|decide +kernel|(solve|simp only[bn]))))
  refine Lands.mk' (m:=f-1) (by omega) ⟨j+1,R.set j (y ^^^ 255),by omega,by rw[List.length_set];exact hR,rfl,rfl,rfl⟩ ?_ rfl rfl rfl rfl rfl rfl
  exact .cons rfl (.cons rfl (.cons rfl (.cons rfl (.cons rfl (.cons rfl (.cons rfl .nil))))))
 ·have hd3:decide ((j:Int)<((data.map E.byte).length:Int))=false:=decide_eq_false (by rw[hdl];omega)
  repeat'(first|refine Zx Za Z Z Z Z ?_|rw[ei]|(apply Zc [0] [0] (hL1);kernel_rfl;(iterate 10 exact Z))|(apply Zi [1,5] (hL2 c2);kernel_rfl;(iterate 7 exact Z))|(apply Zk Za;exact Z)|(apply Zh Za;exact Z)|(apply Zr Za;exact Z)|(apply Ze;(iterate 3 exact Z);(first|with_reducible assumption|decide +kernel|(solve|simp only[bn])))|(apply Zj;exact Z;(first|with_reducible assumption|decide +kernel|(solve|simp only[bn]));exact Z;exact Z)|(apply Zd;exact Z;(first|with_reducible assumption|decide +kernel|(solve|simp only[bn]))))
  refine LandS.mk' (m:=k-1) (tm1:=plT ops (i+1)) (bx:=[[.bool true,.sl (.own 0) (((Zb M).map enE)++[enE (⟨who,data,need⟩:En)])],[.bsl 2 0 ((M.map reE).length+1) c2],[.row (c2*4) (flat (M.map reE++[reE ((⟨who,data,need⟩:En),false)]))]]) (fr:=[⟨(Zb M).length+1,3,31⟩]) [0,1,5] [0] (by omega) ⟨i+1,(M++[((⟨who,data,need⟩:En),false)]),by omega,by simp;omega,by rw[Zp,List.length_append];simp;omega,rfl,.inr (.inr ⟨by simp,by rw[Zp];simp,c2,by rw[List.length_append,<- hml];exact hc2,by unfold reF;rw[Zp,List.map_append,List.map_append,List.length_append];first|rfl|(rw[hml];rfl),by rw[Zp,List.length_append];rfl⟩)⟩ rfl rfl rfl rfl ?_ rfl rfl rfl
  exact .cons rfl (.cons rfl (.cons rfl (.cons rfl .nil)))
end Go.Proofs.Ytchlgagdbflkmaa
end
