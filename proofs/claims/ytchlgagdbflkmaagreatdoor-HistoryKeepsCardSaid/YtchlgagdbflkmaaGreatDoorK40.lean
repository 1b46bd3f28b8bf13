/- HistoryKeeps: what stands behind the switch of a round (hsgen4.py). -/
import Derived.Test.YtchlgagdbflkmaaGreatDoorK39
set_option linter.unusedVariables false
set_option linter.unusedSimpArgs false
section
open Go.RowKit Go.Pl Go.Av
namespace Go.Proofs.YtchlgagdbflkmaaGreatDoor
set_option maxHeartbeats 4000000
set_option maxRecDepth 10000 in
theorem MY [Known](ops:List OpH)(i:Nat)(Q:X->St->Prop)(hq:∀ S,LandS (fun _ tm bx fr=>tm=hkT ops i (.sl .nil [])/\bx=hsN/\fr=[]) 146 (([]:List (List D)).length,([]:List Fr).length) 1 S->Q .norm S) :
  AW Tryz.prog (Io 2 (Ya (Tryz.f4.body.getD .skip))) ⟨146,hkT ops i (.sl .nil []),hsN,[],(([]:List (List D)).length,([]:List Fr).length)⟩ Q:=by
 conv=>enter [3];whnf
 repeat'(first|(apply Zx [0] [] (LZ);kernel_rfl;(iterate 10 exact Z))|(apply Zx [0] [] (MQ);kernel_rfl;(iterate 10 exact Z))|refine Ws 2 ?_|refine W0 ?_|(apply Zg Za;exact Z)|(apply Zh Za;exact Z)|(apply Zs Za;exact Z)|(apply Zf;exact Z;(first|with_reducible assumption|decide +kernel|(solve|simp only[bn])))|refine Zn Za Z Z Z Z ?_)
 all_goals
  refine hq _ (LandS.mk' (m:=0) (tm1:=hkT ops i (.sl .nil [])) [0] [] (by decide) ⟨rfl,rfl,rfl⟩ rfl rfl rfl rfl ?_ rfl rfl rfl)
  exact .cons rfl (.cons rfl (.cons rfl (.cons rfl .nil)))
set_option maxRecDepth 10000 in
theorem MZ [Known](ops:List OpH)(i:Nat)(L:List Ln)(s c d:Nat)(hO:WU L s)(hl:L.length<=1000)(Q:X->St->Prop)(hq:∀ S,LandS (fun _ tm bx fr=>tm=hkT ops i (.bsl 2 0 L.length d)/\bx=hkB L s c d/\fr=[]) 146 (([]:List (List D)).length,([]:List Fr).length) 1 S->Q .norm S) :
  AW Tryz.prog (Io 2 (Ya (Tryz.f4.body.getD .skip))) ⟨146,hkT ops i (.bsl 2 0 L.length d),hkB L s c d,[],(([]:List (List D)).length,([]:List Fr).length)⟩ Q:=by
 conv=>enter [3];whnf
 have hA:=L0 L s c hl hO.2.1
 have hK:=GB L s c hl hO.2.1
 have hml:(L.map lnE).length=L.length:=List.length_map ..
 have hkl:((ZM L).map lnE).length=(ZM L).length:=List.length_map ..
 have hUL:=Gt L
 have e1:((((L.map lnE).length:Nat):Int) != (L.length:Int))=false:=by rw[hml];simp
 repeat'(first|(apply ZC [0,1] (hA);kernel_rfl;(iterate 7 exact Z))|refine YR Za Z Z Z Z ?_|(apply Zg Za;exact Z)|(apply Zh Za;exact Z)|(apply Zs Za;exact Z)|(apply Zf;exact Z;(first|with_reducible assumption|decide +kernel|(solve|simp only[bn])))|refine Zn Za Z Z Z Z ?_)
 refine Gx (fun k tm bx fr=>∃ j:Nat,k+j=L.length/\tm=[(0,.sl .ext (ops.map ohE)),(3,.ptr 0 0),(4,.bsl 2 0 L.length d),(5,.int .i64 (i:Int)),(9,.sl .ext (L.map lnE)),(10,.int .i64 (((ZM (L.take j)).length:Nat):Int)),(11,.int .i64 (j:Int))]/\bx=hkB L s c d/\fr=[]) (L.length+1) (LandS.mk' (m:=L.length) (tm1:=[(0,.sl .ext (ops.map ohE)),(3,.ptr 0 0),(4,.bsl 2 0 L.length d),(5,.int .i64 (i:Int)),(9,.sl .ext (L.map lnE)),(10,.int .i64 (((ZM (L.take 0)).length:Nat):Int)),(11,.int .i64 ((0:Nat):Int))]) [0,1,2] [] (Nat.lt_succ_self _) ⟨0,rfl,rfl,rfl,rfl⟩ rfl rfl rfl rfl ?_ rfl rfl rfl) ?_
 ·exact .cons rfl (.cons rfl (.cons rfl (.cons rfl (.cons rfl (.cons rfl (.cons rfl .nil))))))
 rintro k tm bx fr ⟨j,hkj,rfl,rfl,rfl⟩
 rcases Nat.lt_or_ge j L.length with hlt|hge
 ·have hd:decide ((j:Int)<(((L.map lnE).length:Nat):Int))=true:=decide_eq_true (by rw[hml];omega)
  have hlt2:(j:Int)<((L.length:Nat):Int):=by omega
  obtain⟨x,hx⟩:∃ x,L[j]?=some x:=⟨_,List.getElem?_eq_getElem hlt⟩
  have ei:IntKind.i64.wrap ((j:Int)+1)=((j+1:Nat):Int):=by rw[IntWalk.i64_in _ (by omega)];omega
  have hkt:(ZM (L.take j)).length<=1000:=by have:=Ww (L.take j);rw[List.length_take]at this;omega
  have ek:IntKind.i64.wrap ((((ZM (L.take j)).length:Nat):Int)+1)=(((ZM (L.take j)).length+1:Nat):Int):=by rw[IntWalk.i64_in _ (by omega)];omega
  have hT:=WD hx
  have g0:(tdF L)[((j:Nat):Int).toNat*1]?=some (.bool x.told):=by rw[Int.toNat_natCast];exact Hy hx
  have hxe:(L.map lnE)[((j:Nat):Int).toNat]?=some (.agg [.int .u64 (x.e.now:Int),.int .i64 x.e.kd,.int .u64 (x.e.tok:Int),.int .i64 x.e.ses,.int .u64 (x.e.rq.id:Int),.int .i64 x.e.rq.kd,.bool x.e.rq.ep.i,.int .u64 (x.e.rq.ep.n:Int),.int .u64 (x.e.rq.ep.s:Int),.str x.e.rq.ep.h,.str x.e.rq.ep.d,.bool x.e.rq.ds.i,.int .u64 (x.e.rq.ds.n:Int),.int .u64 (x.e.rq.ds.s:Int),.str x.e.rq.ds.h,.str x.e.rq.ds.d,.int .i64 x.e.rq.pol,.int .i64 x.e.rq.num,.int .i64 x.e.rq.tik,.sl (x.e.rq.pay.map E.byte),.int .u64 (x.e.rq.life:Int),.int .u64 (x.e.rq.tok:Int),.bool x.e.rq.on,.sl (x.e.data.map E.byte),.int .u64 (x.r.id:Int),.int .i64 x.r.err,.int .i64 x.r.num,.int .i64 x.r.cnt,.int .u64 (x.r.tok:Int),.sl (x.r.data.map E.byte),.bool x.told,.bool x.lost]):=by rw[Int.toNat_natCast,List.getElem?_map,hx];rfl
  have hN:=hO.2.2 j x hx
  cases ht:x.told<;>cases hlo:x.lost
  all_goals
   rw[ht]at g0 hxe
   rw[hlo]at hxe hT
  rotate_left
  rotate_left
  rotate_left
  ·rw[hlo]at hN
   exact absurd (hN ht).1 (by decide)
  all_goals
   repeat'(first|refine YK Za Z Z Z Z Z Z (Int.natCast_nonneg _) hlt2 Z ?_|refine VK Za Z Z Z Z g0 Z Z ?_|rw[ei]|rw[ek]|(apply Zg Za;exact Z)|(apply Zh Za;exact Z)|(apply Zs Za;exact Z)|(apply Zd;(iterate 3 exact Z);(first|with_reducible assumption|decide +kernel|(solve|simp only[bn])))|(apply Zr;(iterate 3 exact Z);(first|with_reducible assumption|decide +kernel|(solve|simp only[bn])))|(apply Zj;exact Z;(first|with_reducible assumption|decide +kernel|(solve|simp only[bn]));exact Z;exact Z)|(apply Zi;exact Z;(first|with_reducible assumption|decide +kernel|(solve|simp only[bn]));exact Z;exact Z)|(apply Ze;exact Z;(first|with_reducible assumption|decide +kernel|(solve|simp only[bn])))|(apply Zf;exact Z;(first|with_reducible assumption|decide +kernel|(solve|simp only[bn])))|refine Zn Za Z Z Z Z ?_|(apply Zm 18 ZG;decide +kernel;kernel_rfl;kernel_rfl;kernel_rfl;exact Z;exact Z)|(apply Zq;(iterate 4 exact Z))|exact AE.nil _ _ _ _|(apply Zv;exact Z)|(apply ZA;exact Z;exact Z;decide +kernel;exact Z)|(apply ZB;exact Z)|exact AO.nil _ _ _|(apply Zp;(decide +kernel))|exact AOs.nil|exact ZJ rfl rfl|(apply Zw Za;(iterate 6 exact Z);(first|exact Qt|rotate_left);(first|with_reducible assumption|decide +kernel|exact Z);(first|exact Zk rfl|with_reducible assumption|decide +kernel|rotate_left)))
   refine LandS.mk' (m:=k-1) (tm1:=[(0,.sl .ext (ops.map ohE)),(3,.ptr 0 0),(4,.bsl 2 0 L.length d),(5,.int .i64 (i:Int)),(9,.sl .ext (L.map lnE)),(10,.int .i64 (((ZM (L.take (j+1))).length:Nat):Int)),(11,.int .i64 ((j+1:Nat):Int))]) [0,1,2] [] (by omega) ⟨j+1,by omega,rfl,rfl,rfl⟩ rfl rfl rfl rfl ?_ rfl rfl rfl
   exact .cons rfl (.cons rfl (.cons rfl (.cons rfl (.cons rfl (.cons (by first|(rw[hT,List.length_append];rfl)|(rw[hT,List.append_nil];rfl)) (.cons rfl .nil))))))
 ·have hd:decide ((j:Int)<(((L.map lnE).length:Nat):Int))=false:=decide_eq_false (by rw[hml];omega)
  obtain rfl:j=L.length:=by omega
  have e2:(((((ZM L).map lnE).length:Nat):Int) != (((ZM (L.take L.length)).length:Nat):Int))=false:=by rw[hkl,List.take_length];simp
  repeat'(first|(apply ZC [0,1] (hK);kernel_rfl;(iterate 7 exact Z))|(apply Zg Za;exact Z)|(apply Zh Za;exact Z)|(apply Zs Za;exact Z)|(apply Zf;exact Z;(first|with_reducible assumption|decide +kernel|(solve|simp only[bn])))|refine Zn Za Z Z Z Z ?_)
  all_goals
   refine hq _ (LandS.mk' (m:=0) (tm1:=hkT ops i (.bsl 2 0 L.length d)) [0,1,2] [] (by decide) ⟨rfl,rfl,rfl⟩ rfl rfl rfl rfl ?_ rfl rfl rfl)
   exact .cons rfl (.cons rfl (.cons rfl (.cons rfl .nil)))
theorem L9 [Known](ops:List OpH)(i k:Nat)(hk:k+i=80)(hlt:i<ops.length/\i<80)  (Q:X->St->Prop)(S:St)(hS:LandS (fun _ tm bx fr=>tm=hkT ops i (.sl .nil [])/\bx=hsN/\fr=[]) 146 (([]:List (List D)).length,([]:List Fr).length) 1 S) :
  AW Tryz.prog (Io 1 (Ya (Tryz.f4.body.getD .skip))) S (X.then (LandS (HkJ ops) 146 (([]:List (List D)).length,([]:List Fr).length) k) Q):=by
 refine UU hS ?_
 rintro m tm bx fr ⟨rfl,rfl,rfl⟩
 conv=>enter [3];whnf
 have ei:IntKind.i64.wrap ((i:Int)+1)=((i+1:Nat):Int):=by rw[IntWalk.i64_in _ (by omega)];omega
 repeat'(first|rw[ei]|(apply Zh Za;exact Z)|refine ZD ?_)
 refine LandS.mk' (m:=k-1) (tm1:=hkT ops (i+1) (.sl .nil [])) [0] [] (by omega) ⟨i+1,[],0,_,by omega,Nat.zero_le _,⟨Nat.le_refl _,fun x hx=>(by cases hx),fun j x hx=>(by simp at hx)⟩,rfl,.inl ⟨rfl,rfl,rfl,rfl,rfl⟩⟩ rfl rfl rfl rfl ?_ rfl rfl rfl
 exact .cons rfl (.cons rfl (.cons rfl (.cons rfl .nil)))
theorem Ra [Known](ops:List OpH)(i k:Nat)(hk:k+i=80)(hlt:i<ops.length/\i<80)(L:List Ln)(s c d:Nat)(hO:WU L s)(hL:L ≠ [])(hLi:L.length<=i+1)(hc:L.length<=c)(hd:L.length<=d)(Q:X->St->Prop)(S:St)(hS:LandS (fun _ tm bx fr=>tm=hkT ops i (.bsl 2 0 L.length d)/\bx=hkB L s c d/\fr=[]) 146 (([]:List (List D)).length,([]:List Fr).length) 1 S) :
  AW Tryz.prog (Io 1 (Ya (Tryz.f4.body.getD .skip))) S (X.then (LandS (HkJ ops) 146 (([]:List (List D)).length,([]:List Fr).length) k) Q):=by
 refine UU hS ?_
 rintro m tm bx fr ⟨rfl,rfl,rfl⟩
 conv=>enter [3];whnf
 have ei:IntKind.i64.wrap ((i:Int)+1)=((i+1:Nat):Int):=by rw[IntWalk.i64_in _ (by omega)];omega
 repeat'(first|rw[ei]|(apply Zh Za;exact Z)|refine ZD ?_)
 refine LandS.mk' (m:=k-1) (tm1:=hkT ops (i+1) (.bsl 2 0 L.length d)) [0,1,2] [] (by omega) ⟨i+1,L,s,_,by omega,hLi,hO,rfl,.inr ⟨hL,c,d,hc,hd,rfl,rfl,rfl⟩⟩ rfl rfl rfl rfl ?_ rfl rfl rfl
 exact .cons rfl (.cons rfl (.cons rfl (.cons rfl .nil)))
theorem BM [Known](ops:List OpH)(i k:Nat)(hk:k+i=80)(hlt:i<ops.length/\i<80)(Q:X->St->Prop)(tm:List (Nat × D))(bx:List (List D))(fr:List Fr)(h:HkM ops i tm bx fr) :
  AW Tryz.prog (Io 2 (Ya (Tryz.f4.body.getD .skip))) ⟨146,tm,bx,fr,(([]:List (List D)).length,([]:List Fr).length)⟩ (X.inBlock 1 (X.then (fun S=>AW Tryz.prog (Io 1 (Ya (Tryz.f4.body.getD .skip))) S (X.then (LandS (HkJ ops) 146 (([]:List (List D)).length,([]:List Fr).length) k) Q)) (X.then (LandS (HkJ ops) 146 (([]:List (List D)).length,([]:List Fr).length) k) Q))):=by
 obtain⟨L,s,td,hLi,hO,rfl,hS⟩:=h
 rcases hS with⟨rfl,rfl,rfl,rfl,rfl⟩ | ⟨hL,c,d,hc,hd,rfl,rfl,rfl⟩
 ·exact MY ops i _ fun S hS=>Wp (ZD (L9 ops i k hk hlt Q S hS))
 ·exact MZ ops i L s c d hO (by omega) _ fun S hS=>Wp (ZD (Ra ops i k hk hlt L s c d hO hL hLi hc hd Q S hS))
set_option maxRecDepth 10000 in
theorem VH [Known](ops:List OpH)(i k:Nat)(hk:k+i=80)(hlt:i<ops.length/\i<80)(kd:Int)(x:EvV)(r:RyV)(g1:Z2 x=false)(g2:decide (((r.data.map E.byte).length:Int)>1000)=false)(n:Int)(hx:ops[i]?=some ⟨kd,n,x,r⟩)(Q:X->St->Prop)(hw:∀ Q2,AW Tryz.prog (atB 2 (Ya (Tryz.f4.body.getD .skip))) ⟨146,[(0,.sl .ext (ops.map ohE)),(3,.ptr 0 0),(4,.sl .nil []),(5,.int .i64 (i:Int)),(6,.ptr 1 0)],hsN++[[.int .i64 kd,.int .i64 n,.int .u64 (x.now:Int),.int .i64 x.kd,.int .u64 (x.tok:Int),.int .i64 x.ses,.int .u64 (x.rq.id:Int),.int .i64 x.rq.kd,.bool x.rq.ep.i,.int .u64 (x.rq.ep.n:Int),.int .u64 (x.rq.ep.s:Int),.str x.rq.ep.h,.str x.rq.ep.d,.bool x.rq.ds.i,.int .u64 (x.rq.ds.n:Int),.int .u64 (x.rq.ds.s:Int),.str x.rq.ds.h,.str x.rq.ds.d,.int .i64 x.rq.pol,.int .i64 x.rq.num,.int .i64 x.rq.tik,byE x.rq.pay,.int .u64 (x.rq.life:Int),.int .u64 (x.rq.tok:Int),.bool x.rq.on,byE x.data,.int .u64 (r.id:Int),.int .i64 r.err,.int .i64 r.num,.int .i64 r.cnt,.int .u64 (r.tok:Int),byE r.data]],[],(([]:List (List D)).length,([]:List Fr).length)⟩ (X.then (LandS (fun _=>HkM ops i) 146 (([]:List (List D)).length,([]:List Fr).length) 1) Q2)) :
  AW Tryz.prog (Ya (Tryz.f4.body.getD .skip)) ⟨146,hkT ops i (.sl .nil []),hsN,[],(([]:List (List D)).length,([]:List Fr).length)⟩ (X.then (LandS (HkJ ops) 146 (([]:List (List D)).length,([]:List Fr).length) k) Q):=by
 conv=>enter [3];whnf
 have hol:(ops.map ohE).length=ops.length:=List.length_map ..
 have hUo:=GD ops
 have hd1:decide ((i:Int)<((ops.map ohE).length:Int))=true:=decide_eq_true (by rw[hol];omega)
 have hd2:decide ((i:Int)<80)=true:=decide_eq_true (by omega)
 have hxe:(ops.map ohE)[((i:Nat):Int).toNat]?=some (ohE ⟨kd,n,x,r⟩):=by rw[Int.toNat_natCast,List.getElem?_map,hx];rfl
 replace hxe:(ops.map ohE)[((i:Nat):Int).toNat]?=some (.agg [.int .i64 kd,.int .i64 n,.int .u64 (x.now:Int),.int .i64 x.kd,.int .u64 (x.tok:Int),.int .i64 x.ses,.int .u64 (x.rq.id:Int),.int .i64 x.rq.kd,.bool x.rq.ep.i,.int .u64 (x.rq.ep.n:Int),.int .u64 (x.rq.ep.s:Int),.str x.rq.ep.h,.str x.rq.ep.d,.bool x.rq.ds.i,.int .u64 (x.rq.ds.n:Int),.int .u64 (x.rq.ds.s:Int),.str x.rq.ds.h,.str x.rq.ds.d,.int .i64 x.rq.pol,.int .i64 x.rq.num,.int .i64 x.rq.tik,.sl (x.rq.pay.map E.byte),.int .u64 (x.rq.life:Int),.int .u64 (x.rq.tok:Int),.bool x.rq.on,.sl (x.data.map E.byte),.int .u64 (r.id:Int),.int .i64 r.err,.int .i64 r.num,.int .i64 r.cnt,.int .u64 (r.tok:Int),.sl (r.data.map E.byte)]):=hxe
 have hG:=UT x
 rw[g1]at hG
 replace hG:AP Tryz.prog 27 [.agg [.int .u64 (x.now:Int),.int .i64 x.kd,.int .u64 (x.tok:Int),.int .i64 x.ses,.int .u64 (x.rq.id:Int),.int .i64 x.rq.kd,.bool x.rq.ep.i,.int .u64 (x.rq.ep.n:Int),.int .u64 (x.rq.ep.s:Int),.str x.rq.ep.h,.str x.rq.ep.d,.bool x.rq.ds.i,.int .u64 (x.rq.ds.n:Int),.int .u64 (x.rq.ds.s:Int),.str x.rq.ds.h,.str x.rq.ds.d,.int .i64 x.rq.pol,.int .i64 x.rq.num,.int .i64 x.rq.tik,byE x.rq.pay,.int .u64 (x.rq.life:Int),.int .u64 (x.rq.tok:Int),.bool x.rq.on,byE x.data]] (.bool false) []:=hG
 repeat'(first|(refine GC 2 (HkM ops i) (fun tm bx fr=>tm=[(0,.sl .ext (ops.map ohE)),(3,.ptr 0 0),(4,.sl .nil []),(5,.int .i64 (i:Int)),(6,.ptr 1 0)]/\bx=hsN++[[.int .i64 kd,.int .i64 n,.int .u64 (x.now:Int),.int .i64 x.kd,.int .u64 (x.tok:Int),.int .i64 x.ses,.int .u64 (x.rq.id:Int),.int .i64 x.rq.kd,.bool x.rq.ep.i,.int .u64 (x.rq.ep.n:Int),.int .u64 (x.rq.ep.s:Int),.str x.rq.ep.h,.str x.rq.ep.d,.bool x.rq.ds.i,.int .u64 (x.rq.ds.n:Int),.int .u64 (x.rq.ds.s:Int),.str x.rq.ds.h,.str x.rq.ds.d,.int .i64 x.rq.pol,.int .i64 x.rq.num,.int .i64 x.rq.tik,byE x.rq.pay,.int .u64 (x.rq.life:Int),.int .u64 (x.rq.tok:Int),.bool x.rq.on,byE x.data,.int .u64 (r.id:Int),.int .i64 r.err,.int .i64 r.num,.int .i64 r.cnt,.int .u64 (r.tok:Int),byE r.data]]/\fr=[]) (BM ops i k hk hlt Q) (by rintro tm bx fr ⟨rfl,rfl,rfl⟩;exact hw _) ?_)|(apply Zb (hG);kernel_rfl;(iterate 4 exact Z))|refine OV Z Z ?_|refine GG Z Z Z Z Z ?_|refine XT Za Z Z Z Z Z Z ?_|refine XU Za Z Z Z Z Z Z Z ?_|refine YU Za Z Z Z Z Z Z Z ?_|refine XV Za Z Z Z Z Z Z Z Z ?_|refine XR ?_|(apply Zd;(iterate 3 exact Z);(first|with_reducible assumption|decide +kernel|(solve|simp only[bn])))|(apply Zj;exact Z;(first|with_reducible assumption|decide +kernel|(solve|simp only[bn]));exact Z;exact Z)|(apply Zi;exact Z;(first|with_reducible assumption|decide +kernel|(solve|simp only[bn]));exact Z;exact Z)|refine Qx ?_|refine Xt ?_|(apply Ze;exact Z;(first|with_reducible assumption|decide +kernel|(solve|simp only[bn])))|(apply Zf;exact Z;(first|with_reducible assumption|decide +kernel|(solve|simp only[bn])))|refine XP ?_|refine Zn Za Z Z Z Z ?_|refine JM Za Z Z Z Z Z Z ?_|refine JR Za Z Z Z Z ?_|refine OS ?_|(apply Zw Za;(iterate 6 exact Z);(first|exact Qt|rotate_left);(first|with_reducible assumption|decide +kernel|exact Z);(first|exact Zk rfl|with_reducible assumption|decide +kernel|rotate_left)))
 refine LandS.mk' (m:=0) (tm1:=[(0,.sl .ext (ops.map ohE)),(3,.ptr 0 0),(4,.sl .nil []),(5,.int .i64 (i:Int)),(6,.ptr 1 0)]) [0,1] [] (by decide) ⟨rfl,rfl,rfl⟩ rfl rfl rfl rfl ?_ rfl rfl rfl
 exact .cons rfl (.cons rfl (.cons rfl (.cons rfl (.cons rfl .nil))))
set_option maxRecDepth 10000 in
theorem Wb [Known](ops:List OpH)(i k:Nat)(hk:k+i=80)(hlt:i<ops.length/\i<80)(kd:Int)(x:EvV)(r:RyV)(g1:Z2 x=false)(g2:decide (((r.data.map E.byte).length:Int)>1000)=false)(n:Int)(L:List Ln)(s c d:Nat)(hL:L ≠ [])(hLi:L.length<=i)(hO:WU L s)(hc:L.length<=c)(hd:L.length<=d)(hx:ops[i]?=some ⟨kd,n,x,r⟩)(Q:X->St->Prop)(hw:∀ Q2,AW Tryz.prog (atB 2 (Ya (Tryz.f4.body.getD .skip))) ⟨146,[(0,.sl .ext (ops.map ohE)),(3,.ptr 0 0),(4,.bsl 2 0 L.length d),(5,.int .i64 (i:Int)),(6,.ptr 3 0)],hkB L s c d++[[.int .i64 kd,.int .i64 n,.int .u64 (x.now:Int),.int .i64 x.kd,.int .u64 (x.tok:Int),.int .i64 x.ses,.int .u64 (x.rq.id:Int),.int .i64 x.rq.kd,.bool x.rq.ep.i,.int .u64 (x.rq.ep.n:Int),.int .u64 (x.rq.ep.s:Int),.str x.rq.ep.h,.str x.rq.ep.d,.bool x.rq.ds.i,.int .u64 (x.rq.ds.n:Int),.int .u64 (x.rq.ds.s:Int),.str x.rq.ds.h,.str x.rq.ds.d,.int .i64 x.rq.pol,.int .i64 x.rq.num,.int .i64 x.rq.tik,byE x.rq.pay,.int .u64 (x.rq.life:Int),.int .u64 (x.rq.tok:Int),.bool x.rq.on,byE x.data,.int .u64 (r.id:Int),.int .i64 r.err,.int .i64 r.num,.int .i64 r.cnt,.int .u64 (r.tok:Int),byE r.data]],[],(([]:List (List D)).length,([]:List Fr).length)⟩ (X.then (LandS (fun _=>HkM ops i) 146 (([]:List (List D)).length,([]:List Fr).length) 1) Q2)) :
  AW Tryz.prog (Ya (Tryz.f4.body.getD .skip)) ⟨146,hkT ops i (.bsl 2 0 L.length d),hkB L s c d,[],(([]:List (List D)).length,([]:List Fr).length)⟩ (X.then (LandS (HkJ ops) 146 (([]:List (List D)).length,([]:List Fr).length) k) Q):=by
 conv=>enter [3];whnf
 have hol:(ops.map ohE).length=ops.length:=List.length_map ..
 have hUo:=GD ops
 have hd1:decide ((i:Int)<((ops.map ohE).length:Int))=true:=decide_eq_true (by rw[hol];omega)
 have hd2:decide ((i:Int)<80)=true:=decide_eq_true (by omega)
 have hxe:(ops.map ohE)[((i:Nat):Int).toNat]?=some (ohE ⟨kd,n,x,r⟩):=by rw[Int.toNat_natCast,List.getElem?_map,hx];rfl
 replace hxe:(ops.map ohE)[((i:Nat):Int).toNat]?=some (.agg [.int .i64 kd,.int .i64 n,.int .u64 (x.now:Int),.int .i64 x.kd,.int .u64 (x.tok:Int),.int .i64 x.ses,.int .u64 (x.rq.id:Int),.int .i64 x.rq.kd,.bool x.rq.ep.i,.int .u64 (x.rq.ep.n:Int),.int .u64 (x.rq.ep.s:Int),.str x.rq.ep.h,.str x.rq.ep.d,.bool x.rq.ds.i,.int .u64 (x.rq.ds.n:Int),.int .u64 (x.rq.ds.s:Int),.str x.rq.ds.h,.str x.rq.ds.d,.int .i64 x.rq.pol,.int .i64 x.rq.num,.int .i64 x.rq.tik,.sl (x.rq.pay.map E.byte),.int .u64 (x.rq.life:Int),.int .u64 (x.rq.tok:Int),.bool x.rq.on,.sl (x.data.map E.byte),.int .u64 (r.id:Int),.int .i64 r.err,.int .i64 r.num,.int .i64 r.cnt,.int .u64 (r.tok:Int),.sl (r.data.map E.byte)]):=hxe
 have hG:=UT x
 rw[g1]at hG
 replace hG:AP Tryz.prog 27 [.agg [.int .u64 (x.now:Int),.int .i64 x.kd,.int .u64 (x.tok:Int),.int .i64 x.ses,.int .u64 (x.rq.id:Int),.int .i64 x.rq.kd,.bool x.rq.ep.i,.int .u64 (x.rq.ep.n:Int),.int .u64 (x.rq.ep.s:Int),.str x.rq.ep.h,.str x.rq.ep.d,.bool x.rq.ds.i,.int .u64 (x.rq.ds.n:Int),.int .u64 (x.rq.ds.s:Int),.str x.rq.ds.h,.str x.rq.ds.d,.int .i64 x.rq.pol,.int .i64 x.rq.num,.int .i64 x.rq.tik,byE x.rq.pay,.int .u64 (x.rq.life:Int),.int .u64 (x.rq.tok:Int),.bool x.rq.on,byE x.data]] (.bool false) []:=hG
 repeat'(first|(refine GC 2 (HkM ops i) (fun tm bx fr=>tm=[(0,.sl .ext (ops.map ohE)),(3,.ptr 0 0),(4,.bsl 2 0 L.length d),(5,.int .i64 (i:Int)),(6,.ptr 3 0)]/\bx=hkB L s c d++[[.int .i64 kd,.int .i64 n,.int .u64 (x.now:Int),.int .i64 x.kd,.int .u64 (x.tok:Int),.int .i64 x.ses,.int .u64 (x.rq.id:Int),.int .i64 x.rq.kd,.bool x.rq.ep.i,.int .u64 (x.rq.ep.n:Int),.int .u64 (x.rq.ep.s:Int),.str x.rq.ep.h,.str x.rq.ep.d,.bool x.rq.ds.i,.int .u64 (x.rq.ds.n:Int),.int .u64 (x.rq.ds.s:Int),.str x.rq.ds.h,.str x.rq.ds.d,.int .i64 x.rq.pol,.int .i64 x.rq.num,.int .i64 x.rq.tik,byE x.rq.pay,.int .u64 (x.rq.life:Int),.int .u64 (x.rq.tok:Int),.bool x.rq.on,byE x.data,.int .u64 (r.id:Int),.int .i64 r.err,.int .i64 r.num,.int .i64 r.cnt,.int .u64 (r.tok:Int),byE r.data]]/\fr=[]) (BM ops i k hk hlt Q) (by rintro tm bx fr ⟨rfl,rfl,rfl⟩;exact hw _) ?_)|(apply Zb (hG);kernel_rfl;(iterate 4 exact Z))|refine OV Z Z ?_|refine GG Z Z Z Z Z ?_|refine XT Za Z Z Z Z Z Z ?_|refine XU Za Z Z Z Z Z Z Z ?_|refine YU Za Z Z Z Z Z Z Z ?_|refine XV Za Z Z Z Z Z Z Z Z ?_|refine XR ?_|(apply Zd;(iterate 3 exact Z);(first|with_reducible assumption|decide +kernel|(solve|simp only[bn])))|(apply Zj;exact Z;(first|with_reducible assumption|decide +kernel|(solve|simp only[bn]));exact Z;exact Z)|(apply Zi;exact Z;(first|with_reducible assumption|decide +kernel|(solve|simp only[bn]));exact Z;exact Z)|refine Qx ?_|refine Xt ?_|(apply Ze;exact Z;(first|with_reducible assumption|decide +kernel|(solve|simp only[bn])))|(apply Zf;exact Z;(first|with_reducible assumption|decide +kernel|(solve|simp only[bn])))|refine XP ?_|refine Zn Za Z Z Z Z ?_|refine JM Za Z Z Z Z Z Z ?_|refine JR Za Z Z Z Z ?_|refine OS ?_|(apply Zw Za;(iterate 6 exact Z);(first|exact Qt|rotate_left);(first|with_reducible assumption|decide +kernel|exact Z);(first|exact Zk rfl|with_reducible assumption|decide +kernel|rotate_left)))
 refine LandS.mk' (m:=0) (tm1:=[(0,.sl .ext (ops.map ohE)),(3,.ptr 0 0),(4,.bsl 2 0 L.length d),(5,.int .i64 (i:Int)),(6,.ptr 3 0)]) [0,1,2,3] [] (by decide) ⟨rfl,rfl,rfl⟩ rfl rfl rfl rfl ?_ rfl rfl rfl
 exact .cons rfl (.cons rfl (.cons rfl (.cons rfl (.cons rfl .nil))))
set_option maxRecDepth 10000 in
theorem BN [Known](ops:List OpH)(i k:Nat)(hk:k+i=80)(hlt:i<ops.length/\i<80)(kd:Int)(x:EvV)(r:RyV)(g1:Z2 x=false)(g2:decide (((r.data.map E.byte).length:Int)>1000)=false)(n:Int)(hkd0:kd ≠ 0)(hkd1:kd ≠ 1)(hkd2:kd ≠ 2)(hkd3:kd ≠ 3)(hx:ops[i]?=some ⟨kd,n,x,r⟩)  (Q:X->St->Prop) :
  AW Tryz.prog (Ya (Tryz.f4.body.getD .skip)) ⟨146,hkT ops i (.sl .nil []),hsN,[],(([]:List (List D)).length,([]:List Fr).length)⟩ (X.then (LandS (HkJ ops) 146 (([]:List (List D)).length,([]:List Fr).length) k) Q):=by
 refine VH ops i k hk hlt kd x r g1 g2 _ hx Q fun Q2=>?_
 conv=>enter [3];whnf
 have q0:(kd==0)=false:=by simpa using hkd0
 have q1:(kd==1)=false:=by simpa using hkd1
 have q2:(kd==2)=false:=by simpa using hkd2
 have q3:(kd==3)=false:=by simpa using hkd3
 repeat'(first|(apply Zh Za;exact Z)|(apply Zs Za;exact Z)|(apply Zf;exact Z;(first|with_reducible assumption|decide +kernel|(solve|simp only[bn])))|refine ZD ?_)
 all_goals
  refine LandS.mk' (m:=0) (tm1:=hkT ops i (.sl .nil [])) (bx:=hsN) [0] [] (by decide) ⟨[],0,_,Nat.zero_le _,⟨Nat.le_refl _,fun x hx=>(by cases hx),fun j x hx=>(by simp at hx)⟩,rfl,.inl ⟨rfl,rfl,rfl,rfl,rfl⟩⟩ rfl rfl rfl rfl ?_ rfl rfl rfl
  exact .cons rfl (.cons rfl (.cons rfl (.cons rfl .nil)))
set_option maxRecDepth 10000 in
theorem BO [Known](ops:List OpH)(i k:Nat)(hk:k+i=80)(hlt:i<ops.length/\i<80)(kd:Int)(x:EvV)(r:RyV)(g1:Z2 x=false)(g2:decide (((r.data.map E.byte).length:Int)>1000)=false)(n:Int)(hkd:kd=1)(hx:ops[i]?=some ⟨kd,n,x,r⟩)  (Q:X->St->Prop) :
  AW Tryz.prog (Ya (Tryz.f4.body.getD .skip)) ⟨146,hkT ops i (.sl .nil []),hsN,[],(([]:List (List D)).length,([]:List Fr).length)⟩ (X.then (LandS (HkJ ops) 146 (([]:List (List D)).length,([]:List Fr).length) k) Q):=by
 refine VH ops i k hk hlt kd x r g1 g2 _ hx Q fun Q2=>?_
 conv=>enter [3];whnf
 have q0:(kd==0)=false:=by rw[hkd];rfl
 have q1:(kd==1)=true:=by rw[hkd];rfl
 repeat'(first|(apply Zx [0] [] (MJ n);kernel_rfl;(iterate 10 exact Z))|(apply Zg Za;exact Z)|(apply Zh Za;exact Z)|(apply Zs Za;exact Z)|(apply Ze;exact Z;(first|with_reducible assumption|decide +kernel|(solve|simp only[bn])))|(apply Zf;exact Z;(first|with_reducible assumption|decide +kernel|(solve|simp only[bn])))|refine ZD ?_)
 all_goals
  refine LandS.mk' (m:=0) (tm1:=hkT ops i (.sl .nil [])) (bx:=hsN) [0] [] (by decide) ⟨[],0,_,Nat.zero_le _,⟨Nat.le_refl _,fun x hx=>(by cases hx),fun j x hx=>(by simp at hx)⟩,rfl,.inl ⟨rfl,rfl,rfl,rfl,rfl⟩⟩ rfl rfl rfl rfl ?_ rfl rfl rfl
  exact .cons rfl (.cons rfl (.cons rfl (.cons rfl .nil)))
set_option maxRecDepth 10000 in
theorem SC [Known](ops:List OpH)(i k:Nat)(hk:k+i=80)(hlt:i<ops.length/\i<80)(kd:Int)(x:EvV)(r:RyV)(g1:Z2 x=false)(g2:decide (((r.data.map E.byte).length:Int)>1000)=false)(n:Int)(hkd:kd=2)(hx:ops[i]?=some ⟨kd,n,x,r⟩)(h0:n=0)(Q:X->St->Prop) :
  AW Tryz.prog (Ya (Tryz.f4.body.getD .skip)) ⟨146,hkT ops i (.sl .nil []),hsN,[],(([]:List (List D)).length,([]:List Fr).length)⟩ (X.then (LandS (HkJ ops) 146 (([]:List (List D)).length,([]:List Fr).length) k) Q):=by
 refine VH ops i k hk hlt kd x r g1 g2 _ hx Q fun Q2=>?_
 conv=>enter [3];whnf
 have q0:(kd==0)=false:=by rw[hkd];rfl
 have q1:(kd==1)=false:=by rw[hkd];rfl
 have q2:(kd==2)=true:=by rw[hkd];rfl
 repeat'(first|(apply Zx [0] [] (MI n h0);kernel_rfl;(iterate 10 exact Z))|(apply Zg Za;exact Z)|(apply Zh Za;exact Z)|(apply Zs Za;exact Z)|(apply Ze;exact Z;(first|with_reducible assumption|decide +kernel|(solve|simp only[bn])))|(apply Zf;exact Z;(first|with_reducible assumption|decide +kernel|(solve|simp only[bn])))|refine ZD ?_)
 all_goals
  refine LandS.mk' (m:=0) (tm1:=hkT ops i (.sl .nil [])) (bx:=hsN) [0] [] (by decide) ⟨[],0,_,Nat.zero_le _,⟨Nat.le_refl _,fun x hx=>(by cases hx),fun j x hx=>(by simp at hx)⟩,rfl,.inl ⟨rfl,rfl,rfl,rfl,rfl⟩⟩ rfl rfl rfl rfl ?_ rfl rfl rfl
  exact .cons rfl (.cons rfl (.cons rfl (.cons rfl .nil)))
set_option maxRecDepth 10000 in
theorem SD [Known](ops:List OpH)(i k:Nat)(hk:k+i=80)(hlt:i<ops.length/\i<80)(kd:Int)(x:EvV)(r:RyV)(g1:Z2 x=false)(g2:decide (((r.data.map E.byte).length:Int)>1000)=false)(n:Int)(hkd:kd=2)(hx:ops[i]?=some ⟨kd,n,x,r⟩)(h0:n ≠ 0)(Q:X->St->Prop) :
  AW Tryz.prog (Ya (Tryz.f4.body.getD .skip)) ⟨146,hkT ops i (.sl .nil []),hsN,[],(([]:List (List D)).length,([]:List Fr).length)⟩ (X.then (LandS (HkJ ops) 146 (([]:List (List D)).length,([]:List Fr).length) k) Q):=by
 refine VH ops i k hk hlt kd x r g1 g2 _ hx Q fun Q2=>?_
 conv=>enter [3];whnf
 have q0:(kd==0)=false:=by rw[hkd];rfl
 have q1:(kd==1)=false:=by rw[hkd];rfl
 have q2:(kd==2)=true:=by rw[hkd];rfl
 repeat'(first|(apply Zx [0] [] (T8 n h0);kernel_rfl;(iterate 10 exact Z))|(apply Zg Za;exact Z)|(apply Zh Za;exact Z)|(apply Zs Za;exact Z)|(apply Ze;exact Z;(first|with_reducible assumption|decide +kernel|(solve|simp only[bn])))|(apply Zf;exact Z;(first|with_reducible assumption|decide +kernel|(solve|simp only[bn])))|refine ZD ?_)
 all_goals
  refine LandS.mk' (m:=0) (tm1:=hkT ops i (.sl .nil [])) (bx:=hsN) [0] [] (by decide) ⟨[],0,_,Nat.zero_le _,⟨Nat.le_refl _,fun x hx=>(by cases hx),fun j x hx=>(by simp at hx)⟩,rfl,.inl ⟨rfl,rfl,rfl,rfl,rfl⟩⟩ rfl rfl rfl rfl ?_ rfl rfl rfl
  exact .cons rfl (.cons rfl (.cons rfl (.cons rfl .nil)))
set_option maxRecDepth 10000 in
theorem SE [Known](ops:List OpH)(i k:Nat)(hk:k+i=80)(hlt:i<ops.length/\i<80)(kd:Int)(x:EvV)(r:RyV)(g1:Z2 x=false)(g2:decide (((r.data.map E.byte).length:Int)>1000)=false)(n:Int)(hkd:kd=3)(hx:ops[i]?=some ⟨kd,n,x,r⟩)(h0:n=0)(Q:X->St->Prop) :
  AW Tryz.prog (Ya (Tryz.f4.body.getD .skip)) ⟨146,hkT ops i (.sl .nil []),hsN,[],(([]:List (List D)).length,([]:List Fr).length)⟩ (X.then (LandS (HkJ ops) 146 (([]:List (List D)).length,([]:List Fr).length) k) Q):=by
 refine VH ops i k hk hlt kd x r g1 g2 _ hx Q fun Q2=>?_
 conv=>enter [3];whnf
 have q0:(kd==0)=false:=by rw[hkd];rfl
 have q1:(kd==1)=false:=by rw[hkd];rfl
 have q2:(kd==2)=false:=by rw[hkd];rfl
 have q3:(kd==3)=true:=by rw[hkd];rfl
 repeat'(first|(apply Zx [0] [] (Ni n h0);kernel_rfl;(iterate 10 exact Z))|(apply Zg Za;exact Z)|(apply Zh Za;exact Z)|(apply Zs Za;exact Z)|(apply Ze;exact Z;(first|with_reducible assumption|decide +kernel|(solve|simp only[bn])))|(apply Zf;exact Z;(first|with_reducible assumption|decide +kernel|(solve|simp only[bn])))|refine ZD ?_)
 all_goals
  refine LandS.mk' (m:=0) (tm1:=hkT ops i (.sl .nil [])) (bx:=hsN) [0] [] (by decide) ⟨[],0,_,Nat.zero_le _,⟨Nat.le_refl _,fun x hx=>(by cases hx),fun j x hx=>(by simp at hx)⟩,rfl,.inl ⟨rfl,rfl,rfl,rfl,rfl⟩⟩ rfl rfl rfl rfl ?_ rfl rfl rfl
  exact .cons rfl (.cons rfl (.cons rfl (.cons rfl .nil)))
set_option maxRecDepth 10000 in
theorem SF [Known](ops:List OpH)(i k:Nat)(hk:k+i=80)(hlt:i<ops.length/\i<80)(kd:Int)(x:EvV)(r:RyV)(g1:Z2 x=false)(g2:decide (((r.data.map E.byte).length:Int)>1000)=false)(n:Int)(hkd:kd=3)(hx:ops[i]?=some ⟨kd,n,x,r⟩)(h0:n<0)(Q:X->St->Prop) :
  AW Tryz.prog (Ya (Tryz.f4.body.getD .skip)) ⟨146,hkT ops i (.sl .nil []),hsN,[],(([]:List (List D)).length,([]:List Fr).length)⟩ (X.then (LandS (HkJ ops) 146 (([]:List (List D)).length,([]:List Fr).length) k) Q):=by
 refine VH ops i k hk hlt kd x r g1 g2 _ hx Q fun Q2=>?_
 conv=>enter [3];whnf
 have q0:(kd==0)=false:=by rw[hkd];rfl
 have q1:(kd==1)=false:=by rw[hkd];rfl
 have q2:(kd==2)=false:=by rw[hkd];rfl
 have q3:(kd==3)=true:=by rw[hkd];rfl
 repeat'(first|(apply Zx [0] [] (Hs n h0);kernel_rfl;(iterate 10 exact Z))|(apply Zg Za;exact Z)|(apply Zh Za;exact Z)|(apply Zs Za;exact Z)|(apply Ze;exact Z;(first|with_reducible assumption|decide +kernel|(solve|simp only[bn])))|(apply Zf;exact Z;(first|with_reducible assumption|decide +kernel|(solve|simp only[bn])))|refine ZD ?_)
 all_goals
  refine LandS.mk' (m:=0) (tm1:=hkT ops i (.sl .nil [])) (bx:=hsN) [0] [] (by decide) ⟨[],0,_,Nat.zero_le _,⟨Nat.le_refl _,fun x hx=>(by cases hx),fun j x hx=>(by simp at hx)⟩,rfl,.inl ⟨rfl,rfl,rfl,rfl,rfl⟩⟩ rfl rfl rfl rfl ?_ rfl rfl rfl
  exact .cons rfl (.cons rfl (.cons rfl (.cons rfl .nil)))
set_option maxRecDepth 10000 in
theorem SG [Known](ops:List OpH)(i k:Nat)(hk:k+i=80)(hlt:i<ops.length/\i<80)(kd:Int)(x:EvV)(r:RyV)(g1:Z2 x=false)(g2:decide (((r.data.map E.byte).length:Int)>1000)=false)(n:Int)(hkd:kd=3)(hx:ops[i]?=some ⟨kd,n,x,r⟩)(h0:n>0)(Q:X->St->Prop) :
  AW Tryz.prog (Ya (Tryz.f4.body.getD .skip)) ⟨146,hkT ops i (.sl .nil []),hsN,[],(([]:List (List D)).length,([]:List Fr).length)⟩ (X.then (LandS (HkJ ops) 146 (([]:List (List D)).length,([]:List Fr).length) k) Q):=by
 refine VH ops i k hk hlt kd x r g1 g2 _ hx Q fun Q2=>?_
 conv=>enter [3];whnf
 have q0:(kd==0)=false:=by rw[hkd];rfl
 have q1:(kd==1)=false:=by rw[hkd];rfl
 have q2:(kd==2)=false:=by rw[hkd];rfl
 have q3:(kd==3)=true:=by rw[hkd];rfl
 repeat'(first|(apply Zx [0] [] (Ht n h0);kernel_rfl;(iterate 10 exact Z))|(apply Zg Za;exact Z)|(apply Zh Za;exact Z)|(apply Zs Za;exact Z)|(apply Ze;exact Z;(first|with_reducible assumption|decide +kernel|(solve|simp only[bn])))|(apply Zf;exact Z;(first|with_reducible assumption|decide +kernel|(solve|simp only[bn])))|refine ZD ?_)
 all_goals
  refine LandS.mk' (m:=0) (tm1:=hkT ops i (.sl .nil [])) (bx:=hsN) [0] [] (by decide) ⟨[],0,_,Nat.zero_le _,⟨Nat.le_refl _,fun x hx=>(by cases hx),fun j x hx=>(by simp at hx)⟩,rfl,.inl ⟨rfl,rfl,rfl,rfl,rfl⟩⟩ rfl rfl rfl rfl ?_ rfl rfl rfl
  exact .cons rfl (.cons rfl (.cons rfl (.cons rfl .nil)))
end Go.Proofs.YtchlgagdbflkmaaGreatDoor
end
