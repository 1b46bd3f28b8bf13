/- HistorySafe: what stands behind the switch of a round (hsgen5.py). -/
import Derived.Test.YtchlgagdbflkmaaGreatDoorV40
set_option linter.unusedVariables false
set_option linter.unusedSimpArgs false
section
open Go.RowKit Go.Pl Go.Av
namespace Go.Proofs.YtchlgagdbflkmaaGreatDoor
set_option maxHeartbeats 4000000
set_option maxRecDepth 10000 in
theorem DN [Known](ops:List OpH)(i:Nat)(Q:X->St->Prop)(hq:∀ S,LandS (fun _ tm bx fr=>tm=hvT ops i/\bx=hsN/\fr=[]) 131 (([]:List (List D)).length,([]:List Fr).length) 1 S->Q .norm S) :
  AW Tryz.prog (Io 2 (Ya (Tryz.f5.body.getD .skip))) ⟨131,hvU ops i 0 (.sl .nil []),hsN,[],(([]:List (List D)).length,([]:List Fr).length)⟩ Q:=by
 conv=>enter [3];whnf
 repeat'(first|(apply Zx [0] [] (LZ);kernel_rfl;(iterate 10 exact Z))|(apply Zx [0] [] (Dx);kernel_rfl;(iterate 10 exact Z))|(apply Zx [0] [] (DC);kernel_rfl;(iterate 10 exact Z))|refine Ws 2 ?_|refine W0 ?_|(apply Zg Za;exact Z)|(apply Zh Za;exact Z)|(apply Zs Za;exact Z)|(apply Zd;(iterate 3 exact Z);(first|with_reducible assumption|decide +kernel|(solve|simp only[bn])))|(apply Zi;exact Z;(first|with_reducible assumption|decide +kernel|(solve|simp only[bn]));exact Z;exact Z)|(apply Zf;exact Z;(first|with_reducible assumption|decide +kernel|(solve|simp only[bn])))|refine Zn Za Z Z Z Z ?_)
 all_goals
  refine hq _ (LandS.mk' (m:=0) (tm1:=hvT ops i) [0] [] (by decide) ⟨rfl,rfl,rfl⟩ rfl rfl rfl rfl ?_ rfl rfl rfl)
  exact .cons rfl (.cons rfl (.cons rfl .nil))
set_option maxRecDepth 10000 in
theorem DI [Known](ops:List OpH)(i:Nat)(Q:X->St->Prop)(hq:∀ S,LandS (fun _ tm bx fr=>tm=hvT ops i/\bx=hsN/\fr=[]) 131 (([]:List (List D)).length,([]:List Fr).length) 1 S->Q .norm S) :
  AW Tryz.prog (Io 2 (Ya (Tryz.f5.body.getD .skip))) ⟨131,hvU ops i 0 (.sl .ext (([]:List Ln).map lnE)),hsN,[],(([]:List (List D)).length,([]:List Fr).length)⟩ Q:=by
 conv=>enter [3];whnf
 repeat'(first|(apply Zx [0] [] (LZ);kernel_rfl;(iterate 10 exact Z))|(apply Zx [0] [] (Dx);kernel_rfl;(iterate 10 exact Z))|(apply Zx [0] [] (DC);kernel_rfl;(iterate 10 exact Z))|refine Ws 2 ?_|refine W0 ?_|(apply Zg Za;exact Z)|(apply Zh Za;exact Z)|(apply Zs Za;exact Z)|(apply Zd;(iterate 3 exact Z);(first|with_reducible assumption|decide +kernel|(solve|simp only[bn])))|(apply Zi;exact Z;(first|with_reducible assumption|decide +kernel|(solve|simp only[bn]));exact Z;exact Z)|(apply Zf;exact Z;(first|with_reducible assumption|decide +kernel|(solve|simp only[bn])))|refine Zn Za Z Z Z Z ?_)
 all_goals
  refine hq _ (LandS.mk' (m:=0) (tm1:=hvT ops i) [0] [] (by decide) ⟨rfl,rfl,rfl⟩ rfl rfl rfl rfl ?_ rfl rfl rfl)
  exact .cons rfl (.cons rfl (.cons rfl .nil))
set_option maxRecDepth 10000 in
theorem DJ [Known](ops:List OpH)(i:Nat)(L:List Ln)(s c:Nat)(hO:WU L s)(hl:L.length<=1000)  (Q:X->St->Prop)(hq:∀ S,LandS (fun _ tm bx fr=>tm=hvT ops i/\bx=hsR L s c/\fr=[]) 131 (([]:List (List D)).length,([]:List Fr).length) 1 S->Q .norm S) :
  AW Tryz.prog (Io 2 (Ya (Tryz.f5.body.getD .skip))) ⟨131,hvU ops i 0 (.sl .nil []),hsR L s c,[],(([]:List (List D)).length,([]:List Fr).length)⟩ Q:=by
 conv=>enter [3];whnf
 have hA:=DD L s c hl hO.2.1
 have hml:(L.map lnE).length=L.length:=List.length_map ..
 have hO1:=hO.1
 have e1:decide ((s:Int)<((0:Nat):Int))=false:=decide_eq_false (by omega)
 have e2:decide ((s:Int)>(L.length:Int))=false:=decide_eq_false (by omega)
 have e3:decide (((L.map lnE).length:Int)<(([]:List E).length:Int))=false:=decide_eq_false (by simp)
 have e4:decide (((0:Nat):Int)>(([]:List E).length:Int))=false:=decide_eq_false (by simp)
 have hUL:=Gt L
 repeat'(first|(apply ZC [0,1] (hA);kernel_rfl;(iterate 7 exact Z))|(apply Zx [0,1] [] (Dy L s c);kernel_rfl;(iterate 10 exact Z))|(apply Zx [0,1] [] (LY L s c);kernel_rfl;(iterate 10 exact Z))|refine Ws 2 ?_|refine W0 ?_|(apply Zg Za;exact Z)|(apply Zh Za;exact Z)|(apply Zs Za;exact Z)|(apply Zd;(iterate 3 exact Z);(first|with_reducible assumption|decide +kernel|(solve|simp only[bn])))|(apply Zi;exact Z;(first|with_reducible assumption|decide +kernel|(solve|simp only[bn]));exact Z;exact Z)|(apply Zf;exact Z;(first|with_reducible assumption|decide +kernel|(solve|simp only[bn])))|refine Zn Za Z Z Z Z ?_)
 all_goals
  refine hq _ (LandS.mk' (m:=0) (tm1:=hvT ops i) [0,1] [] (by decide) ⟨rfl,rfl,rfl⟩ rfl rfl rfl rfl ?_ rfl rfl rfl)
  exact .cons rfl (.cons rfl (.cons rfl .nil))
set_option maxRecDepth 10000 in
theorem DO [Known](ops:List OpH)(i:Nat)(L:List Ln)(s c:Nat)(hO:WU L s)(hl:L.length<=1000)(s0:Nat)(L0:List Ln)(h0:s0<=L0.length)(hs:s0<=s)(h1:L0.length<=L.length)(hm0:(L0.map lnE).length=L0.length)(hR:∀(k:Nat) (x x0:Ln),k<s0->L[k]?=some x->L0[k]?=some x0->x.lost=x0.lost)(Q:X->St->Prop)(hq:∀ S,LandS (fun _ tm bx fr=>tm=hvT ops i/\bx=hsR L s c/\fr=[]) 131 (([]:List (List D)).length,([]:List Fr).length) 1 S->Q .norm S) :
  AW Tryz.prog (Io 2 (Ya (Tryz.f5.body.getD .skip))) ⟨131,hvU ops i s0 (.sl .ext (L0.map lnE)),hsR L s c,[],(([]:List (List D)).length,([]:List Fr).length)⟩ Q:=by
 conv=>enter [3];whnf
 have hA:=DD L s c hl hO.2.1
 have hml:(L.map lnE).length=L.length:=List.length_map ..
 have hO1:=hO.1
 have e1:decide ((s:Int)<(s0:Int))=false:=decide_eq_false (by omega)
 have e2:decide ((s:Int)>(L.length:Int))=false:=decide_eq_false (by omega)
 have e3:decide (((L.map lnE).length:Int)<((L0.map lnE).length:Int))=false:=decide_eq_false (by rw[hml,hm0];omega)
 have e4:decide ((s0:Int)>((L0.map lnE).length:Int))=false:=decide_eq_false (by rw[hm0];omega)
 have hUL:=Gt L
 have hU0:=Gt L0
 repeat'(first|(apply ZC [0,1] (hA);kernel_rfl;(iterate 7 exact Z))|(apply Zx [0,1] [] (Dy L s c);kernel_rfl;(iterate 10 exact Z))|(apply Zx [0,1] [] (LY L s c);kernel_rfl;(iterate 10 exact Z))|(apply Zg Za;exact Z)|(apply Zh Za;exact Z)|(apply Zs Za;exact Z)|(apply Zd;(iterate 3 exact Z);(first|with_reducible assumption|decide +kernel|(solve|simp only[bn])))|(apply Zi;exact Z;(first|with_reducible assumption|decide +kernel|(solve|simp only[bn]));exact Z;exact Z)|(apply Zf;exact Z;(first|with_reducible assumption|decide +kernel|(solve|simp only[bn])))|refine Zn Za Z Z Z Z ?_)
 refine Gx (fun k tm bx fr=>∃ j:Nat,k+j=s0/\tm=[(0,.sl .ext (ops.map ohE)),(3,.ptr 0 0),(4,.int .i64 (i:Int)),(6,.int .i64 (s0:Int)),(7,.sl .ext (L0.map lnE)),(10,.sl .ext (L.map lnE)),(11,.int .i64 (j:Int))]/\bx=hsR L s c/\fr=[]) (s0+1) (LandS.mk' (m:=s0) (tm1:=[(0,.sl .ext (ops.map ohE)),(3,.ptr 0 0),(4,.int .i64 (i:Int)),(6,.int .i64 (s0:Int)),(7,.sl .ext (L0.map lnE)),(10,.sl .ext (L.map lnE)),(11,.int .i64 ((0:Nat):Int))]) [0,1] [] (Nat.lt_succ_self _) ⟨0,rfl,rfl,rfl,rfl⟩ rfl rfl rfl rfl ?_ rfl rfl rfl) ?_
 ·exact .cons rfl (.cons rfl (.cons rfl (.cons rfl (.cons rfl (.cons rfl (.cons rfl .nil))))))
 rintro k tm bx fr ⟨j,hkj,rfl,rfl,rfl⟩
 rcases Nat.lt_or_ge j s0 with hlt|hge
 ·have hd:decide ((j:Int)<(s0:Int))=true:=decide_eq_true (by omega)
  obtain⟨x,hx⟩:∃ x,L[j]?=some x:=⟨_,List.getElem?_eq_getElem (show j<L.length by omega)⟩
  obtain⟨y,hy⟩:∃ y,L0[j]?=some y:=⟨_,List.getElem?_eq_getElem (show j<L0.length by omega)⟩
  have hxy:=hR j x y hlt hx hy
  have ei:IntKind.i64.wrap ((j:Int)+1)=((j+1:Nat):Int):=by rw[IntWalk.i64_in _ (by omega)];omega
  have hxe:(L.map lnE)[((j:Nat):Int).toNat]?=some (.agg [.int .u64 (x.e.now:Int),.int .i64 x.e.kd,.int .u64 (x.e.tok:Int),.int .i64 x.e.ses,.int .u64 (x.e.rq.id:Int),.int .i64 x.e.rq.kd,.bool x.e.rq.ep.i,.int .u64 (x.e.rq.ep.n:Int),.int .u64 (x.e.rq.ep.s:Int),.str x.e.rq.ep.h,.str x.e.rq.ep.d,.bool x.e.rq.ds.i,.int .u64 (x.e.rq.ds.n:Int),.int .u64 (x.e.rq.ds.s:Int),.str x.e.rq.ds.h,.str x.e.rq.ds.d,.int .i64 x.e.rq.pol,.int .i64 x.e.rq.num,.int .i64 x.e.rq.tik,.sl (x.e.rq.pay.map E.byte),.int .u64 (x.e.rq.life:Int),.int .u64 (x.e.rq.tok:Int),.bool x.e.rq.on,.sl (x.e.data.map E.byte),.int .u64 (x.r.id:Int),.int .i64 x.r.err,.int .i64 x.r.num,.int .i64 x.r.cnt,.int .u64 (x.r.tok:Int),.sl (x.r.data.map E.byte),.bool x.told,.bool x.lost]):=by rw[Int.toNat_natCast,List.getElem?_map,hx];rfl
  have hye:(L0.map lnE)[((j:Nat):Int).toNat]?=some (.agg [.int .u64 (y.e.now:Int),.int .i64 y.e.kd,.int .u64 (y.e.tok:Int),.int .i64 y.e.ses,.int .u64 (y.e.rq.id:Int),.int .i64 y.e.rq.kd,.bool y.e.rq.ep.i,.int .u64 (y.e.rq.ep.n:Int),.int .u64 (y.e.rq.ep.s:Int),.str y.e.rq.ep.h,.str y.e.rq.ep.d,.bool y.e.rq.ds.i,.int .u64 (y.e.rq.ds.n:Int),.int .u64 (y.e.rq.ds.s:Int),.str y.e.rq.ds.h,.str y.e.rq.ds.d,.int .i64 y.e.rq.pol,.int .i64 y.e.rq.num,.int .i64 y.e.rq.tik,.sl (y.e.rq.pay.map E.byte),.int .u64 (y.e.rq.life:Int),.int .u64 (y.e.rq.tok:Int),.bool y.e.rq.on,.sl (y.e.data.map E.byte),.int .u64 (y.r.id:Int),.int .i64 y.r.err,.int .i64 y.r.num,.int .i64 y.r.cnt,.int .u64 (y.r.tok:Int),.sl (y.r.data.map E.byte),.bool y.told,.bool y.lost]):=by rw[Int.toNat_natCast,List.getElem?_map,hy];rfl
  cases hlo:y.lost
  all_goals
   rw[hlo]at hxy hye
   rw[hxy]at hxe
   repeat'(first|rw[ei]|(apply Zg Za;exact Z)|(apply Zh Za;exact Z)|(apply Zs Za;exact Z)|(apply Ze;exact Z;(first|with_reducible assumption|decide +kernel|(solve|simp only[bn])))|(apply Zf;exact Z;(first|with_reducible assumption|decide +kernel|(solve|simp only[bn])))|(apply Zm 10 ZG;decide +kernel;kernel_rfl;kernel_rfl;kernel_rfl;exact Z;exact Z)|(apply Zq;(iterate 4 exact Z))|exact AE.nil _ _ _ _|(apply Zv;exact Z)|(apply ZA;exact Z;exact Z;decide +kernel;exact Z)|(apply ZB;exact Z)|exact AO.nil _ _ _|(apply Zp;(decide +kernel))|exact AOs.nil|exact ZJ rfl rfl|(apply Zw Za;(iterate 6 exact Z);(first|exact Qt|rotate_left);(first|with_reducible assumption|decide +kernel|exact Z);(first|exact Zk rfl|with_reducible assumption|decide +kernel|rotate_left)))
   refine LandS.mk' (m:=k-1) (tm1:=[(0,.sl .ext (ops.map ohE)),(3,.ptr 0 0),(4,.int .i64 (i:Int)),(6,.int .i64 (s0:Int)),(7,.sl .ext (L0.map lnE)),(10,.sl .ext (L.map lnE)),(11,.int .i64 ((j+1:Nat):Int))]) [0,1] [] (by omega) ⟨j+1,by omega,rfl,rfl,rfl⟩ rfl rfl rfl rfl ?_ rfl rfl rfl
   exact .cons rfl (.cons rfl (.cons rfl (.cons rfl (.cons rfl (.cons rfl (.cons rfl .nil))))))
 ·have hd:decide ((j:Int)<(s0:Int))=false:=decide_eq_false (by omega)
  repeat'(first|(apply Zh Za;exact Z)|(apply Zs Za;exact Z)|(apply Zf;exact Z;(first|with_reducible assumption|decide +kernel|(solve|simp only[bn]))))
  all_goals
   refine hq _ (LandS.mk' (m:=0) (tm1:=hvT ops i) [0,1] [] (by decide) ⟨rfl,rfl,rfl⟩ rfl rfl rfl rfl ?_ rfl rfl rfl)
   exact .cons rfl (.cons rfl (.cons rfl .nil))
theorem DF [Known](ops:List OpH)(i k:Nat)(hk:k+i=80)(hlt:i<ops.length/\i<80)  (Q:X->St->Prop)(S:St)(hS:LandS (fun _ tm bx fr=>tm=hvT ops i/\bx=hsN/\fr=[]) 131 (([]:List (List D)).length,([]:List Fr).length) 1 S) :
  AW Tryz.prog (Io 1 (Ya (Tryz.f5.body.getD .skip))) S (X.then (LandS (HvJ ops) 131 (([]:List (List D)).length,([]:List Fr).length) k) Q):=by
 refine UU hS ?_
 rintro m tm bx fr ⟨rfl,rfl,rfl⟩
 conv=>enter [3];whnf
 have ei:IntKind.i64.wrap ((i:Int)+1)=((i+1:Nat):Int):=by rw[IntWalk.i64_in _ (by omega)];omega
 repeat'(first|rw[ei]|(apply Zh Za;exact Z)|refine ZD ?_)
 refine LandS.mk' (m:=k-1) (tm1:=hvT ops (i+1)) [0] [] (by omega) ⟨i+1,[],0,by omega,Nat.zero_le _,⟨Nat.le_refl _,fun x hx=>(by cases hx),fun j x hx=>(by simp at hx)⟩,rfl,.inl ⟨rfl,rfl,rfl,rfl⟩⟩ rfl rfl rfl rfl ?_ rfl rfl rfl
 exact .cons rfl (.cons rfl (.cons rfl .nil))
theorem DG [Known](ops:List OpH)(i k:Nat)(hk:k+i=80)(hlt:i<ops.length/\i<80)(L:List Ln)(s c:Nat)(hO:WU L s)(hL:L ≠ [])(hLi:L.length<=i+1)(hc:L.length<=c)(Q:X->St->Prop)(S:St)(hS:LandS (fun _ tm bx fr=>tm=hvT ops i/\bx=hsR L s c/\fr=[]) 131 (([]:List (List D)).length,([]:List Fr).length) 1 S) :
  AW Tryz.prog (Io 1 (Ya (Tryz.f5.body.getD .skip))) S (X.then (LandS (HvJ ops) 131 (([]:List (List D)).length,([]:List Fr).length) k) Q):=by
 refine UU hS ?_
 rintro m tm bx fr ⟨rfl,rfl,rfl⟩
 conv=>enter [3];whnf
 have ei:IntKind.i64.wrap ((i:Int)+1)=((i+1:Nat):Int):=by rw[IntWalk.i64_in _ (by omega)];omega
 repeat'(first|rw[ei]|(apply Zh Za;exact Z)|refine ZD ?_)
 refine LandS.mk' (m:=k-1) (tm1:=hvT ops (i+1)) [0,1] [] (by omega) ⟨i+1,L,s,by omega,hLi,hO,rfl,.inr ⟨hL,c,hc,rfl,rfl⟩⟩ rfl rfl rfl rfl ?_ rfl rfl rfl
 exact .cons rfl (.cons rfl (.cons rfl .nil))
theorem D3 [Known](ops:List OpH)(i k:Nat)(hk:k+i=80)(hlt:i<ops.length/\i<80)(s0:Nat)(L0:List Ln)(bD:D)(h0:s0<=L0.length)(hB:HvB L0 bD)(Q:X->St->Prop)(tm:List (Nat × D))(bx:List (List D))(fr:List Fr)(h:HvM ops i s0 L0 bD tm bx fr) :
  AW Tryz.prog (Io 2 (Ya (Tryz.f5.body.getD .skip))) ⟨131,tm,bx,fr,(([]:List (List D)).length,([]:List Fr).length)⟩ (X.inBlock 1 (X.then (fun S=>AW Tryz.prog (Io 1 (Ya (Tryz.f5.body.getD .skip))) S (X.then (LandS (HvJ ops) 131 (([]:List (List D)).length,([]:List Fr).length) k) Q)) (X.then (LandS (HvJ ops) 131 (([]:List (List D)).length,([]:List Fr).length) k) Q))):=by
 obtain⟨L,s,hLi,hO,⟨r1,r2,r3⟩,rfl,hS⟩:=h
 have hB2:(L0=[]/\s0=0/\bD=.sl .nil [])\/bD=.sl .ext (L0.map lnE):=by
  rcases hB with⟨rfl,hb⟩ | hb
  ·exact .inl ⟨rfl,Nat.le_zero.1 h0,hb⟩
  ·exact .inr hb
 rcases hS with⟨rfl,rfl,rfl,rfl⟩ | ⟨hL,c,hc,rfl,rfl⟩
 ·have hz:L0=[]:=List.length_eq_zero_iff.1 (Nat.le_zero.1 r2)
  subst hz
  have hz:s0=0:=Nat.le_zero.1 h0
  subst hz
  rcases hB2 with⟨_,_,rfl⟩ | rfl
  ·exact DN ops i _ fun S hS=>Wp (ZD (DF ops i k hk hlt Q S hS))
  ·exact DI ops i _ fun S hS=>Wp (ZD (DF ops i k hk hlt Q S hS))
 ·rcases hB2 with⟨rfl,rfl,rfl⟩ | rfl
  ·exact DJ ops i L s c hO (by omega) _ fun S hS=>Wp (ZD (DG ops i k hk hlt L s c hO hL hLi hc Q S hS))
  ·exact DO ops i L s c hO (by omega) s0 L0 h0 r1 r2 (List.length_map ..) r3 _ fun S hS=>Wp (ZD (DG ops i k hk hlt L s c hO hL hLi hc Q S hS))
set_option maxRecDepth 10000 in
theorem Dw [Known](ops:List OpH)(i k:Nat)(hk:k+i=80)(hlt:i<ops.length/\i<80)(kd:Int)(x:EvV)(r:RyV)(g1:Z2 x=false)(g2:decide (((r.data.map E.byte).length:Int)>1000)=false)(n:Int)(hx:ops[i]?=some ⟨kd,n,x,r⟩)(Q:X->St->Prop)(hw:∀ Q2,AW Tryz.prog (atB 2 (Ya (Tryz.f5.body.getD .skip))) ⟨131,[(0,.sl .ext (ops.map ohE)),(3,.ptr 0 0),(4,.int .i64 (i:Int)),(5,.ptr 1 0),(6,.int .i64 ((0:Nat):Int)),(7,(.sl .nil []))],hsN++[[.int .i64 kd,.int .i64 n,.int .u64 (x.now:Int),.int .i64 x.kd,.int .u64 (x.tok:Int),.int .i64 x.ses,.int .u64 (x.rq.id:Int),.int .i64 x.rq.kd,.bool x.rq.ep.i,.int .u64 (x.rq.ep.n:Int),.int .u64 (x.rq.ep.s:Int),.str x.rq.ep.h,.str x.rq.ep.d,.bool x.rq.ds.i,.int .u64 (x.rq.ds.n:Int),.int .u64 (x.rq.ds.s:Int),.str x.rq.ds.h,.str x.rq.ds.d,.int .i64 x.rq.pol,.int .i64 x.rq.num,.int .i64 x.rq.tik,byE x.rq.pay,.int .u64 (x.rq.life:Int),.int .u64 (x.rq.tok:Int),.bool x.rq.on,byE x.data,.int .u64 (r.id:Int),.int .i64 r.err,.int .i64 r.num,.int .i64 r.cnt,.int .u64 (r.tok:Int),byE r.data]],[],(([]:List (List D)).length,([]:List Fr).length)⟩ (X.then (LandS (fun _=>HvM ops i 0 [] (.sl .nil [])) 131 (([]:List (List D)).length,([]:List Fr).length) 1) Q2)) :
  AW Tryz.prog (Ya (Tryz.f5.body.getD .skip)) ⟨131,hvT ops i,hsN,[],(([]:List (List D)).length,([]:List Fr).length)⟩ (X.then (LandS (HvJ ops) 131 (([]:List (List D)).length,([]:List Fr).length) k) Q):=by
 conv=>enter [3];whnf
 have hol:(ops.map ohE).length=ops.length:=List.length_map ..
 have hUo:=GD ops
 have hd1:decide ((i:Int)<((ops.map ohE).length:Int))=true:=decide_eq_true (by rw[hol];omega)
 have hd2:decide ((i:Int)<80)=true:=decide_eq_true (by omega)
 have hxe:(ops.map ohE)[((i:Nat):Int).toNat]?=some (ohE ⟨kd,n,x,r⟩):=by rw[Int.toNat_natCast,List.getElem?_map,hx];rfl
 replace hxe:(ops.map ohE)[((i:Nat):Int).toNat]?=some (.agg [.int .i64 kd,.int .i64 n,.int .u64 (x.now:Int),.int .i64 x.kd,.int .u64 (x.tok:Int),.int .i64 x.ses,.int .u64 (x.rq.id:Int),.int .i64 x.rq.kd,.bool x.rq.ep.i,.int .u64 (x.rq.ep.n:Int),.int .u64 (x.rq.ep.s:Int),.str x.rq.ep.h,.str x.rq.ep.d,.bool x.rq.ds.i,.int .u64 (x.rq.ds.n:Int),.int .u64 (x.rq.ds.s:Int),.str x.rq.ds.h,.str x.rq.ds.d,.int .i64 x.rq.pol,.int .i64 x.rq.num,.int .i64 x.rq.tik,.sl (x.rq.pay.map E.byte),.int .u64 (x.rq.life:Int),.int .u64 (x.rq.tok:Int),.bool x.rq.on,.sl (x.data.map E.byte),.int .u64 (r.id:Int),.int .i64 r.err,.int .i64 r.num,.int .i64 r.cnt,.int .u64 (r.tok:Int),.sl (r.data.map E.byte)]):=hxe
 have hG:=UT x
 rw[g1]at hG
 replace hG:AP Tryz.prog 27 [.agg [.int .u64 (x.now:Int),.int .i64 x.kd,.int .u64 (x.tok:Int),.int .i64 x.ses,.int .u64 (x.rq.id:Int),.int .i64 x.rq.kd,.bool x.rq.ep.i,.int .u64 (x.rq.ep.n:Int),.int .u64 (x.rq.ep.s:Int),.str x.rq.ep.h,.str x.rq.ep.d,.bool x.rq.ds.i,.int .u64 (x.rq.ds.n:Int),.int .u64 (x.rq.ds.s:Int),.str x.rq.ds.h,.str x.rq.ds.d,.int .i64 x.rq.pol,.int .i64 x.rq.num,.int .i64 x.rq.tik,byE x.rq.pay,.int .u64 (x.rq.life:Int),.int .u64 (x.rq.tok:Int),.bool x.rq.on,byE x.data]] (.bool false) []:=hG
 repeat'(first|(refine GC 2 (HvM ops i 0 [] (.sl .nil [])) (fun tm bx fr=>tm=[(0,.sl .ext (ops.map ohE)),(3,.ptr 0 0),(4,.int .i64 (i:Int)),(5,.ptr 1 0),(6,.int .i64 ((0:Nat):Int)),(7,(.sl .nil []))]/\bx=hsN++[[.int .i64 kd,.int .i64 n,.int .u64 (x.now:Int),.int .i64 x.kd,.int .u64 (x.tok:Int),.int .i64 x.ses,.int .u64 (x.rq.id:Int),.int .i64 x.rq.kd,.bool x.rq.ep.i,.int .u64 (x.rq.ep.n:Int),.int .u64 (x.rq.ep.s:Int),.str x.rq.ep.h,.str x.rq.ep.d,.bool x.rq.ds.i,.int .u64 (x.rq.ds.n:Int),.int .u64 (x.rq.ds.s:Int),.str x.rq.ds.h,.str x.rq.ds.d,.int .i64 x.rq.pol,.int .i64 x.rq.num,.int .i64 x.rq.tik,byE x.rq.pay,.int .u64 (x.rq.life:Int),.int .u64 (x.rq.tok:Int),.bool x.rq.on,byE x.data,.int .u64 (r.id:Int),.int .i64 r.err,.int .i64 r.num,.int .i64 r.cnt,.int .u64 (r.tok:Int),byE r.data]]/\fr=[]) (D3 ops i k hk hlt _ _ _ (Nat.zero_le _) (.inl ⟨rfl,rfl⟩) Q) (by rintro tm bx fr ⟨rfl,rfl,rfl⟩;exact hw _) ?_)|(apply Zb (hG);kernel_rfl;(iterate 4 exact Z))|(apply Zx [0] [] (Dx);kernel_rfl;(iterate 10 exact Z))|(apply Zx [0] [] (LZ);kernel_rfl;(iterate 10 exact Z))|refine OV Z Z ?_|refine KT Z Z ?_|refine GG Z Z Z Z Z ?_|refine XT Za Z Z Z Z Z Z ?_|refine XU Za Z Z Z Z Z Z Z ?_|refine YU Za Z Z Z Z Z Z Z ?_|refine XV Za Z Z Z Z Z Z Z Z ?_|refine XR ?_|(apply Zd;(iterate 3 exact Z);(first|with_reducible assumption|decide +kernel|(solve|simp only[bn])))|(apply Zj;exact Z;(first|with_reducible assumption|decide +kernel|(solve|simp only[bn]));exact Z;exact Z)|(apply Zi;exact Z;(first|with_reducible assumption|decide +kernel|(solve|simp only[bn]));exact Z;exact Z)|refine Qx ?_|refine Xt ?_|(apply Ze;exact Z;(first|with_reducible assumption|decide +kernel|(solve|simp only[bn])))|(apply Zf;exact Z;(first|with_reducible assumption|decide +kernel|(solve|simp only[bn])))|refine XP ?_|refine Zn Za Z Z Z Z ?_|refine JM Za Z Z Z Z Z Z ?_|refine JR Za Z Z Z Z ?_|refine OS ?_|(apply Zw Za;(iterate 6 exact Z);(first|exact Qt|rotate_left);(first|with_reducible assumption|decide +kernel|exact Z);(first|exact Zk rfl|with_reducible assumption|decide +kernel|rotate_left)))
 refine LandS.mk' (m:=0) (tm1:=[(0,.sl .ext (ops.map ohE)),(3,.ptr 0 0),(4,.int .i64 (i:Int)),(5,.ptr 1 0),(6,.int .i64 ((0:Nat):Int)),(7,(.sl .nil []))]) [0,1] [] (by decide) ⟨rfl,rfl,rfl⟩ rfl rfl rfl rfl ?_ rfl rfl rfl
 exact .cons rfl (.cons rfl (.cons rfl (.cons rfl (.cons rfl (.cons rfl .nil)))))
set_option maxRecDepth 10000 in
theorem Dv [Known](ops:List OpH)(i k:Nat)(hk:k+i=80)(hlt:i<ops.length/\i<80)(kd:Int)(x:EvV)(r:RyV)(g1:Z2 x=false)(g2:decide (((r.data.map E.byte).length:Int)>1000)=false)(n:Int)(L:List Ln)(s c:Nat)(hL:L ≠ [])(hLi:L.length<=i)(hO:WU L s)(hc:L.length<=c)(hx:ops[i]?=some ⟨kd,n,x,r⟩)(Q:X->St->Prop)(hw:∀ Q2,AW Tryz.prog (atB 2 (Ya (Tryz.f5.body.getD .skip))) ⟨131,[(0,.sl .ext (ops.map ohE)),(3,.ptr 0 0),(4,.int .i64 (i:Int)),(5,.ptr 2 0),(6,.int .i64 ((s:Nat):Int)),(7,(.sl .ext (L.map lnE)))],hsR L s c++[[.int .i64 kd,.int .i64 n,.int .u64 (x.now:Int),.int .i64 x.kd,.int .u64 (x.tok:Int),.int .i64 x.ses,.int .u64 (x.rq.id:Int),.int .i64 x.rq.kd,.bool x.rq.ep.i,.int .u64 (x.rq.ep.n:Int),.int .u64 (x.rq.ep.s:Int),.str x.rq.ep.h,.str x.rq.ep.d,.bool x.rq.ds.i,.int .u64 (x.rq.ds.n:Int),.int .u64 (x.rq.ds.s:Int),.str x.rq.ds.h,.str x.rq.ds.d,.int .i64 x.rq.pol,.int .i64 x.rq.num,.int .i64 x.rq.tik,byE x.rq.pay,.int .u64 (x.rq.life:Int),.int .u64 (x.rq.tok:Int),.bool x.rq.on,byE x.data,.int .u64 (r.id:Int),.int .i64 r.err,.int .i64 r.num,.int .i64 r.cnt,.int .u64 (r.tok:Int),byE r.data]],[],(([]:List (List D)).length,([]:List Fr).length)⟩ (X.then (LandS (fun _=>HvM ops i s L (.sl .ext (L.map lnE))) 131 (([]:List (List D)).length,([]:List Fr).length) 1) Q2)) :
  AW Tryz.prog (Ya (Tryz.f5.body.getD .skip)) ⟨131,hvT ops i,hsR L s c,[],(([]:List (List D)).length,([]:List Fr).length)⟩ (X.then (LandS (HvJ ops) 131 (([]:List (List D)).length,([]:List Fr).length) k) Q):=by
 conv=>enter [3];whnf
 have hol:(ops.map ohE).length=ops.length:=List.length_map ..
 have hUo:=GD ops
 have hd1:decide ((i:Int)<((ops.map ohE).length:Int))=true:=decide_eq_true (by rw[hol];omega)
 have hd2:decide ((i:Int)<80)=true:=decide_eq_true (by omega)
 have hxe:(ops.map ohE)[((i:Nat):Int).toNat]?=some (ohE ⟨kd,n,x,r⟩):=by rw[Int.toNat_natCast,List.getElem?_map,hx];rfl
 replace hxe:(ops.map ohE)[((i:Nat):Int).toNat]?=some (.agg [.int .i64 kd,.int .i64 n,.int .u64 (x.now:Int),.int .i64 x.kd,.int .u64 (x.tok:Int),.int .i64 x.ses,.int .u64 (x.rq.id:Int),.int .i64 x.rq.kd,.bool x.rq.ep.i,.int .u64 (x.rq.ep.n:Int),.int .u64 (x.rq.ep.s:Int),.str x.rq.ep.h,.str x.rq.ep.d,.bool x.rq.ds.i,.int .u64 (x.rq.ds.n:Int),.int .u64 (x.rq.ds.s:Int),.str x.rq.ds.h,.str x.rq.ds.d,.int .i64 x.rq.pol,.int .i64 x.rq.num,.int .i64 x.rq.tik,.sl (x.rq.pay.map E.byte),.int .u64 (x.rq.life:Int),.int .u64 (x.rq.tok:Int),.bool x.rq.on,.sl (x.data.map E.byte),.int .u64 (r.id:Int),.int .i64 r.err,.int .i64 r.num,.int .i64 r.cnt,.int .u64 (r.tok:Int),.sl (r.data.map E.byte)]):=hxe
 have hG:=UT x
 rw[g1]at hG
 replace hG:AP Tryz.prog 27 [.agg [.int .u64 (x.now:Int),.int .i64 x.kd,.int .u64 (x.tok:Int),.int .i64 x.ses,.int .u64 (x.rq.id:Int),.int .i64 x.rq.kd,.bool x.rq.ep.i,.int .u64 (x.rq.ep.n:Int),.int .u64 (x.rq.ep.s:Int),.str x.rq.ep.h,.str x.rq.ep.d,.bool x.rq.ds.i,.int .u64 (x.rq.ds.n:Int),.int .u64 (x.rq.ds.s:Int),.str x.rq.ds.h,.str x.rq.ds.d,.int .i64 x.rq.pol,.int .i64 x.rq.num,.int .i64 x.rq.tik,byE x.rq.pay,.int .u64 (x.rq.life:Int),.int .u64 (x.rq.tok:Int),.bool x.rq.on,byE x.data]] (.bool false) []:=hG
 have hA:=DD L s c (by omega) hO.2.1
 repeat'(first|(refine GC 2 (HvM ops i s L (.sl .ext (L.map lnE))) (fun tm bx fr=>tm=[(0,.sl .ext (ops.map ohE)),(3,.ptr 0 0),(4,.int .i64 (i:Int)),(5,.ptr 2 0),(6,.int .i64 ((s:Nat):Int)),(7,(.sl .ext (L.map lnE)))]/\bx=hsR L s c++[[.int .i64 kd,.int .i64 n,.int .u64 (x.now:Int),.int .i64 x.kd,.int .u64 (x.tok:Int),.int .i64 x.ses,.int .u64 (x.rq.id:Int),.int .i64 x.rq.kd,.bool x.rq.ep.i,.int .u64 (x.rq.ep.n:Int),.int .u64 (x.rq.ep.s:Int),.str x.rq.ep.h,.str x.rq.ep.d,.bool x.rq.ds.i,.int .u64 (x.rq.ds.n:Int),.int .u64 (x.rq.ds.s:Int),.str x.rq.ds.h,.str x.rq.ds.d,.int .i64 x.rq.pol,.int .i64 x.rq.num,.int .i64 x.rq.tik,byE x.rq.pay,.int .u64 (x.rq.life:Int),.int .u64 (x.rq.tok:Int),.bool x.rq.on,byE x.data,.int .u64 (r.id:Int),.int .i64 r.err,.int .i64 r.num,.int .i64 r.cnt,.int .u64 (r.tok:Int),byE r.data]]/\fr=[]) (D3 ops i k hk hlt _ _ _ hO.1 (.inr rfl) Q) (by rintro tm bx fr ⟨rfl,rfl,rfl⟩;exact hw _) ?_)|(apply Zb (hG);kernel_rfl;(iterate 4 exact Z))|(apply Zx [0,1] [] (Dy L s c);kernel_rfl;(iterate 10 exact Z))|(apply ZC [0,1] (hA);kernel_rfl;(iterate 7 exact Z))|refine OV Z Z ?_|refine KT Z Z ?_|refine GG Z Z Z Z Z ?_|refine XT Za Z Z Z Z Z Z ?_|refine XU Za Z Z Z Z Z Z Z ?_|refine YU Za Z Z Z Z Z Z Z ?_|refine XV Za Z Z Z Z Z Z Z Z ?_|refine XR ?_|(apply Zd;(iterate 3 exact Z);(first|with_reducible assumption|decide +kernel|(solve|simp only[bn])))|(apply Zj;exact Z;(first|with_reducible assumption|decide +kernel|(solve|simp only[bn]));exact Z;exact Z)|(apply Zi;exact Z;(first|with_reducible assumption|decide +kernel|(solve|simp only[bn]));exact Z;exact Z)|refine Qx ?_|refine Xt ?_|(apply Ze;exact Z;(first|with_reducible assumption|decide +kernel|(solve|simp only[bn])))|(apply Zf;exact Z;(first|with_reducible assumption|decide +kernel|(solve|simp only[bn])))|refine XP ?_|refine Zn Za Z Z Z Z ?_|refine JM Za Z Z Z Z Z Z ?_|refine JR Za Z Z Z Z ?_|refine OS ?_|(apply Zw Za;(iterate 6 exact Z);(first|exact Qt|rotate_left);(first|with_reducible assumption|decide +kernel|exact Z);(first|exact Zk rfl|with_reducible assumption|decide +kernel|rotate_left)))
 refine LandS.mk' (m:=0) (tm1:=[(0,.sl .ext (ops.map ohE)),(3,.ptr 0 0),(4,.int .i64 (i:Int)),(5,.ptr 2 0),(6,.int .i64 ((s:Nat):Int)),(7,(.sl .ext (L.map lnE)))]) [0,1,2] [] (by decide) ⟨rfl,rfl,rfl⟩ rfl rfl rfl rfl ?_ rfl rfl rfl
 exact .cons rfl (.cons rfl (.cons rfl (.cons rfl (.cons rfl (.cons rfl .nil)))))
set_option maxRecDepth 10000 in
theorem D4 [Known](ops:List OpH)(i k:Nat)(hk:k+i=80)(hlt:i<ops.length/\i<80)(kd:Int)(x:EvV)(r:RyV)(g1:Z2 x=false)(g2:decide (((r.data.map E.byte).length:Int)>1000)=false)(n:Int)(hkd0:kd ≠ 0)(hkd1:kd ≠ 1)(hkd2:kd ≠ 2)(hkd3:kd ≠ 3)(hx:ops[i]?=some ⟨kd,n,x,r⟩)  (Q:X->St->Prop) :
  AW Tryz.prog (Ya (Tryz.f5.body.getD .skip)) ⟨131,hvT ops i,hsN,[],(([]:List (List D)).length,([]:List Fr).length)⟩ (X.then (LandS (HvJ ops) 131 (([]:List (List D)).length,([]:List Fr).length) k) Q):=by
 refine Dw ops i k hk hlt kd x r g1 g2 _ hx Q fun Q2=>?_
 conv=>enter [3];whnf
 have q0:(kd==0)=false:=by simpa using hkd0
 have q1:(kd==1)=false:=by simpa using hkd1
 have q2:(kd==2)=false:=by simpa using hkd2
 have q3:(kd==3)=false:=by simpa using hkd3
 repeat'(first|(apply Zh Za;exact Z)|(apply Zs Za;exact Z)|(apply Zf;exact Z;(first|with_reducible assumption|decide +kernel|(solve|simp only[bn])))|refine ZD ?_)
 all_goals
  refine LandS.mk' (m:=0) (tm1:=hvU ops i 0 (.sl .nil [])) (bx:=hsN) [0] [] (by decide) ⟨[],0,Nat.zero_le _,⟨Nat.le_refl _,fun x hx=>(by cases hx),fun j x hx=>(by simp at hx)⟩,Du _ _,rfl,.inl ⟨rfl,rfl,rfl,rfl⟩⟩ rfl rfl rfl rfl ?_ rfl rfl rfl
  exact .cons rfl (.cons rfl (.cons rfl (.cons rfl (.cons rfl .nil))))
set_option maxRecDepth 10000 in
theorem D5 [Known](ops:List OpH)(i k:Nat)(hk:k+i=80)(hlt:i<ops.length/\i<80)(kd:Int)(x:EvV)(r:RyV)(g1:Z2 x=false)(g2:decide (((r.data.map E.byte).length:Int)>1000)=false)(n:Int)(hkd:kd=1)(hx:ops[i]?=some ⟨kd,n,x,r⟩)  (Q:X->St->Prop) :
  AW Tryz.prog (Ya (Tryz.f5.body.getD .skip)) ⟨131,hvT ops i,hsN,[],(([]:List (List D)).length,([]:List Fr).length)⟩ (X.then (LandS (HvJ ops) 131 (([]:List (List D)).length,([]:List Fr).length) k) Q):=by
 refine Dw ops i k hk hlt kd x r g1 g2 _ hx Q fun Q2=>?_
 conv=>enter [3];whnf
 have q0:(kd==0)=false:=by rw[hkd];rfl
 have q1:(kd==1)=true:=by rw[hkd];rfl
 repeat'(first|(apply Zx [0] [] (MJ n);kernel_rfl;(iterate 10 exact Z))|(apply Zg Za;exact Z)|(apply Zh Za;exact Z)|(apply Zs Za;exact Z)|(apply Ze;exact Z;(first|with_reducible assumption|decide +kernel|(solve|simp only[bn])))|(apply Zf;exact Z;(first|with_reducible assumption|decide +kernel|(solve|simp only[bn])))|refine ZD ?_)
 all_goals
  refine LandS.mk' (m:=0) (tm1:=hvU ops i 0 (.sl .nil [])) (bx:=hsN) [0] [] (by decide) ⟨[],0,Nat.zero_le _,⟨Nat.le_refl _,fun x hx=>(by cases hx),fun j x hx=>(by simp at hx)⟩,Du _ _,rfl,.inl ⟨rfl,rfl,rfl,rfl⟩⟩ rfl rfl rfl rfl ?_ rfl rfl rfl
  exact .cons rfl (.cons rfl (.cons rfl (.cons rfl (.cons rfl .nil))))
set_option maxRecDepth 10000 in
theorem DQ [Known](ops:List OpH)(i k:Nat)(hk:k+i=80)(hlt:i<ops.length/\i<80)(kd:Int)(x:EvV)(r:RyV)(g1:Z2 x=false)(g2:decide (((r.data.map E.byte).length:Int)>1000)=false)(n:Int)(hkd:kd=2)(hx:ops[i]?=some ⟨kd,n,x,r⟩)(h0:n=0)(Q:X->St->Prop) :
  AW Tryz.prog (Ya (Tryz.f5.body.getD .skip)) ⟨131,hvT ops i,hsN,[],(([]:List (List D)).length,([]:List Fr).length)⟩ (X.then (LandS (HvJ ops) 131 (([]:List (List D)).length,([]:List Fr).length) k) Q):=by
 refine Dw ops i k hk hlt kd x r g1 g2 _ hx Q fun Q2=>?_
 conv=>enter [3];whnf
 have q0:(kd==0)=false:=by rw[hkd];rfl
 have q1:(kd==1)=false:=by rw[hkd];rfl
 have q2:(kd==2)=true:=by rw[hkd];rfl
 repeat'(first|(apply Zx [0] [] (MI n h0);kernel_rfl;(iterate 10 exact Z))|(apply Zg Za;exact Z)|(apply Zh Za;exact Z)|(apply Zs Za;exact Z)|(apply Ze;exact Z;(first|with_reducible assumption|decide +kernel|(solve|simp only[bn])))|(apply Zf;exact Z;(first|with_reducible assumption|decide +kernel|(solve|simp only[bn])))|refine ZD ?_)
 all_goals
  refine LandS.mk' (m:=0) (tm1:=hvU ops i 0 (.sl .nil [])) (bx:=hsN) [0] [] (by decide) ⟨[],0,Nat.zero_le _,⟨Nat.le_refl _,fun x hx=>(by cases hx),fun j x hx=>(by simp at hx)⟩,Du _ _,rfl,.inl ⟨rfl,rfl,rfl,rfl⟩⟩ rfl rfl rfl rfl ?_ rfl rfl rfl
  exact .cons rfl (.cons rfl (.cons rfl (.cons rfl (.cons rfl .nil))))
set_option maxRecDepth 10000 in
theorem DR [Known](ops:List OpH)(i k:Nat)(hk:k+i=80)(hlt:i<ops.length/\i<80)(kd:Int)(x:EvV)(r:RyV)(g1:Z2 x=false)(g2:decide (((r.data.map E.byte).length:Int)>1000)=false)(n:Int)(hkd:kd=2)(hx:ops[i]?=some ⟨kd,n,x,r⟩)(h0:n ≠ 0)(Q:X->St->Prop) :
  AW Tryz.prog (Ya (Tryz.f5.body.getD .skip)) ⟨131,hvT ops i,hsN,[],(([]:List (List D)).length,([]:List Fr).length)⟩ (X.then (LandS (HvJ ops) 131 (([]:List (List D)).length,([]:List Fr).length) k) Q):=by
 refine Dw ops i k hk hlt kd x r g1 g2 _ hx Q fun Q2=>?_
 conv=>enter [3];whnf
 have q0:(kd==0)=false:=by rw[hkd];rfl
 have q1:(kd==1)=false:=by rw[hkd];rfl
 have q2:(kd==2)=true:=by rw[hkd];rfl
 repeat'(first|(apply Zx [0] [] (T8 n h0);kernel_rfl;(iterate 10 exact Z))|(apply Zg Za;exact Z)|(apply Zh Za;exact Z)|(apply Zs Za;exact Z)|(apply Ze;exact Z;(first|with_reducible assumption|decide +kernel|(solve|simp only[bn])))|(apply Zf;exact Z;(first|with_reducible assumption|decide +kernel|(solve|simp only[bn])))|refine ZD ?_)
 all_goals
  refine LandS.mk' (m:=0) (tm1:=hvU ops i 0 (.sl .nil [])) (bx:=hsN) [0] [] (by decide) ⟨[],0,Nat.zero_le _,⟨Nat.le_refl _,fun x hx=>(by cases hx),fun j x hx=>(by simp at hx)⟩,Du _ _,rfl,.inl ⟨rfl,rfl,rfl,rfl⟩⟩ rfl rfl rfl rfl ?_ rfl rfl rfl
  exact .cons rfl (.cons rfl (.cons rfl (.cons rfl (.cons rfl .nil))))
set_option maxRecDepth 10000 in
theorem DS [Known](ops:List OpH)(i k:Nat)(hk:k+i=80)(hlt:i<ops.length/\i<80)(kd:Int)(x:EvV)(r:RyV)(g1:Z2 x=false)(g2:decide (((r.data.map E.byte).length:Int)>1000)=false)(n:Int)(hkd:kd=3)(hx:ops[i]?=some ⟨kd,n,x,r⟩)(h0:n=0)(Q:X->St->Prop) :
  AW Tryz.prog (Ya (Tryz.f5.body.getD .skip)) ⟨131,hvT ops i,hsN,[],(([]:List (List D)).length,([]:List Fr).length)⟩ (X.then (LandS (HvJ ops) 131 (([]:List (List D)).length,([]:List Fr).length) k) Q):=by
 refine Dw ops i k hk hlt kd x r g1 g2 _ hx Q fun Q2=>?_
 conv=>enter [3];whnf
 have q0:(kd==0)=false:=by rw[hkd];rfl
 have q1:(kd==1)=false:=by rw[hkd];rfl
 have q2:(kd==2)=false:=by rw[hkd];rfl
 have q3:(kd==3)=true:=by rw[hkd];rfl
 repeat'(first|(apply Zx [0] [] (Ni n h0);kernel_rfl;(iterate 10 exact Z))|(apply Zx [0] [] (Dx);kernel_rfl;(iterate 10 exact Z))|(apply Zx [0] [] (DC);kernel_rfl;(iterate 10 exact Z))|(apply Zg Za;exact Z)|(apply Zh Za;exact Z)|(apply Zs Za;exact Z)|(apply Zd;(iterate 3 exact Z);(first|with_reducible assumption|decide +kernel|(solve|simp only[bn])))|(apply Zj;exact Z;(first|with_reducible assumption|decide +kernel|(solve|simp only[bn]));exact Z;exact Z)|(apply Ze;exact Z;(first|with_reducible assumption|decide +kernel|(solve|simp only[bn])))|(apply Zf;exact Z;(first|with_reducible assumption|decide +kernel|(solve|simp only[bn]))))
 all_goals
  refine LandS.mk' (m:=0) (tm1:=hvU ops i 0 (.sl .nil [])) (bx:=hsN) [0] [] (by decide) ⟨[],0,Nat.zero_le _,⟨Nat.le_refl _,fun x hx=>(by cases hx),fun j x hx=>(by simp at hx)⟩,Du _ _,rfl,.inl ⟨rfl,rfl,rfl,rfl⟩⟩ rfl rfl rfl rfl ?_ rfl rfl rfl
  exact .cons rfl (.cons rfl (.cons rfl (.cons rfl (.cons rfl .nil))))
set_option maxRecDepth 10000 in
theorem DT [Known](ops:List OpH)(i k:Nat)(hk:k+i=80)(hlt:i<ops.length/\i<80)(kd:Int)(x:EvV)(r:RyV)(g1:Z2 x=false)(g2:decide (((r.data.map E.byte).length:Int)>1000)=false)(n:Int)(hkd:kd=3)(hx:ops[i]?=some ⟨kd,n,x,r⟩)(h0:n<0)(Q:X->St->Prop) :
  AW Tryz.prog (Ya (Tryz.f5.body.getD .skip)) ⟨131,hvT ops i,hsN,[],(([]:List (List D)).length,([]:List Fr).length)⟩ (X.then (LandS (HvJ ops) 131 (([]:List (List D)).length,([]:List Fr).length) k) Q):=by
 refine Dw ops i k hk hlt kd x r g1 g2 _ hx Q fun Q2=>?_
 conv=>enter [3];whnf
 have q0:(kd==0)=false:=by rw[hkd];rfl
 have q1:(kd==1)=false:=by rw[hkd];rfl
 have q2:(kd==2)=false:=by rw[hkd];rfl
 have q3:(kd==3)=true:=by rw[hkd];rfl
 repeat'(first|(apply Zx [0] [] (Hs n h0);kernel_rfl;(iterate 10 exact Z))|(apply Zg Za;exact Z)|(apply Zh Za;exact Z)|(apply Zs Za;exact Z)|(apply Zr;(iterate 3 exact Z);(first|with_reducible assumption|decide +kernel|(solve|simp only[bn])))|(apply Zi;exact Z;(first|with_reducible assumption|decide +kernel|(solve|simp only[bn]));exact Z;exact Z)|(apply Ze;exact Z;(first|with_reducible assumption|decide +kernel|(solve|simp only[bn])))|(apply Zf;exact Z;(first|with_reducible assumption|decide +kernel|(solve|simp only[bn]))))
 all_goals
  refine LandS.mk' (m:=0) (tm1:=hvU ops i 0 (.sl .nil [])) (bx:=hsN) [0] [] (by decide) ⟨[],0,Nat.zero_le _,⟨Nat.le_refl _,fun x hx=>(by cases hx),fun j x hx=>(by simp at hx)⟩,Du _ _,rfl,.inl ⟨rfl,rfl,rfl,rfl⟩⟩ rfl rfl rfl rfl ?_ rfl rfl rfl
  exact .cons rfl (.cons rfl (.cons rfl (.cons rfl (.cons rfl .nil))))
set_option maxRecDepth 10000 in
theorem DU [Known](ops:List OpH)(i k:Nat)(hk:k+i=80)(hlt:i<ops.length/\i<80)(kd:Int)(x:EvV)(r:RyV)(g1:Z2 x=false)(g2:decide (((r.data.map E.byte).length:Int)>1000)=false)(n:Int)(hkd:kd=3)(hx:ops[i]?=some ⟨kd,n,x,r⟩)(h0:n>0)(Q:X->St->Prop) :
  AW Tryz.prog (Ya (Tryz.f5.body.getD .skip)) ⟨131,hvT ops i,hsN,[],(([]:List (List D)).length,([]:List Fr).length)⟩ (X.then (LandS (HvJ ops) 131 (([]:List (List D)).length,([]:List Fr).length) k) Q):=by
 refine Dw ops i k hk hlt kd x r g1 g2 _ hx Q fun Q2=>?_
 conv=>enter [3];whnf
 have q0:(kd==0)=false:=by rw[hkd];rfl
 have q1:(kd==1)=false:=by rw[hkd];rfl
 have q2:(kd==2)=false:=by rw[hkd];rfl
 have q3:(kd==3)=true:=by rw[hkd];rfl
 repeat'(first|(apply Zx [0] [] (Ht n h0);kernel_rfl;(iterate 10 exact Z))|(apply Zg Za;exact Z)|(apply Zh Za;exact Z)|(apply Zs Za;exact Z)|(apply Zr;(iterate 3 exact Z);(first|with_reducible assumption|decide +kernel|(solve|simp only[bn])))|(apply Zi;exact Z;(first|with_reducible assumption|decide +kernel|(solve|simp only[bn]));exact Z;exact Z)|(apply Ze;exact Z;(first|with_reducible assumption|decide +kernel|(solve|simp only[bn])))|(apply Zf;exact Z;(first|with_reducible assumption|decide +kernel|(solve|simp only[bn]))))
 all_goals
  refine LandS.mk' (m:=0) (tm1:=hvU ops i 0 (.sl .nil [])) (bx:=hsN) [0] [] (by decide) ⟨[],0,Nat.zero_le _,⟨Nat.le_refl _,fun x hx=>(by cases hx),fun j x hx=>(by simp at hx)⟩,Du _ _,rfl,.inl ⟨rfl,rfl,rfl,rfl⟩⟩ rfl rfl rfl rfl ?_ rfl rfl rfl
  exact .cons rfl (.cons rfl (.cons rfl (.cons rfl (.cons rfl .nil))))
set_option maxRecDepth 10000 in
theorem DV [Known][KnownU8](ops:List OpH)(i k:Nat)(hk:k+i=80)(hlt:i<ops.length/\i<80)(kd:Int)(x:EvV)(r:RyV)(g1:Z2 x=false)(g2:decide (((r.data.map E.byte).length:Int)>1000)=false)(n:Int)(hkd:kd=0)(hx:ops[i]?=some ⟨kd,n,x,r⟩)(h0:(Ye x&&Yk r)=false)(Q:X->St->Prop) :
  AW Tryz.prog (Ya (Tryz.f5.body.getD .skip)) ⟨131,hvT ops i,hsN,[],(([]:List (List D)).length,([]:List Fr).length)⟩ (X.then (LandS (HvJ ops) 131 (([]:List (List D)).length,([]:List Fr).length) k) Q):=by
 refine Dw ops i k hk hlt kd x r g1 g2 _ hx Q fun Q2=>?_
 conv=>enter [3];whnf
 have q0:(kd==0)=true:=by rw[hkd];rfl
 have hkx:Vb ⟨x,r,false,false⟩:=UV g1 g2
 repeat'(first|(apply Zx [0] [] (Hn x r hkx h0);kernel_rfl;(iterate 10 exact Z))|(apply Zg Za;exact Z)|(apply Zh Za;exact Z)|(apply Zs Za;exact Z)|(apply Ze;exact Z;(first|with_reducible assumption|decide +kernel|(solve|simp only[bn])))|refine ZD ?_)
 all_goals
  refine LandS.mk' (m:=0) (tm1:=hvU ops i 0 (.sl .nil [])) (bx:=hsN) [0] [] (by decide) ⟨[],0,Nat.zero_le _,⟨Nat.le_refl _,fun x hx=>(by cases hx),fun j x hx=>(by simp at hx)⟩,Du _ _,rfl,.inl ⟨rfl,rfl,rfl,rfl⟩⟩ rfl rfl rfl rfl ?_ rfl rfl rfl
  exact .cons rfl (.cons rfl (.cons rfl (.cons rfl (.cons rfl .nil))))
set_option maxRecDepth 10000 in
theorem D6 [Known][KnownU8](ops:List OpH)(i k:Nat)(hk:k+i=80)(hlt:i<ops.length/\i<80)(kd:Int)(x:EvV)(r:RyV)(g1:Z2 x=false)(g2:decide (((r.data.map E.byte).length:Int)>1000)=false)(n:Int)(hkd:kd=0)(hx:ops[i]?=some ⟨kd,n,x,r⟩)(h1:Ye x=true)(h2:Yk r=true)(Q:X->St->Prop) :
  AW Tryz.prog (Ya (Tryz.f5.body.getD .skip)) ⟨131,hvT ops i,hsN,[],(([]:List (List D)).length,([]:List Fr).length)⟩ (X.then (LandS (HvJ ops) 131 (([]:List (List D)).length,([]:List Fr).length) k) Q):=by
 refine Dw ops i k hk hlt kd x r g1 g2 _ hx Q fun Q2=>?_
 conv=>enter [3];whnf
 have q0:(kd==0)=true:=by rw[hkd];rfl
 have hkx:Vb ⟨x,r,false,false⟩:=UV g1 g2
 repeat'(first|(apply UB [0] ((Tn x r hkx h1 h2));kernel_rfl;(iterate 3 exact Z);exact(fun _=>rfl);exact Z;exact Z;exact(fun _=>rfl);intro c1 hc1)|(apply Zg Za;exact Z)|(apply Zh Za;exact Z)|(apply Zs Za;exact Z)|(apply Ze;exact Z;(first|with_reducible assumption|decide +kernel|(solve|simp only[bn])))|refine ZD ?_)
 all_goals
  refine LandS.mk' (m:=0) (tm1:=hvU ops i 0 (.sl .nil [])) (bx:=[[.bool true,.bsl 1 0 1 c1,.int .i64 0],[.row (c1*32) (lnF [⟨x,r,false,false⟩])]]) [0,2] [] (by decide) ⟨[⟨x,r,false,false⟩],0,Nat.le_add_left ..,⟨Nat.zero_le _,fun y hy=>by rw[List.mem_singleton.1 hy];exact hkx,fun j y hy ht=>by rw[List.mem_singleton.1 (List.mem_of_getElem? hy)]at ht;cases ht⟩,⟨Nat.le_refl _,Nat.zero_le _,fun k x x0 hk=>absurd hk (Nat.not_lt_zero _)⟩,rfl,.inr ⟨List.cons_ne_nil _ _,c1,hc1,rfl,rfl⟩⟩ rfl rfl rfl rfl ?_ rfl rfl rfl
  exact .cons rfl (.cons rfl (.cons rfl (.cons rfl (.cons rfl .nil))))
end Go.Proofs.YtchlgagdbflkmaaGreatDoor
end
