/- Package fields: a reader: bounded numbers, truths, texts, the end. -/
import Derived.Test.YtkdpfkjlheajhaaGreatDoorC15
import Derived.Test.YtkdpfkjlheajhaaGreatDoorC14
import Derived.Test.YtkdpfkjlheajhaaGreatDoorC11
import Derived.Test.YtkdpfkjlheajhaaGreatDoorC13
set_option linter.unusedVariables false
set_option linter.unusedSimpArgs false
section
open Go.RowKit Go.Pl Go.Av
namespace Go.Proofs.YtkdpfkjlheajhaaGreatDoor
set_option maxHeartbeats 4000000
theorem ZT (s:Nat × List UInt8):(Zt s).2.2.length<=s.2.length:=by
 unfold Zt
 split
 ·exact Xt _ _ _
 ·exact Nat.le_refl _
theorem OG (s:Nat × List UInt8):(Zt s).1<18446744073709551616:=by
 unfold Zt
 split
 ·exact KK _ _ _ (by decide) (by omega)
 ·show 0<_
  omega
def Z5 (top:Nat)(s:Nat × List UInt8):Nat × Nat × List UInt8:=match decide (((Zt s).1:Int)>(top:Int)) with|true=>(0,Vr 3 (Zt s).2)|false=>Zt s
theorem Qv (f:Nat)(s:Nat × List UInt8):(Vr f s).2=s.2:=by unfold Vr;split<;>rfl
theorem Qw (top:Nat)(s:Nat × List UInt8):(Z5 top s).2.2.length<=s.2.length:=by
 have:=ZT s
 unfold Z5
 split
 ·show(Vr 3 (Zt s).2).2.length<=_;rw[Qv];exact this
 ·exact this
theorem KS (top:Nat)(s:Nat × List UInt8):(Z5 top s).1<=top:=by
 unfold Z5
 split
 ·exact Nat.zero_le _
 ·rename_i h;have:=of_decide_eq_false h;omega
theorem Jr [Known](top:Nat)(s:Nat × List UInt8)(hb:s.2.length<=1000000):AQ Tryz.prog 98 [.ptr 0 0,.int .u64 (top:Int)] (rdD s) (.int .u64 ((Z5 top s).1:Int)) (rdD (Z5 top s).2):=by
 have hN:=Ya s hb
 unfold Z5
 generalize Zt s=p at *
 obtain⟨n,e,q⟩:=p
 obtain⟨e0,b⟩:=s
 have hX:=Us (e,q) 3
 generalize Vr 3 (e,q)=z at *
 obtain⟨z1,z2⟩:=z
 dsimp only at hN hX ⊢
 replace hX:AQ Tryz.prog _ [.ptr 0 0,.int .i64 3] _ _ _:=hX
 cases t:decide ((n:Int)>(top:Int))
 all_goals
  dsimp only
  refine AQ.weak (Zm Tryz.func98 Z Tryz.ntmps98 Z Z ?_)
  repeat'(first|(apply Zh [0] (hN);kernel_rfl;(iterate 7 exact Z))|(apply Zh [0] (hX);kernel_rfl;(iterate 7 exact Z))|(apply Zj Za;exact Z)|(apply Zg Za;exact Z)|refine Zf Z Qt ?_|refine Ze Z Qt ?_)
  all_goals(apply Zu [0];(apply Zd Za;exact Z);(iterate 4 exact Z))
  all_goals rfl
theorem Z2 [Known](s:Nat × List UInt8)(hb:s.2.length<=1000000):AQ Tryz.prog 70 [.ptr 0 0] (rdD s) (.int .i64 ((Z5 1099511627776 s).1:Int)) (rdD (Z5 1099511627776 s).2):=by
 have hM:=Jr 1099511627776 s hb
 have hl:=KS 1099511627776 s
 replace hM:AQ Tryz.prog _ [.ptr 0 0,.int .u64 1099511627776] _ _ _:=hM
 generalize Z5 1099511627776 s=p at *
 obtain⟨n,e,q⟩:=p
 obtain⟨e0,b⟩:=s
 dsimp only at hM hl ⊢
 have e1:IntKind.i64.wrap (n:Int)=(n:Int):=IntWalk.i64_in _ (by omega)
 refine AQ.weak (Zm Tryz.func70 Z Tryz.ntmps70 Z Z ?_)
 repeat'(first|rw[e1]|(apply Zh [0] (hM);kernel_rfl;(iterate 7 exact Z))|(apply Zj Za;exact Z)|(apply Zg Za;exact Z))
 all_goals(apply Zu [0];(apply Zd Za;exact Z);(iterate 4 exact Z))
 all_goals rfl
theorem Js [Known](s:Nat × List UInt8)(hb:s.2.length<=1000000):AQ Tryz.prog 100 [.ptr 0 0] (rdD s) (.bool (((Z5 1 s).1:Int)==1)) (rdD (Z5 1 s).2):=by
 have hM:=Jr 1 s hb
 replace hM:AQ Tryz.prog _ [.ptr 0 0,.int .u64 1] _ _ _:=hM
 generalize Z5 1 s=p at *
 obtain⟨n,e,q⟩:=p
 obtain⟨e0,b⟩:=s
 dsimp only at hM ⊢
 refine AQ.weak (Zm Tryz.func100 Z Tryz.ntmps100 Z Z ?_)
 repeat'(first|(apply Zh [0] (hM);kernel_rfl;(iterate 7 exact Z))|(apply Zj Za;exact Z)|(apply Zg Za;exact Z))
 all_goals(apply Zu [0];(apply Zd Za;exact Z);(iterate 4 exact Z))
 all_goals rfl
def VA (s:Nat × List UInt8):List UInt8 × Nat × List UInt8:=match((Zt s).2.1:Int)==0 with
 | false=>([],(Zt s).2)
 | true=>match decide (((Zt s).1:Int)>((Zt s).2.2.length:Int)) with
  | true=>([],Vr 8 (Zt s).2)
  | false=>((Zt s).2.2.take (Zt s).1,(Zt s).2.1,(Zt s).2.2.drop (Zt s).1)
theorem UP (s:Nat × List UInt8):(VA s).2.2.length<=s.2.length/\(VA s).1.length<=s.2.length:=by
 have:=ZT s
 unfold VA
 split
 ·exact⟨this,Nat.zero_le _⟩
 ·split
  ·exact⟨by show(Vr 8 (Zt s).2).2.length<=_;rw[Qv];exact this,Nat.zero_le _⟩
  ·simp only[List.length_drop,List.length_take];omega
theorem Jt [Known](s:Nat × List UInt8)(hb:s.2.length<=1000000):AQ Tryz.prog 72 [.ptr 0 0] (rdD s) (byE (VA s).1) (rdD (VA s).2):=by
 have hN:=Ya s hb
 have hlt:=OG s
 have hle:=ZT s
 unfold VA
 generalize Zt s=p at *
 obtain⟨n,e,q⟩:=p
 obtain⟨e0,b⟩:=s
 have hF:=QN (e,q)
 have hX:=Us (e,q) 8
 generalize Vr 8 (e,q)=z at *
 obtain⟨z1,z2⟩:=z
 dsimp only at hN hX hF hb hlt hle ⊢
 replace hX:AQ Tryz.prog _ [.ptr 0 0,.int .i64 8] _ _ _:=hX
 have hql:(q.map E.byte).length=q.length:=List.length_map ..
 have e1:IntKind.u64.wrap (((q.map E.byte).length:Nat):Int)=(q.length:Int):=by rw[hql];exact IntWalk.u64_in _ (by omega)
 have hU:=ZV q
 cases t1:(e:Int)==0 with
 | false=>
  rw[t1]at hF
  dsimp only
  refine AQ.weak (Zm Tryz.func72 Z Tryz.ntmps72 Z Z ?_)
  repeat'(first|(apply Zh [0] (hN);kernel_rfl;(iterate 7 exact Z))|(apply Zh [0] (hF);kernel_rfl;(iterate 7 exact Z))|(apply Zj Za;exact Z)|(apply Zg Za;exact Z)|(apply Zq Za;exact Z)|refine Zf Z Qt ?_)
  all_goals(apply Zu [0];(apply Zd Za;exact Z);(iterate 4 exact Z))
  all_goals rfl
 | true=>
  rw[t1]at hF
  cases t2:decide ((n:Int)>(q.length:Int)) with
  | true=>
   dsimp only
   refine AQ.weak (Zm Tryz.func72 Z Tryz.ntmps72 Z Z ?_)
   repeat'(first|rw[e1]|(apply Zh [0] (hN);kernel_rfl;(iterate 7 exact Z))|(apply Zh [0] (hF);kernel_rfl;(iterate 7 exact Z))|(apply Zh [0] (hX);kernel_rfl;(iterate 7 exact Z))|(apply Zj Za;exact Z)|(apply Zg Za;exact Z)|(apply Zq Za;exact Z)|refine Zf Z Qt ?_|refine Ze Z Qt ?_|refine Zp Za Z Z Z Z ?_)
   all_goals(apply Zu [0];(apply Zd Za;exact Z);(iterate 4 exact Z))
   all_goals rfl
  | false=>
   have hnq:n<=q.length:=by have:=of_decide_eq_false t2;omega
   have hC:=Ww (q.take n) (by rw[List.length_take];omega)
   have hd:q.drop ((n:Nat):Int).toNat=q.drop n:=rfl
   have ht:q.take ((n:Nat):Int).toNat=q.take n:=rfl
   have hq2:((n:Nat):Int).toNat<=q.length:=hnq
   dsimp only
   refine AQ.weak (Zm Tryz.func72 Z Tryz.ntmps72 Z Z ?_)
   repeat'(first|rw[e1]|(apply Zh [0] (hN);kernel_rfl;(iterate 7 exact Z))|(apply Zh [0] (hF);kernel_rfl;(iterate 7 exact Z))|(apply Zc (hC);kernel_rfl;(iterate 4 exact Z))|(apply Y9 Za;(iterate 8 exact Z);exact Qb;(first|with_reducible assumption|decide|(simp only[List.length_cons,List.length_drop,List.length_take,List.length_append,Int.toNat_natCast]at *;omega));(first|with_reducible assumption|exact Z))|(apply On Za;(iterate 8 exact Z);exact Qb;(first|with_reducible assumption|decide|(simp only[List.length_cons,List.length_drop,List.length_take,List.length_append,Int.toNat_natCast]at *;omega));(first|with_reducible assumption|exact Z))|(apply Zj Za;exact Z)|(apply Zg Za;exact Z)|(apply Zq Za;exact Z)|refine Ze Z Qt ?_|refine Zp Za Z Z Z Z ?_)
   all_goals(apply Zu [0];(apply Zd Za;exact Z);(iterate 4 exact Z))
   all_goals rfl
def WW (s:Nat × List UInt8):Nat:=match(s.1:Int)==0 with
 | false=>s.1
 | true=>match decide ((s.2.length:Int)>0) with|true=>2|false=>0
theorem Yz [Known](s:Nat × List UInt8):AQ Tryz.prog 73 [.ptr 0 0] (rdD s) (.int .i64 (WW s:Int)) (rdD s):=by
 obtain⟨e,q⟩:=s
 unfold WW
 have hql:(q.map E.byte).length=q.length:=List.length_map ..
 cases t1:(e:Int)==0 with
 | false=>
  have t2:((e:Int) != 0)=true:=by rw[bne,t1];rfl
  dsimp only
  refine AQ.weak (Zm Tryz.func73 Z Tryz.ntmps73 Z Z ?_)
  repeat'(first|(apply Zj Za;exact Z)|(apply Zg Za;exact Z)|(apply Zq Za;exact Z)|refine Zi Z Z Z Qt ?_|refine Zl Z Qt Z Z ?_|refine Zf Z Qt ?_|refine Ze Z Qt ?_)
  all_goals(apply Zu [0];(apply Zd Za;exact Z);(iterate 4 exact Z))
  all_goals rfl
 | true=>
  have t2:((e:Int) != 0)=false:=by rw[bne,t1];rfl
  cases t3:decide ((q.length:Int)>0)
  all_goals
   rw[<- hql]at t3
   dsimp only
   refine AQ.weak (Zm Tryz.func73 Z Tryz.ntmps73 Z Z ?_)
   repeat'(first|(apply Zj Za;exact Z)|(apply Zg Za;exact Z)|(apply Zq Za;exact Z)|refine Zi Z Z Z Qt ?_|refine Zl Z Qt Z Z ?_|refine Zf Z Qt ?_|refine Ze Z Qt ?_|refine Zp Za Z Z Z Z ?_)
   all_goals(apply Zu [0];(apply Zd Za;exact Z);(iterate 4 exact Z))
   all_goals rfl
def YV (x:RqV):List UInt8:=
 if x.kd==1||x.kd==3 then vn (Zw x.ep).length++(Zw x.ep++vn x.pol.toNat)
 else if x.kd==2||x.kd==6 then vn (Zw x.ep).length++Zw x.ep
 else if x.kd==4 then vn (Zw x.ep).length++(Zw x.ep++(vn (Zw x.ds).length++(Zw x.ds++(vn x.pay.length++(x.pay++(vn x.life++vn x.on.toNat))))))
 else if x.kd==5||(x.kd==8||x.kd==9) then vn x.num.toNat
 else if x.kd==7 then vn (Zw x.ep).length++(Zw x.ep++vn x.tik.toNat)
 else if x.kd==10 then vn x.on.toNat
 else if x.kd==12 then vn x.tok
 else []
def ZH (x:RqV):List UInt8:=vn x.id++(vn x.kd.toNat++YV x)
abbrev Rd:=Nat × List UInt8
def nmS (s:Rd):EidV × Rd:=((if(WO (VA s).1).2 then(WO (VA s).1).1 else ZD),(VA s).2)
abbrev ZL (s:Rd):Nat × Rd:=Z5 1099511627776 s
def X1 (s:Rd):Bool × Rd:=(((Z5 1 s).1:Int)==1,(Z5 1 s).2)
def J2 (k:Nat)(z:RqV)(s:Rd):RqV × Rd:=
 if k==1||k==3 then({ z with ep:=(nmS s).1,pol:=((ZL (nmS s).2).1:Int) },(ZL (nmS s).2).2)
 else if k==2||k==6 then({ z with ep:=(nmS s).1 },(nmS s).2)
 else if k==4 then
  ({ z with ep:=(nmS s).1,ds:=(nmS (nmS s).2).1,pay:=(VA (nmS (nmS s).2).2).1,life:=(Zt (VA (nmS (nmS s).2).2).2).1,on:=(X1 (Zt (VA (nmS (nmS s).2).2).2).2).1 },(X1 (Zt (VA (nmS (nmS s).2).2).2).2).2)
 else if k==5||(k==8||k==9) then({ z with num:=((ZL s).1:Int) },(ZL s).2)
 else if k==7 then({ z with ep:=(nmS s).1,tik:=((ZL (nmS s).2).1:Int) },(ZL (nmS s).2).2)
 else if k==10 then({ z with on:=(X1 s).1 },(X1 s).2)
 else if k==12 then({ z with tok:=(Zt s).1 },(Zt s).2)
 else(z,s)
abbrev GT (id k:Nat):RqV:=⟨id,(k:Int),ZD,ZD,0,0,0,[],0,0,false⟩
def ZI (b:List UInt8):RqV × Rd:=J2 (ZL (Zt (0,b)).2).1 (GT (Zt (0,b)).1 (ZL (Zt (0,b)).2).1) (ZL (Zt (0,b)).2).2
def YN (b:List UInt8):Bool:=ZQ (ZI b).1&&((WW (ZI b).2==0)&&(ZH (ZI b).1==b))
theorem KT {x:RqV}(h:ZQ x=true):x.id<18446744073709551616/\WJ x=true/\Vv x (UF x)=true:=by
 unfold ZQ at h
 simp only[Bool.and_eq_true,decide_eq_true_eq]at h
 exact⟨by omega,h.2.2.1,h.2.2.2⟩
theorem Yb {x:EidV}(h:UE x=true):Yd x=true:=by
 unfold UE at h
 rw[Bool.and_eq_true]at h
 exact h.1
def VW {α β:Type}(ok:α->Bool)(get:α->β):List β->List α->List β × Nat
 | w,[]=>(w,0)
 | w,f::fs=>match ok f with
  | false=>(w,3)
  | true=>match decide (8<=w.length) with
   | true=>(w,5)
   | false=>VW ok get (w++[get f]) fs
theorem X2 {α β:Type}{ok:α->Bool}{get:α->β}{w:List β}{f:α}(fs:List α)(h:ok f=false):VW ok get w (f::fs)=(w,3):=by
 rw[VW,h]
theorem J3 {α β:Type}{ok:α->Bool}{get:α->β}{w:List β}{f:α}(fs:List α)(h:ok f=true)(h8:8<=w.length):VW ok get w (f::fs)=(w,5):=by
 rw[VW,h,show decide (8<=w.length)=true from decide_eq_true h8]
theorem X3 {α β:Type}{ok:α->Bool}{get:α->β}{w:List β}{f:α}(fs:List α)(h:ok f=true)(h8:¬ 8<=w.length):VW ok get w (f::fs)=VW ok get (w++[get f]) fs:=by
 rw[VW,h,show decide (8<=w.length)=false from decide_eq_false h8]
def Yj (w:List RqV)(l:List (List UInt8)):List RqV × Nat:=VW YN (fun f=>(ZI f).1) w l
theorem V6 (w:List RqV):Yj w []=(w,0):=rfl
theorem YW {w:List RqV}{f:List UInt8}(fs:List (List UInt8))(h:YN f=false):Yj w (f::fs)=(w,3):=X2 fs h
theorem YX {w:List RqV}{f:List UInt8}(fs:List (List UInt8))(h:YN f=true)(h8:8<=w.length):Yj w (f::fs)=(w,5):=J3 fs h h8
theorem Wz {w:List RqV}{f:List UInt8}(fs:List (List UInt8))(h:YN f=true)(h8:¬ 8<=w.length):Yj w (f::fs)=Yj (w++[(ZI f).1]) fs:=X3 fs h h8
theorem Vd (a b:List (List UInt8)):∀ w,((Yj w a).2=0->Yj w (a++b)=Yj (Yj w a).1 b)/\((Yj w a).2 ≠ 0->Yj w (a++b)=Yj w a):=by
 induction a with
 | nil=>intro w;exact⟨fun _=>rfl,fun h=>(h rfl).elim⟩
 | cons f fs ih=>
  intro w
  rw[List.cons_append]
  cases h:YN f with
  | false=>
   rw[YW fs h,YW (fs++b) h]
   exact⟨fun e=>(nomatch e),fun _=>rfl⟩
  | true=>
   by_cases h8:8<=w.length
   ·rw[YX fs h h8,YX (fs++b) h h8]
    exact⟨fun e=>(nomatch e),fun _=>rfl⟩
   ·rw[Wz fs h h8,Wz (fs++b) h h8]
    exact ih _
theorem J4 (l:List (List UInt8)):∀ w,w.length<=8->(Yj w l).1.length<=8:=by
 induction l with
 | nil=>intro w h;exact h
 | cons f fs ih=>
  intro w hw
  cases h:YN f with
  | false=>rw[YW fs h];exact hw
  | true=>
   by_cases h8:8<=w.length
   ·rw[YX fs h h8];exact hw
   ·rw[Wz fs h h8]
    exact ih _ (by rw[List.length_append];simp;omega)
def W3 (left:List UInt8)(w:List RqV)(b:List UInt8):List UInt8 × List RqV × Nat × Nat:=
 ((ZG (left++b)).2.1,(Yj w (ZG (left++b)).1).1,(if(Yj w (ZG (left++b)).1).2=0 then(ZG (left++b)).2.2 else(Yj w (ZG (left++b)).1).2),(ZG (left++b)).2.2)
abbrev Zy (b:List UInt8):=W3 [] [] b
theorem YO:Zy []=([],[],0,0):=by
 unfold Zy W3
 rw[List.append_nil,Y3 (by decide)]
 rfl
theorem YY {p:List UInt8}(h:(Zy p).2.2.1=0):(Yj [] (ZG p).1).2=0/\(ZG p).2.2=0:=by
 unfold Zy W3 at h
 simp only[List.nil_append]at h
 by_cases g:(Yj [] (ZG p).1).2=0
 ·rw[if_pos g]at h
  exact⟨g,h⟩
 ·rw[if_neg g]at h
  exact(g h).elim
theorem Yq {p:List UInt8}(x:List UInt8)(h:(Zy p).2.2.1=0):Zy (p++x)=W3 (Zy p).1 (Zy p).2.1 x:=by
 obtain⟨h1,h2⟩:=YY h
 have hA:=VT p x
 unfold VS at hA
 rw[if_pos h2]at hA
 have hB:=(Vd (ZG p).1 (ZG ((ZG p).2.1++x)).1 []).1 h1
 unfold Zy W3
 simp only[List.nil_append]
 rw[hA]
 simp only
 rw[hB]
theorem Qx {p:List UInt8}(x:List UInt8)(h:(Zy p).2.2.1 ≠ 0):(Zy (p++x)).2.2.1=(Zy p).2.2.1:=by
 have hA:=VT p x
 unfold Zy W3 at h ⊢
 simp only[List.nil_append]at h ⊢
 by_cases g:(Yj [] (ZG p).1).2=0
 ·rw[if_pos g]at h
  unfold VS at hA
  rw[if_neg h,List.append_nil]at hA
  rw[hA]
 ·have hB:=(Vd (ZG p).1 (VS (ZG p).2 x).1 []).2 g
  rw[hA]
  simp only
  rw[hB,if_neg g,if_neg g]
theorem ZU (p:List UInt8):(Zy p).2.1.length<=8:=J4 _ _ (by simp)
theorem Yr (p:List UInt8):(Zy p).1.length<=p.length:=by
 have h:=JT ([]++p)
 exact h
theorem Ul (b:List UInt8):∀ f ∈ (ZG b).1,f.length<=1000:=by
 fun_induction ZG b with
 | case1 b h=>simp
 | case2 b h h0=>simp
 | case3 b h h0 h1=>simp
 | case4 b h h0 h1 h2=>simp
 | case5 b h h0 h1 h2 r ih=>
  intro f hf
  rcases List.mem_cons.1 hf with rfl|hf
  ·simp only[List.length_drop,List.length_take];omega
  ·exact ih f hf
theorem GU [Known](id:Nat)(ei:Bool)(en es:Nat)(eh ed:List UInt8)(di:Bool)(dn dq:Nat)(dh dd:List UInt8)(pol num tik:Int)(pay:List UInt8)(life tok:Nat)(on:Bool)(L0 L1 L2 L3 R:List E)(c0 c1 c2 c3:Nat)(hR:AP Tryz.prog 93 [.agg [.int .u64 (id:Int),.int .i64 1,.bool ei,.int .u64 (en:Int),.int .u64 (es:Int),.str eh,.str ed,.bool di,.int .u64 (dn:Int),.int .u64 (dq:Int),.str dh,.str dd,.int .i64 pol,.int .i64 num,.int .i64 tik,.sl .ext (pay.map E.byte),.int .u64 (life:Int),.int .u64 (tok:Int),.bool on]] (.bool true) [])(hN:AT Tryz.prog 62 [] [] [] (.ptr 0 0) [[.bool true,.sl .nil []]] [])
  (h0:AT Tryz.prog 63 [.ptr 0 0,.int .u64 (id:Int)] [[.bool true,.sl .nil []]] [] (.ptr 0 0) [[.bool true,.sl (.own 0) L0]] [⟨c0,1,5⟩])
  (h1:AT Tryz.prog 64 [.ptr 0 0,.int .i64 1] [[.bool true,.sl (.own 0) L0]] [⟨c0,1,5⟩] (.ptr 0 0) [[.bool true,.sl (.own 0) L1]] [⟨c1,1,5⟩])
  (h2:AT Tryz.prog 94 [.ptr 0 0,.agg [.bool ei,.int .u64 (en:Int),.int .u64 (es:Int),.str eh,.str ed]] [[.bool true,.sl (.own 0) L1]] [⟨c1,1,5⟩] (.tup []) [[.bool true,.sl (.own 0) L2]] [⟨c2,1,5⟩])
  (h3:AT Tryz.prog 64 [.ptr 0 0,.int .i64 pol] [[.bool true,.sl (.own 0) L2]] [⟨c2,1,5⟩] (.ptr 0 0) [[.bool true,.sl (.own 0) L3]] [⟨c3,1,5⟩])
  (hB:AT Tryz.prog 67 [.ptr 0 0] [[.bool true,.sl (.own 0) L3]] [⟨c3,1,5⟩] (.sl .ext R) [[.bool true,.sl (.own 0) L3]] [⟨c3,1,5⟩]) :
  AP Tryz.prog 65 [.agg [.int .u64 (id:Int),.int .i64 1,.bool ei,.int .u64 (en:Int),.int .u64 (es:Int),.str eh,.str ed,.bool di,.int .u64 (dn:Int),.int .u64 (dq:Int),.str dh,.str dd,.int .i64 pol,.int .i64 num,.int .i64 tik,.sl .ext (pay.map E.byte),.int .u64 (life:Int),.int .u64 (tok:Int),.bool on]] (.tup [.sl .ext R,.int .i64 0]) []:=by
 refine AP.ofA (Zm Tryz.func65 Z Tryz.ntmps65 Z Z ?_)
 repeat'(first|(apply Zc (hR);kernel_rfl;(iterate 4 exact Z))|(apply Zb [] [] (hN);kernel_rfl;(iterate 10 exact Z))|(apply Zb [1] [] (h0);kernel_rfl;(iterate 10 exact Z))|(apply Zb [1] [0] (h1);kernel_rfl;(iterate 10 exact Z))|(apply Zb [1] [0] (h2);kernel_rfl;(iterate 10 exact Z))|(apply Zb [1] [0] (h3);kernel_rfl;(iterate 10 exact Z))|(apply Zb [1] [0] (hB);kernel_rfl;(iterate 10 exact Z))|(apply Zj Za;exact Z)|(apply Zg Za;exact Z)|(apply Zq Za;exact Z)|(apply Zf;exact Z;(first|with_reducible assumption|decide +kernel|(solve|simp only[bn])))|(apply Ze;exact Z;(first|with_reducible assumption|decide +kernel|(solve|simp only[bn])))|(apply Zx 6 Z9;decide +kernel;kernel_rfl;kernel_rfl;kernel_rfl;exact Z;exact Z)|(apply ZB;(iterate 4 exact Z))|exact AE.nil _ _ _ _|(apply ZF;exact Z)|(apply Z8;exact Z)|(apply ZN;exact Z;exact Z;decide +kernel;exact Z)|(apply ZP;exact Z)|(apply Yu;exact Z)|exact AO.nil _ _ _|(apply ZA;(decide +kernel))|(apply ZO;(iterate 3 exact Z))|exact AOs.nil|exact ZY rfl rfl|exact Y2 rfl rfl)
 all_goals exact Qe
theorem GV [Known](id:Nat)(ei:Bool)(en es:Nat)(eh ed:List UInt8)(di:Bool)(dn dq:Nat)(dh dd:List UInt8)(pol num tik:Int)(pay:List UInt8)(life tok:Nat)(on:Bool)(L0 L1 L2 R:List E)(c0 c1 c2:Nat)(hR:AP Tryz.prog 93 [.agg [.int .u64 (id:Int),.int .i64 2,.bool ei,.int .u64 (en:Int),.int .u64 (es:Int),.str eh,.str ed,.bool di,.int .u64 (dn:Int),.int .u64 (dq:Int),.str dh,.str dd,.int .i64 pol,.int .i64 num,.int .i64 tik,.sl .ext (pay.map E.byte),.int .u64 (life:Int),.int .u64 (tok:Int),.bool on]] (.bool true) [])(hN:AT Tryz.prog 62 [] [] [] (.ptr 0 0) [[.bool true,.sl .nil []]] [])
  (h0:AT Tryz.prog 63 [.ptr 0 0,.int .u64 (id:Int)] [[.bool true,.sl .nil []]] [] (.ptr 0 0) [[.bool true,.sl (.own 0) L0]] [⟨c0,1,5⟩])
  (h1:AT Tryz.prog 64 [.ptr 0 0,.int .i64 2] [[.bool true,.sl (.own 0) L0]] [⟨c0,1,5⟩] (.ptr 0 0) [[.bool true,.sl (.own 0) L1]] [⟨c1,1,5⟩])
  (h2:AT Tryz.prog 94 [.ptr 0 0,.agg [.bool ei,.int .u64 (en:Int),.int .u64 (es:Int),.str eh,.str ed]] [[.bool true,.sl (.own 0) L1]] [⟨c1,1,5⟩] (.tup []) [[.bool true,.sl (.own 0) L2]] [⟨c2,1,5⟩])
  (hB:AT Tryz.prog 67 [.ptr 0 0] [[.bool true,.sl (.own 0) L2]] [⟨c2,1,5⟩] (.sl .ext R) [[.bool true,.sl (.own 0) L2]] [⟨c2,1,5⟩]) :
  AP Tryz.prog 65 [.agg [.int .u64 (id:Int),.int .i64 2,.bool ei,.int .u64 (en:Int),.int .u64 (es:Int),.str eh,.str ed,.bool di,.int .u64 (dn:Int),.int .u64 (dq:Int),.str dh,.str dd,.int .i64 pol,.int .i64 num,.int .i64 tik,.sl .ext (pay.map E.byte),.int .u64 (life:Int),.int .u64 (tok:Int),.bool on]] (.tup [.sl .ext R,.int .i64 0]) []:=by
 refine AP.ofA (Zm Tryz.func65 Z Tryz.ntmps65 Z Z ?_)
 repeat'(first|(apply Zc (hR);kernel_rfl;(iterate 4 exact Z))|(apply Zb [] [] (hN);kernel_rfl;(iterate 10 exact Z))|(apply Zb [1] [] (h0);kernel_rfl;(iterate 10 exact Z))|(apply Zb [1] [0] (h1);kernel_rfl;(iterate 10 exact Z))|(apply Zb [1] [0] (h2);kernel_rfl;(iterate 10 exact Z))|(apply Zb [1] [0] (hB);kernel_rfl;(iterate 10 exact Z))|(apply Zj Za;exact Z)|(apply Zg Za;exact Z)|(apply Zq Za;exact Z)|(apply Zf;exact Z;(first|with_reducible assumption|decide +kernel|(solve|simp only[bn])))|(apply Ze;exact Z;(first|with_reducible assumption|decide +kernel|(solve|simp only[bn])))|(apply Zx 6 Z9;decide +kernel;kernel_rfl;kernel_rfl;kernel_rfl;exact Z;exact Z)|(apply ZB;(iterate 4 exact Z))|exact AE.nil _ _ _ _|(apply ZF;exact Z)|(apply Z8;exact Z)|(apply ZN;exact Z;exact Z;decide +kernel;exact Z)|(apply ZP;exact Z)|(apply Yu;exact Z)|exact AO.nil _ _ _|(apply ZA;(decide +kernel))|(apply ZO;(iterate 3 exact Z))|exact AOs.nil|exact ZY rfl rfl|exact Y2 rfl rfl)
 all_goals exact Qe
theorem GW [Known](id:Nat)(ei:Bool)(en es:Nat)(eh ed:List UInt8)(di:Bool)(dn dq:Nat)(dh dd:List UInt8)(pol num tik:Int)(pay:List UInt8)(life tok:Nat)(on:Bool)(L0 L1 L2 L3 R:List E)(c0 c1 c2 c3:Nat)(hR:AP Tryz.prog 93 [.agg [.int .u64 (id:Int),.int .i64 3,.bool ei,.int .u64 (en:Int),.int .u64 (es:Int),.str eh,.str ed,.bool di,.int .u64 (dn:Int),.int .u64 (dq:Int),.str dh,.str dd,.int .i64 pol,.int .i64 num,.int .i64 tik,.sl .ext (pay.map E.byte),.int .u64 (life:Int),.int .u64 (tok:Int),.bool on]] (.bool true) [])(hN:AT Tryz.prog 62 [] [] [] (.ptr 0 0) [[.bool true,.sl .nil []]] [])
  (h0:AT Tryz.prog 63 [.ptr 0 0,.int .u64 (id:Int)] [[.bool true,.sl .nil []]] [] (.ptr 0 0) [[.bool true,.sl (.own 0) L0]] [⟨c0,1,5⟩])
  (h1:AT Tryz.prog 64 [.ptr 0 0,.int .i64 3] [[.bool true,.sl (.own 0) L0]] [⟨c0,1,5⟩] (.ptr 0 0) [[.bool true,.sl (.own 0) L1]] [⟨c1,1,5⟩])
  (h2:AT Tryz.prog 94 [.ptr 0 0,.agg [.bool ei,.int .u64 (en:Int),.int .u64 (es:Int),.str eh,.str ed]] [[.bool true,.sl (.own 0) L1]] [⟨c1,1,5⟩] (.tup []) [[.bool true,.sl (.own 0) L2]] [⟨c2,1,5⟩])
  (h3:AT Tryz.prog 64 [.ptr 0 0,.int .i64 pol] [[.bool true,.sl (.own 0) L2]] [⟨c2,1,5⟩] (.ptr 0 0) [[.bool true,.sl (.own 0) L3]] [⟨c3,1,5⟩])
  (hB:AT Tryz.prog 67 [.ptr 0 0] [[.bool true,.sl (.own 0) L3]] [⟨c3,1,5⟩] (.sl .ext R) [[.bool true,.sl (.own 0) L3]] [⟨c3,1,5⟩]) :
  AP Tryz.prog 65 [.agg [.int .u64 (id:Int),.int .i64 3,.bool ei,.int .u64 (en:Int),.int .u64 (es:Int),.str eh,.str ed,.bool di,.int .u64 (dn:Int),.int .u64 (dq:Int),.str dh,.str dd,.int .i64 pol,.int .i64 num,.int .i64 tik,.sl .ext (pay.map E.byte),.int .u64 (life:Int),.int .u64 (tok:Int),.bool on]] (.tup [.sl .ext R,.int .i64 0]) []:=by
 refine AP.ofA (Zm Tryz.func65 Z Tryz.ntmps65 Z Z ?_)
 repeat'(first|(apply Zc (hR);kernel_rfl;(iterate 4 exact Z))|(apply Zb [] [] (hN);kernel_rfl;(iterate 10 exact Z))|(apply Zb [1] [] (h0);kernel_rfl;(iterate 10 exact Z))|(apply Zb [1] [0] (h1);kernel_rfl;(iterate 10 exact Z))|(apply Zb [1] [0] (h2);kernel_rfl;(iterate 10 exact Z))|(apply Zb [1] [0] (h3);kernel_rfl;(iterate 10 exact Z))|(apply Zb [1] [0] (hB);kernel_rfl;(iterate 10 exact Z))|(apply Zj Za;exact Z)|(apply Zg Za;exact Z)|(apply Zq Za;exact Z)|(apply Zf;exact Z;(first|with_reducible assumption|decide +kernel|(solve|simp only[bn])))|(apply Ze;exact Z;(first|with_reducible assumption|decide +kernel|(solve|simp only[bn])))|(apply Zx 6 Z9;decide +kernel;kernel_rfl;kernel_rfl;kernel_rfl;exact Z;exact Z)|(apply ZB;(iterate 4 exact Z))|exact AE.nil _ _ _ _|(apply ZF;exact Z)|(apply Z8;exact Z)|(apply ZN;exact Z;exact Z;decide +kernel;exact Z)|(apply ZP;exact Z)|(apply Yu;exact Z)|exact AO.nil _ _ _|(apply ZA;(decide +kernel))|(apply ZO;(iterate 3 exact Z))|exact AOs.nil|exact ZY rfl rfl|exact Y2 rfl rfl)
 all_goals exact Qe
theorem GX [Known](id:Nat)(ei:Bool)(en es:Nat)(eh ed:List UInt8)(di:Bool)(dn dq:Nat)(dh dd:List UInt8)(pol num tik:Int)(pay:List UInt8)(life tok:Nat)(on:Bool)(L0 L1 L2 L3 L4 L5 L6 R:List E)(c0 c1 c2 c3 c4 c5 c6:Nat)(hR:AP Tryz.prog 93 [.agg [.int .u64 (id:Int),.int .i64 4,.bool ei,.int .u64 (en:Int),.int .u64 (es:Int),.str eh,.str ed,.bool di,.int .u64 (dn:Int),.int .u64 (dq:Int),.str dh,.str dd,.int .i64 pol,.int .i64 num,.int .i64 tik,.sl .ext (pay.map E.byte),.int .u64 (life:Int),.int .u64 (tok:Int),.bool on]] (.bool true) [])(hN:AT Tryz.prog 62 [] [] [] (.ptr 0 0) [[.bool true,.sl .nil []]] [])
  (h0:AT Tryz.prog 63 [.ptr 0 0,.int .u64 (id:Int)] [[.bool true,.sl .nil []]] [] (.ptr 0 0) [[.bool true,.sl (.own 0) L0]] [⟨c0,1,5⟩])
  (h1:AT Tryz.prog 64 [.ptr 0 0,.int .i64 4] [[.bool true,.sl (.own 0) L0]] [⟨c0,1,5⟩] (.ptr 0 0) [[.bool true,.sl (.own 0) L1]] [⟨c1,1,5⟩])
  (h2:AT Tryz.prog 94 [.ptr 0 0,.agg [.bool ei,.int .u64 (en:Int),.int .u64 (es:Int),.str eh,.str ed]] [[.bool true,.sl (.own 0) L1]] [⟨c1,1,5⟩] (.tup []) [[.bool true,.sl (.own 0) L2]] [⟨c2,1,5⟩])
  (h3:AT Tryz.prog 94 [.ptr 0 0,.agg [.bool di,.int .u64 (dn:Int),.int .u64 (dq:Int),.str dh,.str dd]] [[.bool true,.sl (.own 0) L2]] [⟨c2,1,5⟩] (.tup []) [[.bool true,.sl (.own 0) L3]] [⟨c3,1,5⟩])
  (h4:AT Tryz.prog 66 [.ptr 0 0,.sl .ext (pay.map E.byte)] [[.bool true,.sl (.own 0) L3]] [⟨c3,1,5⟩] (.ptr 0 0) [[.bool true,.sl (.own 0) L4]] [⟨c4,1,5⟩])
  (h5:AT Tryz.prog 63 [.ptr 0 0,.int .u64 (life:Int)] [[.bool true,.sl (.own 0) L4]] [⟨c4,1,5⟩] (.ptr 0 0) [[.bool true,.sl (.own 0) L5]] [⟨c5,1,5⟩])
  (h6:AT Tryz.prog 95 [.ptr 0 0,.bool on] [[.bool true,.sl (.own 0) L5]] [⟨c5,1,5⟩] (.ptr 0 0) [[.bool true,.sl (.own 0) L6]] [⟨c6,1,5⟩])
  (hB:AT Tryz.prog 67 [.ptr 0 0] [[.bool true,.sl (.own 0) L6]] [⟨c6,1,5⟩] (.sl .ext R) [[.bool true,.sl (.own 0) L6]] [⟨c6,1,5⟩]) :
  AP Tryz.prog 65 [.agg [.int .u64 (id:Int),.int .i64 4,.bool ei,.int .u64 (en:Int),.int .u64 (es:Int),.str eh,.str ed,.bool di,.int .u64 (dn:Int),.int .u64 (dq:Int),.str dh,.str dd,.int .i64 pol,.int .i64 num,.int .i64 tik,.sl .ext (pay.map E.byte),.int .u64 (life:Int),.int .u64 (tok:Int),.bool on]] (.tup [.sl .ext R,.int .i64 0]) []:=by
 refine AP.ofA (Zm Tryz.func65 Z Tryz.ntmps65 Z Z ?_)
 repeat'(first|(apply Zc (hR);kernel_rfl;(iterate 4 exact Z))|(apply Zb [] [] (hN);kernel_rfl;(iterate 10 exact Z))|(apply Zb [1] [] (h0);kernel_rfl;(iterate 10 exact Z))|(apply Zb [1] [0] (h1);kernel_rfl;(iterate 10 exact Z))|(apply Zb [1] [0] (h2);kernel_rfl;(iterate 10 exact Z))|(apply Zb [1] [0] (h3);kernel_rfl;(iterate 10 exact Z))|(apply Zb [1] [0] (h4);kernel_rfl;(iterate 10 exact Z))|(apply Zb [1] [0] (h5);kernel_rfl;(iterate 10 exact Z))|(apply Zb [1] [0] (h6);kernel_rfl;(iterate 10 exact Z))|(apply Zb [1] [0] (hB);kernel_rfl;(iterate 10 exact Z))|(apply Zj Za;exact Z)|(apply Zg Za;exact Z)|(apply Zq Za;exact Z)|(apply Zf;exact Z;(first|with_reducible assumption|decide +kernel|(solve|simp only[bn])))|(apply Ze;exact Z;(first|with_reducible assumption|decide +kernel|(solve|simp only[bn])))|(apply Zx 6 Z9;decide +kernel;kernel_rfl;kernel_rfl;kernel_rfl;exact Z;exact Z)|(apply Zx 9 Z9;decide +kernel;kernel_rfl;kernel_rfl;kernel_rfl;exact Z;exact Z)|(apply ZB;(iterate 4 exact Z))|exact AE.nil _ _ _ _|(apply ZF;exact Z)|(apply Z8;exact Z)|(apply ZN;exact Z;exact Z;decide +kernel;exact Z)|(apply ZP;exact Z)|(apply Yu;exact Z)|exact AO.nil _ _ _|(apply ZA;(decide +kernel))|(apply ZO;(iterate 3 exact Z))|exact AOs.nil|exact ZY rfl rfl|exact Y2 rfl rfl)
 all_goals exact Qe
theorem GY [Known](id:Nat)(ei:Bool)(en es:Nat)(eh ed:List UInt8)(di:Bool)(dn dq:Nat)(dh dd:List UInt8)(pol num tik:Int)(pay:List UInt8)(life tok:Nat)(on:Bool)(L0 L1 L2 R:List E)(c0 c1 c2:Nat)(hR:AP Tryz.prog 93 [.agg [.int .u64 (id:Int),.int .i64 5,.bool ei,.int .u64 (en:Int),.int .u64 (es:Int),.str eh,.str ed,.bool di,.int .u64 (dn:Int),.int .u64 (dq:Int),.str dh,.str dd,.int .i64 pol,.int .i64 num,.int .i64 tik,.sl .ext (pay.map E.byte),.int .u64 (life:Int),.int .u64 (tok:Int),.bool on]] (.bool true) [])(hN:AT Tryz.prog 62 [] [] [] (.ptr 0 0) [[.bool true,.sl .nil []]] [])
  (h0:AT Tryz.prog 63 [.ptr 0 0,.int .u64 (id:Int)] [[.bool true,.sl .nil []]] [] (.ptr 0 0) [[.bool true,.sl (.own 0) L0]] [⟨c0,1,5⟩])
  (h1:AT Tryz.prog 64 [.ptr 0 0,.int .i64 5] [[.bool true,.sl (.own 0) L0]] [⟨c0,1,5⟩] (.ptr 0 0) [[.bool true,.sl (.own 0) L1]] [⟨c1,1,5⟩])
  (h2:AT Tryz.prog 64 [.ptr 0 0,.int .i64 num] [[.bool true,.sl (.own 0) L1]] [⟨c1,1,5⟩] (.ptr 0 0) [[.bool true,.sl (.own 0) L2]] [⟨c2,1,5⟩])
  (hB:AT Tryz.prog 67 [.ptr 0 0] [[.bool true,.sl (.own 0) L2]] [⟨c2,1,5⟩] (.sl .ext R) [[.bool true,.sl (.own 0) L2]] [⟨c2,1,5⟩]) :
  AP Tryz.prog 65 [.agg [.int .u64 (id:Int),.int .i64 5,.bool ei,.int .u64 (en:Int),.int .u64 (es:Int),.str eh,.str ed,.bool di,.int .u64 (dn:Int),.int .u64 (dq:Int),.str dh,.str dd,.int .i64 pol,.int .i64 num,.int .i64 tik,.sl .ext (pay.map E.byte),.int .u64 (life:Int),.int .u64 (tok:Int),.bool on]] (.tup [.sl .ext R,.int .i64 0]) []:=by
 refine AP.ofA (Zm Tryz.func65 Z Tryz.ntmps65 Z Z ?_)
 repeat'(first|(apply Zc (hR);kernel_rfl;(iterate 4 exact Z))|(apply Zb [] [] (hN);kernel_rfl;(iterate 10 exact Z))|(apply Zb [1] [] (h0);kernel_rfl;(iterate 10 exact Z))|(apply Zb [1] [0] (h1);kernel_rfl;(iterate 10 exact Z))|(apply Zb [1] [0] (h2);kernel_rfl;(iterate 10 exact Z))|(apply Zb [1] [0] (hB);kernel_rfl;(iterate 10 exact Z))|(apply Zj Za;exact Z)|(apply Zg Za;exact Z)|(apply Zq Za;exact Z)|(apply Zf;exact Z;(first|with_reducible assumption|decide +kernel|(solve|simp only[bn])))|(apply Ze;exact Z;(first|with_reducible assumption|decide +kernel|(solve|simp only[bn])))|(apply Zx 6 Z9;decide +kernel;kernel_rfl;kernel_rfl;kernel_rfl;exact Z;exact Z)|(apply ZB;(iterate 4 exact Z))|exact AE.nil _ _ _ _|(apply ZF;exact Z)|(apply Z8;exact Z)|(apply ZN;exact Z;exact Z;decide +kernel;exact Z)|(apply ZP;exact Z)|(apply Yu;exact Z)|exact AO.nil _ _ _|(apply ZA;(decide +kernel))|(apply ZO;(iterate 3 exact Z))|exact AOs.nil|exact ZY rfl rfl|exact Y2 rfl rfl)
 all_goals exact Qe
theorem GZ [Known](id:Nat)(ei:Bool)(en es:Nat)(eh ed:List UInt8)(di:Bool)(dn dq:Nat)(dh dd:List UInt8)(pol num tik:Int)(pay:List UInt8)(life tok:Nat)(on:Bool)(L0 L1 L2 R:List E)(c0 c1 c2:Nat)(hR:AP Tryz.prog 93 [.agg [.int .u64 (id:Int),.int .i64 6,.bool ei,.int .u64 (en:Int),.int .u64 (es:Int),.str eh,.str ed,.bool di,.int .u64 (dn:Int),.int .u64 (dq:Int),.str dh,.str dd,.int .i64 pol,.int .i64 num,.int .i64 tik,.sl .ext (pay.map E.byte),.int .u64 (life:Int),.int .u64 (tok:Int),.bool on]] (.bool true) [])(hN:AT Tryz.prog 62 [] [] [] (.ptr 0 0) [[.bool true,.sl .nil []]] [])
  (h0:AT Tryz.prog 63 [.ptr 0 0,.int .u64 (id:Int)] [[.bool true,.sl .nil []]] [] (.ptr 0 0) [[.bool true,.sl (.own 0) L0]] [⟨c0,1,5⟩])
  (h1:AT Tryz.prog 64 [.ptr 0 0,.int .i64 6] [[.bool true,.sl (.own 0) L0]] [⟨c0,1,5⟩] (.ptr 0 0) [[.bool true,.sl (.own 0) L1]] [⟨c1,1,5⟩])
  (h2:AT Tryz.prog 94 [.ptr 0 0,.agg [.bool ei,.int .u64 (en:Int),.int .u64 (es:Int),.str eh,.str ed]] [[.bool true,.sl (.own 0) L1]] [⟨c1,1,5⟩] (.tup []) [[.bool true,.sl (.own 0) L2]] [⟨c2,1,5⟩])
  (hB:AT Tryz.prog 67 [.ptr 0 0] [[.bool true,.sl (.own 0) L2]] [⟨c2,1,5⟩] (.sl .ext R) [[.bool true,.sl (.own 0) L2]] [⟨c2,1,5⟩]) :
  AP Tryz.prog 65 [.agg [.int .u64 (id:Int),.int .i64 6,.bool ei,.int .u64 (en:Int),.int .u64 (es:Int),.str eh,.str ed,.bool di,.int .u64 (dn:Int),.int .u64 (dq:Int),.str dh,.str dd,.int .i64 pol,.int .i64 num,.int .i64 tik,.sl .ext (pay.map E.byte),.int .u64 (life:Int),.int .u64 (tok:Int),.bool on]] (.tup [.sl .ext R,.int .i64 0]) []:=by
 refine AP.ofA (Zm Tryz.func65 Z Tryz.ntmps65 Z Z ?_)
 repeat'(first|(apply Zc (hR);kernel_rfl;(iterate 4 exact Z))|(apply Zb [] [] (hN);kernel_rfl;(iterate 10 exact Z))|(apply Zb [1] [] (h0);kernel_rfl;(iterate 10 exact Z))|(apply Zb [1] [0] (h1);kernel_rfl;(iterate 10 exact Z))|(apply Zb [1] [0] (h2);kernel_rfl;(iterate 10 exact Z))|(apply Zb [1] [0] (hB);kernel_rfl;(iterate 10 exact Z))|(apply Zj Za;exact Z)|(apply Zg Za;exact Z)|(apply Zq Za;exact Z)|(apply Zf;exact Z;(first|with_reducible assumption|decide +kernel|(solve|simp only[bn])))|(apply Ze;exact Z;(first|with_reducible assumption|decide +kernel|(solve|simp only[bn])))|(apply Zx 6 Z9;decide +kernel;kernel_rfl;kernel_rfl;kernel_rfl;exact Z;exact Z)|(apply ZB;(iterate 4 exact Z))|exact AE.nil _ _ _ _|(apply ZF;exact Z)|(apply Z8;exact Z)|(apply ZN;exact Z;exact Z;decide +kernel;exact Z)|(apply ZP;exact Z)|(apply Yu;exact Z)|exact AO.nil _ _ _|(apply ZA;(decide +kernel))|(apply ZO;(iterate 3 exact Z))|exact AOs.nil|exact ZY rfl rfl|exact Y2 rfl rfl)
 all_goals exact Qe
end Go.Proofs.YtkdpfkjlheajhaaGreatDoor
end
