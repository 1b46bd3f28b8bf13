/- unicode/utf8.Valid: the walk. -/
import Derived.Test.YtchlgagdbflkmaaDoorS12
set_option linter.unusedVariables false
set_option linter.unusedSimpArgs false
section
open Go.RowKit Go.Pl Go.Av
namespace Go.Proofs.YtchlgagdbflkmaaDoor
set_option maxHeartbeats 4000000
theorem cls (c:UInt8)(h:128<=c.toNat):∃(sz i:Nat) (lo hi:Nat),bits .and .u8 (fT c.toNat:Int) 7=(sz:Int)/\((fT c.toNat:Nat):Int).fdiv (2 ^ min (Int.toNat 4) IntKind.u8.bits)=(i:Int)/\i<16 /\
  (((List.range 16).flatMap aT).drop (0+((i:Nat):Int).toNat*2)).take 2=[.int .u8 (lo:Int),.int .u8 (hi:Int)] /\
  ((sz=1/\ptN c.toNat=0)\/((sz=2\/sz=3\/sz=4)/\ptN c.toNat=sz/\lo=YC c.toNat/\hi=YD c.toNat)):=by
 have hc:=c.toNat_lt
 generalize c.toNat=n at h hc ⊢
 by_cases h1:n<194
 ·exact⟨1,15,0,0,by simp[fT,show ¬ n<128 by omega,h1];rfl,by simp[fT,show ¬ n<128 by omega,h1];rfl,by omega,rfl,.inl ⟨rfl,by(simp only[ptN,YC,YD,inB,Bool.and_eq_true,decide_eq_true_eq];(repeat' split)<;>omega)⟩⟩
 by_cases h2:n<224
 ·exact⟨2,0,128,191,by simp[fT,show ¬ n<128 by omega,h1,h2];rfl,by simp[fT,show ¬ n<128 by omega,h1,h2];rfl,by omega,rfl,.inr ⟨.inl rfl,by(simp only[ptN,YC,YD,inB,Bool.and_eq_true,decide_eq_true_eq];(repeat' split)<;>omega),by(simp only[ptN,YC,YD,inB,Bool.and_eq_true,decide_eq_true_eq];(repeat' split)<;>omega),by(simp only[ptN,YC,YD,inB,Bool.and_eq_true,decide_eq_true_eq];(repeat' split)<;>omega)⟩⟩
 by_cases h3:n=224
 ·subst h3;exact⟨3,1,160,191,rfl,rfl,by omega,rfl,.inr ⟨.inr (.inl rfl),rfl,rfl,rfl⟩⟩
 by_cases h4:n<237
 ·exact⟨3,0,128,191,by simp[fT,show ¬ n<128 by omega,h1,h2,show ¬ n<225 by omega,h4];rfl,by simp[fT,show ¬ n<128 by omega,h1,h2,show ¬ n<225 by omega,h4];rfl,by omega,rfl,.inr ⟨.inr (.inl rfl),by(simp only[ptN,YC,YD,inB,Bool.and_eq_true,decide_eq_true_eq];(repeat' split)<;>omega),by(simp only[ptN,YC,YD,inB,Bool.and_eq_true,decide_eq_true_eq];(repeat' split)<;>omega),by(simp only[ptN,YC,YD,inB,Bool.and_eq_true,decide_eq_true_eq];(repeat' split)<;>omega)⟩⟩
 by_cases h5:n=237
 ·subst h5;exact⟨3,2,128,159,rfl,rfl,by omega,rfl,.inr ⟨.inr (.inl rfl),rfl,rfl,rfl⟩⟩
 by_cases h6:n<240
 ·exact⟨3,0,128,191,by simp[fT,show ¬ n<128 by omega,h1,h2,show ¬ n<225 by omega,h4,show ¬ n<238 by omega,h6];rfl,by simp[fT,show ¬ n<128 by omega,h1,h2,show ¬ n<225 by omega,h4,show ¬ n<238 by omega,h6];rfl,by omega,rfl,.inr ⟨.inr (.inl rfl),by(simp only[ptN,YC,YD,inB,Bool.and_eq_true,decide_eq_true_eq];(repeat' split)<;>omega),by(simp only[ptN,YC,YD,inB,Bool.and_eq_true,decide_eq_true_eq];(repeat' split)<;>omega),by(simp only[ptN,YC,YD,inB,Bool.and_eq_true,decide_eq_true_eq];(repeat' split)<;>omega)⟩⟩
 by_cases h7:n=240
 ·subst h7;exact⟨4,3,144,191,rfl,rfl,by omega,rfl,.inr ⟨.inr (.inr rfl),rfl,rfl,rfl⟩⟩
 by_cases h8:n<244
 ·exact⟨4,0,128,191,by simp[fT,show ¬ n<128 by omega,h1,h2,show ¬ n<225 by omega,h4,show ¬ n<238 by omega,h6,show ¬ n<241 by omega,h8];rfl,by simp[fT,show ¬ n<128 by omega,h1,h2,show ¬ n<225 by omega,h4,show ¬ n<238 by omega,h6,show ¬ n<241 by omega,h8];rfl,by omega,rfl,.inr ⟨.inr (.inr rfl),by(simp only[ptN,YC,YD,inB,Bool.and_eq_true,decide_eq_true_eq];(repeat' split)<;>omega),by(simp only[ptN,YC,YD,inB,Bool.and_eq_true,decide_eq_true_eq];(repeat' split)<;>omega),by(simp only[ptN,YC,YD,inB,Bool.and_eq_true,decide_eq_true_eq];(repeat' split)<;>omega)⟩⟩
 by_cases h9:n=244
 ·subst h9;exact⟨4,4,128,143,rfl,rfl,by omega,rfl,.inr ⟨.inr (.inr rfl),rfl,rfl,rfl⟩⟩
 ·exact⟨1,15,0,0,by simp[fT,show ¬ n<128 by omega,h1,h2,show ¬ n<225 by omega,h4,show ¬ n<238 by omega,h6,show ¬ n<241 by omega,h8,show ¬ n<245 by omega];rfl,by simp[fT,show ¬ n<128 by omega,h1,h2,show ¬ n<225 by omega,h4,show ¬ n<238 by omega,h6,show ¬ n<241 by omega,h8,show ¬ n<245 by omega];rfl,by omega,rfl,.inl ⟨rfl,by(simp only[ptN,YC,YD,inB,Bool.and_eq_true,decide_eq_true_eq];(repeat' split)<;>omega)⟩⟩
theorem v0 {c:UInt8}(h:ptN c.toNat=0)(r:List UInt8):ZA (c::r)=false:=by rw[Yt];simp[pt,h]
theorem v2s {c:UInt8}(h:ptN c.toNat=2):ZA [c]=false:=by rw[Yt];simp[pt,h]
theorem v2 {c:UInt8}(h:ptN c.toNat=2)(c1:UInt8)(r:List UInt8):ZA (c::c1::r)=(inB c1.toNat (YC c.toNat) (YD c.toNat)&&ZA r):=by
 rw[Yt];simp only[pt,h]
 cases inB c1.toNat (YC c.toNat) (YD c.toNat)<;>simp
theorem v3s {c:UInt8}(h:ptN c.toNat=3)(r:List UInt8)(hr:r.length<2):ZA (c::r)=false:=by
 rw[Yt]
 match r,hr with
 | [],_=>simp[pt,h]
 | [c1],_=>simp[pt,h]
theorem v3 {c:UInt8}(h:ptN c.toNat=3)(c1 c2:UInt8)(r:List UInt8):ZA (c::c1::c2::r)=(inB c1.toNat (YC c.toNat) (YD c.toNat)&&(inB c2.toNat 128 191&&ZA r)):=by
 rw[Yt];simp only[pt,h]
 cases inB c1.toNat (YC c.toNat) (YD c.toNat)<;>cases inB c2.toNat 128 191<;>simp
theorem v4s {c:UInt8}(h:ptN c.toNat=4)(r:List UInt8)(hr:r.length<3):ZA (c::r)=false:=by
 rw[Yt]
 match r,hr with
 | [],_=>simp[pt,h]
 | [c1],_=>simp[pt,h]
 | [c1,c2],_=>simp[pt,h]
theorem v4 {c:UInt8}(h:ptN c.toNat=4)(c1 c2 c3:UInt8)(r:List UInt8):ZA (c::c1::c2::c3::r)=(inB c1.toNat (YC c.toNat) (YD c.toNat)&&(inB c2.toNat 128 191&&(inB c3.toNat 128 191&&ZA r))):=by
 rw[Yt];simp only[pt,h]
 cases inB c1.toNat (YC c.toNat) (YD c.toNat)<;>cases inB c2.toNat 128 191<;>cases inB c3.toNat 128 191<;>simp
theorem XZ {a:Nat}(ha:a<18446744073709551616):(bits .and .u64 (a:Int) 9259542123273814144==0)=decide (a &&& hi8=0):=by
 have h:=u64_and_nat a hi8 ha (by decide)
 rw[show((hi8:Nat):Int)=9259542123273814144 from rfl]at h
 rw[h]
 by_cases e:a &&& hi8=0
 ·rw[e];rfl
 ·rw[decide_eq_false e]
  rw[beq_eq_false_iff_ne]
  omega
theorem G2 (a b:List UInt8):bits .or .u64 (w8N a:Int) (w8N b:Int)=((w8N a ||| w8N b:Nat):Int):=u64_or_nat _ _ (Wd a) (Wd b)
def U2:Code->Bool
 | .loop _=>true
 | .seq a b=>U2 a||U2 b
 | .block _ c=>U2 c
 | _=>false
def Y3:Code->Code
 | .loop c=>c
 | .seq a b=>match U2 a with
  | true=>Y3 a
  | false=>Y3 b
 | .block _ c=>Y3 c
 | c=>c
def vJ (b:List UInt8):Nat->List (Nat × D)->List (List D)->List Fr->Prop:=fun k tm bx fr=>∃ l:List UInt8,k=l.length/\ZA l=ZA b/\tm=[(0,byE l),(2,.bool false)]/\bx=[]/\fr=[]
abbrev vQ (b:List UInt8)(v:Bool)(k:Nat)(K:St->Prop):X->St->Prop:=X.then (Lands (vJ b) 188 (([]:List (List D)).length,([]:List Fr).length) k) (X.inBlock 0 (X.then K (VT Tryd.prog [ResultVar.tmp 2] ([]:List (List D)).length ([]:List Fr).length fun r bx fr=>∃ d0,r=R.ret d0/\d0.wk=.bool v/\bx.map D.wks=[]/\fr=[])))
abbrev vS (l:List UInt8):St:=⟨188,[(0,byE l),(2,.bool false)],[],[],(([]:List (List D)).length,([]:List Fr).length)⟩
set_option maxRecDepth 10000 in
theorem Hu [Known](b:List UInt8)(hb:b.length<=140737488351232)(K:St->Prop)(k:Nat)(c:UInt8)(r:List UInt8)(hk:k=r.length+1)(hv:ZA (c::r)=ZA b)(hc:c.toNat<128):AW Tryd.prog (Y3 (Tryd.f47.body.getD .skip)) (vS (c::r)) (vQ b (ZA b) k K):=by
 conv=>enter [3];whnf
 have hU:=Yo (c::r)
 have hlen:decide ((((c::r).map E.byte).length:Int)>0)=true:=by simp
 have dc:decide ((c.toNat:Int)<128)=true:=by simp;omega
 have hv1:ZA r=ZA b:=by rw[<- hv,Yt];simp[pt,ptN,hc]
 have x1:(c::r).drop (Int.toNat 1)=r:=rfl
 rcases Nat.lt_or_ge 8 r.length with h8|h8
 ·have d8:decide (((r.map E.byte).length:Int)>8)=true:=by simp;omega
  have w1:=W3 r (by omega)
  have a1:=XZ (Wd r)
  have l8:Int.toNat 8<=r.length:=by show 8<=r.length;omega
  by_cases t1:w8N r &&& hi8=0
  ·rw[decide_eq_true t1]at a1
   have hv2:ZA (r.drop 8)=ZA b:=by rw[<- hv1];exact(YO 8 r (by omega) (W2 (by omega) t1)).symm
   generalize hp:r.drop 8=p at hv2
   have x8:r.drop (Int.toNat 8)=p:=hp
   have hpl:p.length=r.length-8:=by rw[<- hp,List.length_drop]
   rcases Nat.lt_or_ge 16 p.length with h16|h16
   ·have d16:decide (((p.map E.byte).length:Int)>16)=true:=by simp;omega
    have w2:=W3 p (by omega)
    generalize hq:p.drop 8=q
    have x8':p.drop (Int.toNat 8)=q:=hq
    have hql:q.length=p.length-8:=by rw[<- hq,List.length_drop]
    have w3:=W3 q (by omega)
    have o1:=G2 p q
    have a2:=XZ (a:=w8N p ||| w8N q) (Nat.or_lt_two_pow (n:=64) (Wd p) (Wd q))
    have l8':Int.toNat 8<=p.length:=by show 8<=p.length;omega
    have l16:Int.toNat 16<=p.length:=by show 16<=p.length;omega
    by_cases t2:(w8N p ||| w8N q) &&& hi8=0
    ·rw[decide_eq_true t2]at a2
     have hv3:ZA (p.drop 16)=ZA b:=by
      have e1:=YO 8 p (by omega) (W2 (by omega) (W4 t2).1)
      have e2:=YO 8 q (by omega) (W2 (by omega) (W4 t2).2)
      rw[hq]at e1
      rw[<- hq,List.drop_drop]at e2
      rw[<- hv2,e1,<- hq,e2]
     generalize hs:p.drop 16=s at hv3
     have x16:p.drop (Int.toNat 16)=s:=hs
     have hsl:s.length=p.length-16:=by rw[<- hs,List.length_drop]
     repeat'(first|rw[o1]|rw[a1]|rw[a2]|refine Zb w1 Qk Z Z Z Z ?_|refine Zb w2 Qk Z Z Z Z ?_|refine Zb w3 Qk Z Z Z Z ?_|(apply Wf Za;(iterate 8 exact Z);exact Qb;(first|with_reducible assumption|decide|(simp only[List.length_cons,List.length_drop,List.length_take,List.length_append,Int.toNat_natCast]at *;omega));(first|with_reducible assumption|exact Z))|refine Zj Za Z ?_|refine Zg Za Z ?_|refine Zv Za Z ?_|refine Zi Z Z Z Qt ?_|refine Zp Z Qt Z Z ?_|refine Zd Z Qt ?_|refine Zn Za Z Z Z Z ?_|(apply ZQ 8 ZG;decide +kernel;kernel_rfl;kernel_rfl;exact Z;exact Z)|(apply ZW;(iterate 3 exact Z))|refine AD.nil _|exact Yn rfl|(apply Zs Za;(iterate 6 exact Z);(first|exact Qt|rotate_left);(first|with_reducible assumption|decide +kernel|exact Z);(first|exact Zf rfl|with_reducible assumption|decide +kernel|rotate_left)))
     refine ZT (fun k' tm bx fr=>∃ l':List UInt8,k'=l'.length/\l'.length<=r.length/\ZA l'=ZA b/\tm=[(0,byE l'),(2,.bool false)]/\bx=[]/\fr=[]) (s.length+1) (Lands.mk' (m:=s.length) (Nat.lt_succ_self _) ⟨s,rfl,by omega,hv3,rfl,rfl,rfl⟩ ?_ rfl rfl rfl rfl rfl rfl) ?_
     ·exact .cons rfl (.cons rfl .nil)
     rintro k' tm bx fr ⟨l',hk',hl',hv',rfl,rfl,rfl⟩
     rcases Nat.lt_or_ge 32 l'.length with h32|h32
     ·have d32:decide (((l'.map E.byte).length:Int)>32)=true:=by simp;omega
      generalize hp1:l'.drop 8=p1
      generalize hp2:l'.drop 16=p2
      generalize hp3:l'.drop 24=p3
      generalize hp4:l'.drop 32=p4
      have y1:l'.drop (Int.toNat 8)=p1:=hp1
      have y2:l'.drop (Int.toNat 16)=p2:=hp2
      have y3:l'.drop (Int.toNat 24)=p3:=hp3
      have y4:l'.drop (Int.toNat 32)=p4:=hp4
      have z1:p1.length=l'.length-8:=by rw[<- hp1,List.length_drop]
      have z2:p2.length=l'.length-16:=by rw[<- hp2,List.length_drop]
      have z3:p3.length=l'.length-24:=by rw[<- hp3,List.length_drop]
      have z4:p4.length=l'.length-32:=by rw[<- hp4,List.length_drop]
      have u0:=W3 l' (by omega)
      have u1:=W3 p1 (by omega)
      have u2:=W3 p2 (by omega)
      have u3:=W3 p3 (by omega)
      have r1:=G2 l' p1
      have r2:=G2 p2 p3
      have r3:=u64_or_nat (w8N l' ||| w8N p1) (w8N p2 ||| w8N p3) (Nat.or_lt_two_pow (n:=64) (Wd l') (Wd p1)) (Nat.or_lt_two_pow (n:=64) (Wd p2) (Wd p3))
      have a4:=XZ (a:=(w8N l' ||| w8N p1) ||| (w8N p2 ||| w8N p3)) (Nat.or_lt_two_pow (n:=64) (Nat.or_lt_two_pow (n:=64) (Wd l') (Wd p1)) (Nat.or_lt_two_pow (n:=64) (Wd p2) (Wd p3)))
      have m8:Int.toNat 8<=l'.length:=by show 8<=l'.length;omega
      have m16:Int.toNat 16<=l'.length:=by show 16<=l'.length;omega
      have m24:Int.toNat 24<=l'.length:=by show 24<=l'.length;omega
      have m32:Int.toNat 32<=l'.length:=by show 32<=l'.length;omega
      by_cases t4:((w8N l' ||| w8N p1) ||| (w8N p2 ||| w8N p3)) &&& hi8=0
      ·rw[decide_eq_true t4]at a4
       have hv4:ZA p4=ZA b:=by
        have q1:=W4 t4
        have e1:=YO 8 l' (by omega) (W2 (by omega) (W4 q1.1).1)
        have e2:=YO 8 p1 (by omega) (W2 (by omega) (W4 q1.1).2)
        have e3:=YO 8 p2 (by omega) (W2 (by omega) (W4 q1.2).1)
        have e4:=YO 8 p3 (by omega) (W2 (by omega) (W4 q1.2).2)
        rw[hp1]at e1
        rw[<- hp1,List.drop_drop,hp1,hp2]at e2
        rw[<- hp2,List.drop_drop,hp2,hp3]at e3
        rw[<- hp3,List.drop_drop,hp3,hp4]at e4
        rw[<- hv',e1,e2,e3,e4]
       repeat'(first|rw[r1]|rw[r2]|rw[r3]|rw[a4]|refine Zb u0 Qk Z Z Z Z ?_|refine Zb u1 Qk Z Z Z Z ?_|refine Zb u2 Qk Z Z Z Z ?_|refine Zb u3 Qk Z Z Z Z ?_|(apply Wf Za;(iterate 8 exact Z);exact Qb;(first|with_reducible assumption|decide|(simp only[List.length_cons,List.length_drop,List.length_take,List.length_append,Int.toNat_natCast]at *;omega));(first|with_reducible assumption|exact Z))|refine Zj Za Z ?_|refine Zg Za Z ?_|refine Zv Za Z ?_|refine Zi Z Z Z Qt ?_|refine Zp Z Qt Z Z ?_|refine Zd Z Qt ?_|refine KM ?_|refine Zn Za Z Z Z Z ?_|(apply ZQ 17 ZG;decide +kernel;kernel_rfl;kernel_rfl;exact Z;exact Z)|(apply ZW;(iterate 3 exact Z))|refine AD.nil _|exact Yn rfl)
       refine Lands.mk' (m:=p4.length) (by omega) ⟨p4,rfl,by omega,hv4,rfl,rfl,rfl⟩ ?_ rfl rfl rfl rfl rfl rfl
       exact .cons rfl (.cons rfl .nil)
      ·rw[decide_eq_false t4]at a4
       repeat'(first|rw[r1]|rw[r2]|rw[r3]|rw[a4]|refine Zb u0 Qk Z Z Z Z ?_|refine Zb u1 Qk Z Z Z Z ?_|refine Zb u2 Qk Z Z Z Z ?_|refine Zb u3 Qk Z Z Z Z ?_|(apply Wf Za;(iterate 8 exact Z);exact Qb;(first|with_reducible assumption|decide|(simp only[List.length_cons,List.length_drop,List.length_take,List.length_append,Int.toNat_natCast]at *;omega));(first|with_reducible assumption|exact Z))|refine Zj Za Z ?_|refine Zg Za Z ?_|refine Zv Za Z ?_|refine Zi Z Z Z Qt ?_|refine Zp Z Qt Z Z ?_|refine Ze Z Qt ?_|refine Zn Za Z Z Z Z ?_|(apply ZQ 17 ZG;decide +kernel;kernel_rfl;kernel_rfl;exact Z;exact Z)|(apply ZW;(iterate 3 exact Z))|refine AD.nil _|exact Yn rfl)
       refine Lands.mk' (m:=l'.length) (by omega) ⟨l',rfl,hv',rfl,rfl,rfl⟩ ?_ rfl rfl rfl rfl rfl rfl
       exact .cons rfl (.cons rfl .nil)
     ·have d32:decide (((l'.map E.byte).length:Int)>32)=false:=by simp;omega
      repeat'(first|refine Zj Za Z ?_|refine Zg Za Z ?_|refine Zv Za Z ?_|refine ZE Z Z Z Qt ?_|refine Zk Z Qt Z Z ?_|refine Ze Z Qt ?_|refine Zn Za Z Z Z Z ?_|(apply ZQ 17 ZG;decide +kernel;kernel_rfl;kernel_rfl;exact Z;exact Z)|(apply ZW;(iterate 3 exact Z))|refine AD.nil _|exact Yn rfl)
      refine Lands.mk' (m:=l'.length) (by omega) ⟨l',rfl,hv',rfl,rfl,rfl⟩ ?_ rfl rfl rfl rfl rfl rfl
      exact .cons rfl (.cons rfl .nil)
    ·rw[decide_eq_false t2]at a2
     repeat'(first|rw[o1]|rw[a1]|rw[a2]|refine Zb w1 Qk Z Z Z Z ?_|refine Zb w2 Qk Z Z Z Z ?_|refine Zb w3 Qk Z Z Z Z ?_|(apply Wf Za;(iterate 8 exact Z);exact Qb;(first|with_reducible assumption|decide|(simp only[List.length_cons,List.length_drop,List.length_take,List.length_append,Int.toNat_natCast]at *;omega));(first|with_reducible assumption|exact Z))|refine Zj Za Z ?_|refine Zg Za Z ?_|refine Zv Za Z ?_|refine Zi Z Z Z Qt ?_|refine Zp Z Qt Z Z ?_|refine Zd Z Qt ?_|refine Ze Z Qt ?_|refine Zn Za Z Z Z Z ?_|(apply ZQ 8 ZG;decide +kernel;kernel_rfl;kernel_rfl;exact Z;exact Z)|(apply ZW;(iterate 3 exact Z))|refine AD.nil _|exact Yn rfl|(apply Zs Za;(iterate 6 exact Z);(first|exact Qt|rotate_left);(first|with_reducible assumption|decide +kernel|exact Z);(first|exact Zf rfl|with_reducible assumption|decide +kernel|rotate_left)))
     refine Lands.mk' (m:=p.length) (by omega) ⟨p,rfl,hv2,rfl,rfl,rfl⟩ ?_ rfl rfl rfl rfl rfl rfl
     exact .cons rfl (.cons rfl .nil)
   ·have d16:decide (((p.map E.byte).length:Int)>16)=false:=by simp;omega
    repeat'(first|rw[a1]|refine Zb w1 Qk Z Z Z Z ?_|(apply Wf Za;(iterate 8 exact Z);exact Qb;(first|with_reducible assumption|decide|(simp only[List.length_cons,List.length_drop,List.length_take,List.length_append,Int.toNat_natCast]at *;omega));(first|with_reducible assumption|exact Z))|refine Zj Za Z ?_|refine Zg Za Z ?_|refine Zv Za Z ?_|refine Zi Z Z Z Qt ?_|refine ZE Z Z Z Qt ?_|refine Zp Z Qt Z Z ?_|refine Zk Z Qt Z Z ?_|refine Zd Z Qt ?_|refine Ze Z Qt ?_|refine Zn Za Z Z Z Z ?_|(apply ZQ 8 ZG;decide +kernel;kernel_rfl;kernel_rfl;exact Z;exact Z)|(apply ZW;(iterate 3 exact Z))|refine AD.nil _|exact Yn rfl|(apply Zs Za;(iterate 6 exact Z);(first|exact Qt|rotate_left);(first|with_reducible assumption|decide +kernel|exact Z);(first|exact Zf rfl|with_reducible assumption|decide +kernel|rotate_left)))
    refine Lands.mk' (m:=p.length) (by omega) ⟨p,rfl,hv2,rfl,rfl,rfl⟩ ?_ rfl rfl rfl rfl rfl rfl
    exact .cons rfl (.cons rfl .nil)
  ·rw[decide_eq_false t1]at a1
   repeat'(first|rw[a1]|refine Zb w1 Qk Z Z Z Z ?_|(apply Wf Za;(iterate 8 exact Z);exact Qb;(first|with_reducible assumption|decide|(simp only[List.length_cons,List.length_drop,List.length_take,List.length_append,Int.toNat_natCast]at *;omega));(first|with_reducible assumption|exact Z))|refine Zj Za Z ?_|refine Zg Za Z ?_|refine Zv Za Z ?_|refine Zi Z Z Z Qt ?_|refine Zp Z Qt Z Z ?_|refine Zd Z Qt ?_|refine Ze Z Qt ?_|refine Zn Za Z Z Z Z ?_|(apply Zs Za;(iterate 6 exact Z);(first|exact Qt|rotate_left);(first|with_reducible assumption|decide +kernel|exact Z);(first|exact Zf rfl|with_reducible assumption|decide +kernel|rotate_left)))
   refine Lands.mk' (m:=r.length) (by omega) ⟨r,rfl,hv1,rfl,rfl,rfl⟩ ?_ rfl rfl rfl rfl rfl rfl
   exact .cons rfl (.cons rfl .nil)
 ·have d8:decide (((r.map E.byte).length:Int)>8)=false:=by simp;omega
  repeat'(first|(apply Wf Za;(iterate 8 exact Z);exact Qb;(first|with_reducible assumption|decide|(simp only[List.length_cons,List.length_drop,List.length_take,List.length_append,Int.toNat_natCast]at *;omega));(first|with_reducible assumption|exact Z))|refine Zj Za Z ?_|refine Zg Za Z ?_|refine Zv Za Z ?_|refine ZE Z Z Z Qt ?_|refine Zk Z Qt Z Z ?_|refine Zd Z Qt ?_|refine Ze Z Qt ?_|refine Zn Za Z Z Z Z ?_|(apply Zs Za;(iterate 6 exact Z);(first|exact Qt|rotate_left);(first|with_reducible assumption|decide +kernel|exact Z);(first|exact Zf rfl|with_reducible assumption|decide +kernel|rotate_left)))
  refine Lands.mk' (m:=r.length) (by omega) ⟨r,rfl,hv1,rfl,rfl,rfl⟩ ?_ rfl rfl rfl rfl rfl rfl
  exact .cons rfl (.cons rfl .nil)
end Go.Proofs.YtchlgagdbflkmaaDoor
end
