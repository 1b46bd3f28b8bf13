/- unicode/utf8.Valid: the walk. -/
import Derived.Test.YtchlgagdbflkmaaGreatDoorK15
set_option linter.unusedVariables false
set_option linter.unusedSimpArgs false
section
open Go.RowKit Go.Pl Go.Av
namespace Go.Proofs.YtchlgagdbflkmaaGreatDoor
set_option maxHeartbeats 4000000
theorem cls (c:UInt8)(h:128<=c.toNat):∃(sz i:Nat) (lo hi:Nat),bits .and .u8 (fT c.toNat:Int) 7=(sz:Int)/\((fT c.toNat:Nat):Int).fdiv (2 ^ min (Int.toNat 4) IntKind.u8.bits)=(i:Int)/\i<16 /\
  (((List.range 16).flatMap aT).drop (0+((i:Nat):Int).toNat*2)).take 2=[.int .u8 (lo:Int),.int .u8 (hi:Int)] /\
  ((sz=1/\ptN c.toNat=0)\/((sz=2\/sz=3\/sz=4)/\ptN c.toNat=sz/\lo=Y9 c.toNat/\hi=Wa c.toNat)):=by
 have hc:=c.toNat_lt
 generalize c.toNat=n at h hc ⊢
 by_cases h1:n<194
 ·exact⟨1,15,0,0,by simp[fT,show ¬ n<128 by omega,h1];rfl,by simp[fT,show ¬ n<128 by omega,h1];rfl,by omega,rfl,.inl ⟨rfl,by(simp only[ptN,Y9,Wa,inB,Bool.and_eq_true,decide_eq_true_eq];(repeat' split)<;>omega)⟩⟩
 by_cases h2:n<224
 ·exact⟨2,0,128,191,by simp[fT,show ¬ n<128 by omega,h1,h2];rfl,by simp[fT,show ¬ n<128 by omega,h1,h2];rfl,by omega,rfl,.inr ⟨.inl rfl,by(simp only[ptN,Y9,Wa,inB,Bool.and_eq_true,decide_eq_true_eq];(repeat' split)<;>omega),by(simp only[ptN,Y9,Wa,inB,Bool.and_eq_true,decide_eq_true_eq];(repeat' split)<;>omega),by(simp only[ptN,Y9,Wa,inB,Bool.and_eq_true,decide_eq_true_eq];(repeat' split)<;>omega)⟩⟩
 by_cases h3:n=224
 ·subst h3;exact⟨3,1,160,191,rfl,rfl,by omega,rfl,.inr ⟨.inr (.inl rfl),rfl,rfl,rfl⟩⟩
 by_cases h4:n<237
 ·exact⟨3,0,128,191,by simp[fT,show ¬ n<128 by omega,h1,h2,show ¬ n<225 by omega,h4];rfl,by simp[fT,show ¬ n<128 by omega,h1,h2,show ¬ n<225 by omega,h4];rfl,by omega,rfl,.inr ⟨.inr (.inl rfl),by(simp only[ptN,Y9,Wa,inB,Bool.and_eq_true,decide_eq_true_eq];(repeat' split)<;>omega),by(simp only[ptN,Y9,Wa,inB,Bool.and_eq_true,decide_eq_true_eq];(repeat' split)<;>omega),by(simp only[ptN,Y9,Wa,inB,Bool.and_eq_true,decide_eq_true_eq];(repeat' split)<;>omega)⟩⟩
 by_cases h5:n=237
 ·subst h5;exact⟨3,2,128,159,rfl,rfl,by omega,rfl,.inr ⟨.inr (.inl rfl),rfl,rfl,rfl⟩⟩
 by_cases h6:n<240
 ·exact⟨3,0,128,191,by simp[fT,show ¬ n<128 by omega,h1,h2,show ¬ n<225 by omega,h4,show ¬ n<238 by omega,h6];rfl,by simp[fT,show ¬ n<128 by omega,h1,h2,show ¬ n<225 by omega,h4,show ¬ n<238 by omega,h6];rfl,by omega,rfl,.inr ⟨.inr (.inl rfl),by(simp only[ptN,Y9,Wa,inB,Bool.and_eq_true,decide_eq_true_eq];(repeat' split)<;>omega),by(simp only[ptN,Y9,Wa,inB,Bool.and_eq_true,decide_eq_true_eq];(repeat' split)<;>omega),by(simp only[ptN,Y9,Wa,inB,Bool.and_eq_true,decide_eq_true_eq];(repeat' split)<;>omega)⟩⟩
 by_cases h7:n=240
 ·subst h7;exact⟨4,3,144,191,rfl,rfl,by omega,rfl,.inr ⟨.inr (.inr rfl),rfl,rfl,rfl⟩⟩
 by_cases h8:n<244
 ·exact⟨4,0,128,191,by simp[fT,show ¬ n<128 by omega,h1,h2,show ¬ n<225 by omega,h4,show ¬ n<238 by omega,h6,show ¬ n<241 by omega,h8];rfl,by simp[fT,show ¬ n<128 by omega,h1,h2,show ¬ n<225 by omega,h4,show ¬ n<238 by omega,h6,show ¬ n<241 by omega,h8];rfl,by omega,rfl,.inr ⟨.inr (.inr rfl),by(simp only[ptN,Y9,Wa,inB,Bool.and_eq_true,decide_eq_true_eq];(repeat' split)<;>omega),by(simp only[ptN,Y9,Wa,inB,Bool.and_eq_true,decide_eq_true_eq];(repeat' split)<;>omega),by(simp only[ptN,Y9,Wa,inB,Bool.and_eq_true,decide_eq_true_eq];(repeat' split)<;>omega)⟩⟩
 by_cases h9:n=244
 ·subst h9;exact⟨4,4,128,143,rfl,rfl,by omega,rfl,.inr ⟨.inr (.inr rfl),rfl,rfl,rfl⟩⟩
 ·exact⟨1,15,0,0,by simp[fT,show ¬ n<128 by omega,h1,h2,show ¬ n<225 by omega,h4,show ¬ n<238 by omega,h6,show ¬ n<241 by omega,h8,show ¬ n<245 by omega];rfl,by simp[fT,show ¬ n<128 by omega,h1,h2,show ¬ n<225 by omega,h4,show ¬ n<238 by omega,h6,show ¬ n<241 by omega,h8,show ¬ n<245 by omega];rfl,by omega,rfl,.inl ⟨rfl,by(simp only[ptN,Y9,Wa,inB,Bool.and_eq_true,decide_eq_true_eq];(repeat' split)<;>omega)⟩⟩
theorem v0 {c:UInt8}(h:ptN c.toNat=0)(r:List UInt8):ZI (c::r)=false:=by rw[Yz];simp[pt,h]
theorem v2s {c:UInt8}(h:ptN c.toNat=2):ZI [c]=false:=by rw[Yz];simp[pt,h]
theorem v2 {c:UInt8}(h:ptN c.toNat=2)(c1:UInt8)(r:List UInt8):ZI (c::c1::r)=(inB c1.toNat (Y9 c.toNat) (Wa c.toNat)&&ZI r):=by
 rw[Yz];simp only[pt,h]
 cases inB c1.toNat (Y9 c.toNat) (Wa c.toNat)<;>simp
theorem v3s {c:UInt8}(h:ptN c.toNat=3)(r:List UInt8)(hr:r.length<2):ZI (c::r)=false:=by
 rw[Yz]
 match r,hr with
 | [],_=>simp[pt,h]
 | [c1],_=>simp[pt,h]
theorem v3 {c:UInt8}(h:ptN c.toNat=3)(c1 c2:UInt8)(r:List UInt8):ZI (c::c1::c2::r)=(inB c1.toNat (Y9 c.toNat) (Wa c.toNat)&&(inB c2.toNat 128 191&&ZI r)):=by
 rw[Yz];simp only[pt,h]
 cases inB c1.toNat (Y9 c.toNat) (Wa c.toNat)<;>cases inB c2.toNat 128 191<;>simp
theorem v4s {c:UInt8}(h:ptN c.toNat=4)(r:List UInt8)(hr:r.length<3):ZI (c::r)=false:=by
 rw[Yz]
 match r,hr with
 | [],_=>simp[pt,h]
 | [c1],_=>simp[pt,h]
 | [c1,c2],_=>simp[pt,h]
theorem v4 {c:UInt8}(h:ptN c.toNat=4)(c1 c2 c3:UInt8)(r:List UInt8):ZI (c::c1::c2::c3::r)=(inB c1.toNat (Y9 c.toNat) (Wa c.toNat)&&(inB c2.toNat 128 191&&(inB c3.toNat 128 191&&ZI r))):=by
 rw[Yz];simp only[pt,h]
 cases inB c1.toNat (Y9 c.toNat) (Wa c.toNat)<;>cases inB c2.toNat 128 191<;>cases inB c3.toNat 128 191<;>simp
theorem G0 {a:Nat}(ha:a<18446744073709551616):(bits .and .u64 (a:Int) 9259542123273814144==0)=decide (a &&& hi8=0):=by
 have h:=u64_and_nat a hi8 ha (by decide)
 rw[show((hi8:Nat):Int)=9259542123273814144 from rfl]at h
 rw[h]
 by_cases e:a &&& hi8=0
 ·rw[e];rfl
 ·rw[decide_eq_false e]
  rw[beq_eq_false_iff_ne]
  omega
theorem R8 (a b:List UInt8):bits .or .u64 (w8N a:Int) (w8N b:Int)=((w8N a ||| w8N b:Nat):Int):=u64_or_nat _ _ (Vl a) (Vl b)
def Xz:Code->Bool
 | .loop _=>true
 | .seq a b=>Xz a||Xz b
 | .block _ c=>Xz c
 | _=>false
def W5:Code->Code
 | .loop c=>c
 | .seq a b=>match Xz a with
  | true=>W5 a
  | false=>W5 b
 | .block _ c=>W5 c
 | c=>c
def vJ (b:List UInt8):Nat->List (Nat × D)->List (List D)->List Fr->Prop:=fun k tm bx fr=>∃ l:List UInt8,k=l.length/\ZI l=ZI b/\tm=[(0,byE l),(2,.bool false)]/\bx=[]/\fr=[]
abbrev vQ (b:List UInt8)(v:Bool)(k:Nat)(K:St->Prop):X->St->Prop:=X.then (Lands (vJ b) 188 (([]:List (List D)).length,([]:List Fr).length) k) (X.inBlock 0 (X.then K (VO Tryz.prog [ResultVar.tmp 2] ([]:List (List D)).length ([]:List Fr).length fun r bx fr=>∃ d0,r=R.ret d0/\d0.wk=.bool v/\bx.map D.wks=[]/\fr=[])))
abbrev vS (l:List UInt8):St:=⟨188,[(0,byE l),(2,.bool false)],[],[],(([]:List (List D)).length,([]:List Fr).length)⟩
set_option maxRecDepth 10000 in
theorem Bh [Known](b:List UInt8)(hb:b.length<=140737488351232)(K:St->Prop)(k:Nat)(c:UInt8)(r:List UInt8)(hk:k=r.length+1)(hv:ZI (c::r)=ZI b)(hc:c.toNat<128):AW Tryz.prog (W5 (Tryz.f269.body.getD .skip)) (vS (c::r)) (vQ b (ZI b) k K):=by
 conv=>enter [3];whnf
 have hU:=Y7 (c::r)
 have hlen:decide ((((c::r).map E.byte).length:Int)>0)=true:=by simp
 have dc:decide ((c.toNat:Int)<128)=true:=by simp;omega
 have hv1:ZI r=ZI b:=by rw[<- hv,Yz];simp[pt,ptN,hc]
 have x1:(c::r).drop (Int.toNat 1)=r:=rfl
 rcases Nat.lt_or_ge 8 r.length with h8|h8
 ·have d8:decide (((r.map E.byte).length:Int)>8)=true:=by simp;omega
  have w1:=UK r (by omega)
  have a1:=G0 (Vl r)
  have l8:Int.toNat 8<=r.length:=by show 8<=r.length;omega
  by_cases t1:w8N r &&& hi8=0
  ·rw[decide_eq_true t1]at a1
   have hv2:ZI (r.drop 8)=ZI b:=by rw[<- hv1];exact(Wu 8 r (by omega) (UJ (by omega) t1)).symm
   generalize hp:r.drop 8=p at hv2
   have x8:r.drop (Int.toNat 8)=p:=hp
   have hpl:p.length=r.length-8:=by rw[<- hp,List.length_drop]
   rcases Nat.lt_or_ge 16 p.length with h16|h16
   ·have d16:decide (((p.map E.byte).length:Int)>16)=true:=by simp;omega
    have w2:=UK p (by omega)
    generalize hq:p.drop 8=q
    have x8':p.drop (Int.toNat 8)=q:=hq
    have hql:q.length=p.length-8:=by rw[<- hq,List.length_drop]
    have w3:=UK q (by omega)
    have o1:=R8 p q
    have a2:=G0 (a:=w8N p ||| w8N q) (Nat.or_lt_two_pow (n:=64) (Vl p) (Vl q))
    have l8':Int.toNat 8<=p.length:=by show 8<=p.length;omega
    have l16:Int.toNat 16<=p.length:=by show 16<=p.length;omega
    by_cases t2:(w8N p ||| w8N q) &&& hi8=0
    ·rw[decide_eq_true t2]at a2
     have hv3:ZI (p.drop 16)=ZI b:=by
      have e1:=Wu 8 p (by omega) (UJ (by omega) (UL t2).1)
      have e2:=Wu 8 q (by omega) (UJ (by omega) (UL t2).2)
      rw[hq]at e1
      rw[<- hq,List.drop_drop]at e2
      rw[<- hv2,e1,<- hq,e2]
     generalize hs:p.drop 16=s at hv3
     have x16:p.drop (Int.toNat 16)=s:=hs
     have hsl:s.length=p.length-16:=by rw[<- hs,List.length_drop]
     repeat'(first|rw[o1]|rw[a1]|rw[a2]|(apply Zb (w1);kernel_rfl;(iterate 4 exact Z))|(apply Zb (w2);kernel_rfl;(iterate 4 exact Z))|(apply Zb (w3);kernel_rfl;(iterate 4 exact Z))|(apply Vp Za;(iterate 8 exact Z);exact Qb;(first|with_reducible assumption|decide|(simp only[List.length_cons,List.length_drop,List.length_take,List.length_append,Int.toNat_natCast]at *;omega));(first|with_reducible assumption|exact Z))|(apply Zg Za;exact Z)|(apply Zh Za;exact Z)|(apply Zs Za;exact Z)|refine Zd Z Z Z Qt ?_|refine Zj Z Qt Z Z ?_|refine Ze Z Qt ?_|refine Zn Za Z Z Z Z ?_|(apply ZW 8 ZG;decide +kernel;kernel_rfl;kernel_rfl;exact Z;exact Z)|(apply Yb;(iterate 3 exact Z))|refine AD.nil _|exact Yv rfl|(apply Zw Za;(iterate 6 exact Z);(first|exact Qt|rotate_left);(first|with_reducible assumption|decide +kernel|exact Z);(first|exact Zk rfl|with_reducible assumption|decide +kernel|rotate_left)))
     refine Yf (fun k' tm bx fr=>∃ l':List UInt8,k'=l'.length/\l'.length<=r.length/\ZI l'=ZI b/\tm=[(0,byE l'),(2,.bool false)]/\bx=[]/\fr=[]) (s.length+1) (Lands.mk' (m:=s.length) (Nat.lt_succ_self _) ⟨s,rfl,by omega,hv3,rfl,rfl,rfl⟩ ?_ rfl rfl rfl rfl rfl rfl) ?_
     ·exact .cons rfl (.cons rfl .nil)
     rintro k' tm bx fr ⟨l',hk',hl',hv',rfl,rfl,rfl⟩
     rcases Nat.lt_or_ge 32 l'.length with h32|h32
     ·have d32:decide (((l'.map E.byte).length:Int)>32)=true:=by simp;omega
      generalize hp1:l'.drop 8=p1
      generalize hp2:l'.drop 16=p2
      generalize hp3:l'.drop 24=p3
      generalize hp4:l'.drop 32=p4
      have y1:l'.drop (Int.toNat 8)=p1:=hp1
      have y2:l'.drop (Int.toNat 16)=p2:=hp2
      have y3:l'.drop (Int.toNat 24)=p3:=hp3
      have y4:l'.drop (Int.toNat 32)=p4:=hp4
      have z1:p1.length=l'.length-8:=by rw[<- hp1,List.length_drop]
      have z2:p2.length=l'.length-16:=by rw[<- hp2,List.length_drop]
      have z3:p3.length=l'.length-24:=by rw[<- hp3,List.length_drop]
      have z4:p4.length=l'.length-32:=by rw[<- hp4,List.length_drop]
      have u0:=UK l' (by omega)
      have u1:=UK p1 (by omega)
      have u2:=UK p2 (by omega)
      have u3:=UK p3 (by omega)
      have r1:=R8 l' p1
      have r2:=R8 p2 p3
      have r3:=u64_or_nat (w8N l' ||| w8N p1) (w8N p2 ||| w8N p3) (Nat.or_lt_two_pow (n:=64) (Vl l') (Vl p1)) (Nat.or_lt_two_pow (n:=64) (Vl p2) (Vl p3))
      have a4:=G0 (a:=(w8N l' ||| w8N p1) ||| (w8N p2 ||| w8N p3)) (Nat.or_lt_two_pow (n:=64) (Nat.or_lt_two_pow (n:=64) (Vl l') (Vl p1)) (Nat.or_lt_two_pow (n:=64) (Vl p2) (Vl p3)))
      have m8:Int.toNat 8<=l'.length:=by show 8<=l'.length;omega
      have m16:Int.toNat 16<=l'.length:=by show 16<=l'.length;omega
      have m24:Int.toNat 24<=l'.length:=by show 24<=l'.length;omega
      have m32:Int.toNat 32<=l'.length:=by show 32<=l'.length;omega
      by_cases t4:((w8N l' ||| w8N p1) ||| (w8N p2 ||| w8N p3)) &&& hi8=0
      ·rw[decide_eq_true t4]at a4
       have hv4:ZI p4=ZI b:=by
        have q1:=UL t4
        have e1:=Wu 8 l' (by omega) (UJ (by omega) (UL q1.1).1)
        have e2:=Wu 8 p1 (by omega) (UJ (by omega) (UL q1.1).2)
        have e3:=Wu 8 p2 (by omega) (UJ (by omega) (UL q1.2).1)
        have e4:=Wu 8 p3 (by omega) (UJ (by omega) (UL q1.2).2)
        rw[hp1]at e1
        rw[<- hp1,List.drop_drop,hp1,hp2]at e2
        rw[<- hp2,List.drop_drop,hp2,hp3]at e3
        rw[<- hp3,List.drop_drop,hp3,hp4]at e4
        rw[<- hv',e1,e2,e3,e4]
       repeat'(first|rw[r1]|rw[r2]|rw[r3]|rw[a4]|(apply Zb (u0);kernel_rfl;(iterate 4 exact Z))|(apply Zb (u1);kernel_rfl;(iterate 4 exact Z))|(apply Zb (u2);kernel_rfl;(iterate 4 exact Z))|(apply Zb (u3);kernel_rfl;(iterate 4 exact Z))|(apply Vp Za;(iterate 8 exact Z);exact Qb;(first|with_reducible assumption|decide|(simp only[List.length_cons,List.length_drop,List.length_take,List.length_append,Int.toNat_natCast]at *;omega));(first|with_reducible assumption|exact Z))|(apply Zg Za;exact Z)|(apply Zh Za;exact Z)|(apply Zs Za;exact Z)|refine Zd Z Z Z Qt ?_|refine Zj Z Qt Z Z ?_|refine Ze Z Qt ?_|refine ZD ?_|refine Zn Za Z Z Z Z ?_|(apply ZW 17 ZG;decide +kernel;kernel_rfl;kernel_rfl;exact Z;exact Z)|(apply Yb;(iterate 3 exact Z))|refine AD.nil _|exact Yv rfl)
       refine Lands.mk' (m:=p4.length) (by omega) ⟨p4,rfl,by omega,hv4,rfl,rfl,rfl⟩ ?_ rfl rfl rfl rfl rfl rfl
       exact .cons rfl (.cons rfl .nil)
      ·rw[decide_eq_false t4]at a4
       repeat'(first|rw[r1]|rw[r2]|rw[r3]|rw[a4]|(apply Zb (u0);kernel_rfl;(iterate 4 exact Z))|(apply Zb (u1);kernel_rfl;(iterate 4 exact Z))|(apply Zb (u2);kernel_rfl;(iterate 4 exact Z))|(apply Zb (u3);kernel_rfl;(iterate 4 exact Z))|(apply Vp Za;(iterate 8 exact Z);exact Qb;(first|with_reducible assumption|decide|(simp only[List.length_cons,List.length_drop,List.length_take,List.length_append,Int.toNat_natCast]at *;omega));(first|with_reducible assumption|exact Z))|(apply Zg Za;exact Z)|(apply Zh Za;exact Z)|(apply Zs Za;exact Z)|refine Zd Z Z Z Qt ?_|refine Zj Z Qt Z Z ?_|refine Zf Z Qt ?_|refine Zn Za Z Z Z Z ?_|(apply ZW 17 ZG;decide +kernel;kernel_rfl;kernel_rfl;exact Z;exact Z)|(apply Yb;(iterate 3 exact Z))|refine AD.nil _|exact Yv rfl)
       refine Lands.mk' (m:=l'.length) (by omega) ⟨l',rfl,hv',rfl,rfl,rfl⟩ ?_ rfl rfl rfl rfl rfl rfl
       exact .cons rfl (.cons rfl .nil)
     ·have d32:decide (((l'.map E.byte).length:Int)>32)=false:=by simp;omega
      repeat'(first|(apply Zg Za;exact Z)|(apply Zh Za;exact Z)|(apply Zs Za;exact Z)|refine Zr Z Z Z Qt ?_|refine Zi Z Qt Z Z ?_|refine Zf Z Qt ?_|refine Zn Za Z Z Z Z ?_|(apply ZW 17 ZG;decide +kernel;kernel_rfl;kernel_rfl;exact Z;exact Z)|(apply Yb;(iterate 3 exact Z))|refine AD.nil _|exact Yv rfl)
      refine Lands.mk' (m:=l'.length) (by omega) ⟨l',rfl,hv',rfl,rfl,rfl⟩ ?_ rfl rfl rfl rfl rfl rfl
      exact .cons rfl (.cons rfl .nil)
    ·rw[decide_eq_false t2]at a2
     repeat'(first|rw[o1]|rw[a1]|rw[a2]|(apply Zb (w1);kernel_rfl;(iterate 4 exact Z))|(apply Zb (w2);kernel_rfl;(iterate 4 exact Z))|(apply Zb (w3);kernel_rfl;(iterate 4 exact Z))|(apply Vp Za;(iterate 8 exact Z);exact Qb;(first|with_reducible assumption|decide|(simp only[List.length_cons,List.length_drop,List.length_take,List.length_append,Int.toNat_natCast]at *;omega));(first|with_reducible assumption|exact Z))|(apply Zg Za;exact Z)|(apply Zh Za;exact Z)|(apply Zs Za;exact Z)|refine Zd Z Z Z Qt ?_|refine Zj Z Qt Z Z ?_|refine Ze Z Qt ?_|refine Zf Z Qt ?_|refine Zn Za Z Z Z Z ?_|(apply ZW 8 ZG;decide +kernel;kernel_rfl;kernel_rfl;exact Z;exact Z)|(apply Yb;(iterate 3 exact Z))|refine AD.nil _|exact Yv rfl|(apply Zw Za;(iterate 6 exact Z);(first|exact Qt|rotate_left);(first|with_reducible assumption|decide +kernel|exact Z);(first|exact Zk rfl|with_reducible assumption|decide +kernel|rotate_left)))
     refine Lands.mk' (m:=p.length) (by omega) ⟨p,rfl,hv2,rfl,rfl,rfl⟩ ?_ rfl rfl rfl rfl rfl rfl
     exact .cons rfl (.cons rfl .nil)
   ·have d16:decide (((p.map E.byte).length:Int)>16)=false:=by simp;omega
    repeat'(first|rw[a1]|(apply Zb (w1);kernel_rfl;(iterate 4 exact Z))|(apply Vp Za;(iterate 8 exact Z);exact Qb;(first|with_reducible assumption|decide|(simp only[List.length_cons,List.length_drop,List.length_take,List.length_append,Int.toNat_natCast]at *;omega));(first|with_reducible assumption|exact Z))|(apply Zg Za;exact Z)|(apply Zh Za;exact Z)|(apply Zs Za;exact Z)|refine Zd Z Z Z Qt ?_|refine Zr Z Z Z Qt ?_|refine Zj Z Qt Z Z ?_|refine Zi Z Qt Z Z ?_|refine Ze Z Qt ?_|refine Zf Z Qt ?_|refine Zn Za Z Z Z Z ?_|(apply ZW 8 ZG;decide +kernel;kernel_rfl;kernel_rfl;exact Z;exact Z)|(apply Yb;(iterate 3 exact Z))|refine AD.nil _|exact Yv rfl|(apply Zw Za;(iterate 6 exact Z);(first|exact Qt|rotate_left);(first|with_reducible assumption|decide +kernel|exact Z);(first|exact Zk rfl|with_reducible assumption|decide +kernel|rotate_left)))
    refine Lands.mk' (m:=p.length) (by omega) ⟨p,rfl,hv2,rfl,rfl,rfl⟩ ?_ rfl rfl rfl rfl rfl rfl
    exact .cons rfl (.cons rfl .nil)
  ·rw[decide_eq_false t1]at a1
   repeat'(first|rw[a1]|(apply Zb (w1);kernel_rfl;(iterate 4 exact Z))|(apply Vp Za;(iterate 8 exact Z);exact Qb;(first|with_reducible assumption|decide|(simp only[List.length_cons,List.length_drop,List.length_take,List.length_append,Int.toNat_natCast]at *;omega));(first|with_reducible assumption|exact Z))|(apply Zg Za;exact Z)|(apply Zh Za;exact Z)|(apply Zs Za;exact Z)|refine Zd Z Z Z Qt ?_|refine Zj Z Qt Z Z ?_|refine Ze Z Qt ?_|refine Zf Z Qt ?_|refine Zn Za Z Z Z Z ?_|(apply Zw Za;(iterate 6 exact Z);(first|exact Qt|rotate_left);(first|with_reducible assumption|decide +kernel|exact Z);(first|exact Zk rfl|with_reducible assumption|decide +kernel|rotate_left)))
   refine Lands.mk' (m:=r.length) (by omega) ⟨r,rfl,hv1,rfl,rfl,rfl⟩ ?_ rfl rfl rfl rfl rfl rfl
   exact .cons rfl (.cons rfl .nil)
 ·have d8:decide (((r.map E.byte).length:Int)>8)=false:=by simp;omega
  repeat'(first|(apply Vp Za;(iterate 8 exact Z);exact Qb;(first|with_reducible assumption|decide|(simp only[List.length_cons,List.length_drop,List.length_take,List.length_append,Int.toNat_natCast]at *;omega));(first|with_reducible assumption|exact Z))|(apply Zg Za;exact Z)|(apply Zh Za;exact Z)|(apply Zs Za;exact Z)|refine Zr Z Z Z Qt ?_|refine Zi Z Qt Z Z ?_|refine Ze Z Qt ?_|refine Zf Z Qt ?_|refine Zn Za Z Z Z Z ?_|(apply Zw Za;(iterate 6 exact Z);(first|exact Qt|rotate_left);(first|with_reducible assumption|decide +kernel|exact Z);(first|exact Zk rfl|with_reducible assumption|decide +kernel|rotate_left)))
  refine Lands.mk' (m:=r.length) (by omega) ⟨r,rfl,hv1,rfl,rfl,rfl⟩ ?_ rfl rfl rfl rfl rfl rfl
  exact .cons rfl (.cons rfl .nil)
end Go.Proofs.YtchlgagdbflkmaaGreatDoor
end
