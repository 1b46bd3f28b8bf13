/- The document's reports: its answers are the program's; read, joined (rwgen.py). -/
import Derived.Test.YtmljabhmajehnaaGreatDoorR35
import Derived.Test.YtmljabhmajehnaaGreatDoorR37
import Derived.Test.YtmljabhmajehnaaGreatDoorR40
import Derived.Test.YtmljabhmajehnaaGreatDoorR18
import Derived.Laws.BitsAllLaws
import Derived.Test.YtmljabhmajehnaaGreatDoorR26
import Derived.Test.YtmljabhmajehnaaGreatDoorR34
import Derived.Test.YtmljabhmajehnaaGreatDoorR25
import Derived.Test.YtmljabhmajehnaaGreatDoorR19
import Derived.Test.YtmljabhmajehnaaGreatDoorR10
set_option linter.unusedVariables false
set_option linter.unusedSimpArgs false
section
open Go.RowKit Go.Pl Go.Av
namespace Go.Proofs.YtmljabhmajehnaaGreatDoor
set_option maxHeartbeats 4000000
theorem Og (b:List UInt8)(hb:b.length<=100000)(h:Y5 b=true):ZI (Z8 b 0).1=b:=by
 rcases VD b (by omega) with⟨e,he,h2,hs⟩ | ⟨y,m,h2,_⟩
 ·rw[hs]at h;cases h
 ·rw[Oe b hb h2,Bool.and_eq_true]at h
  rw[h2]
  exact by simpa using h.2
theorem Mq {x:It}(hw:wfI x)(hr:ZC x=true)(hl:(ZI x).length<=100000):Y5 (ZI x)=true:=by
 rw[Oe (ZI x) hl (JK hw hr)]
 simp
def Oh (x:It):RepV × Bool:=match x with
 | .mk k n bb [x0,.mk k1 n1 b1 [.mk k2 n2 b2 [m1,m2,m3],y1,y2,y3]]=>(match(YF y3).2.2.2&&(Yj (WA m1 m2 m3 y1 y2 y3)&&It.beq (Ya (WA m1 m2 m3 y1 y2 y3)) (.mk k n bb [x0,.mk k1 n1 b1 [.mk k2 n2 b2 [m1,m2,m3],y1,y2,y3]])) with
  | false=>(rp0,false)
  | true=>(WA m1 m2 m3 y1 y2 y3,true))
 | _=>(rp0,false)
def IX (b:List UInt8):RepV × Bool:=match Y5 b with
 | false=>(rp0,false)
 | true=>Oh (Z8 b 0).1
theorem TF (x:It):Oh x=(rp0,false)\/∃ r,Yj r=true/\Ya r=x/\Oh x=(r,true):=by
 unfold Oh
 split
 ·rename_i k n bb x0 k1 n1 b1 k2 n2 b2 m1 m2 m3 y1 y2 y3
  generalize WA m1 m2 m3 y1 y2 y3=r
  cases hc:(YF y3).2.2.2&&(Yj r&&It.beq (Ya r) (.mk k n bb [x0,.mk k1 n1 b1 [.mk k2 n2 b2 [m1,m2,m3],y1,y2,y3]])) with
  | false=>exact .inl rfl
  | true=>
   simp only[Bool.and_eq_true]at hc
   exact .inr ⟨_,hc.2.1,It.beq_iff.1 hc.2.2,rfl⟩
 ·exact .inl rfl
theorem Mr {r:RepV}(h:Yj r=true):Oh (Ya r)=(r,true):=by
 obtain⟨h1,h2,h3⟩:=Um h
 have hi:=QS h3
 have hrep:WA (.mk 0 (nb r.a) [] []) (.mk 0 (nb r.b) [] []) (.mk 0 (nb r.c) [] []) (.mk 0 r.rs [] []) (.mk 0 r.tm [] []) (Yw r.of r.t r.q)=r:=by
  unfold WA
  rw[hi]
  dsimp only[It.n]
  rw[XL,XL,XL]
 show(match(YF (Yw r.of r.t r.q)).2.2.2&&(Yj (WA (.mk 0 (nb r.a) [] []) (.mk 0 (nb r.b) [] []) (.mk 0 (nb r.c) [] []) (.mk 0 r.rs [] []) (.mk 0 r.tm [] []) (Yw r.of r.t r.q))&&It.beq (Ya (WA (.mk 0 (nb r.a) [] []) (.mk 0 (nb r.b) [] []) (.mk 0 (nb r.c) [] []) (.mk 0 r.rs [] []) (.mk 0 r.tm [] []) (Yw r.of r.t r.q))) (Ya r)) with
  | false=>(rp0,false)
  | true=>(WA (.mk 0 (nb r.a) [] []) (.mk 0 (nb r.b) [] []) (.mk 0 (nb r.c) [] []) (.mk 0 r.rs [] []) (.mk 0 r.tm [] []) (Yw r.of r.t r.q),true))=(r,true)
 rw[hrep,hi,h,It.beq_iff.2 rfl]
 rfl
theorem IY (b:List UInt8):Vq b=(rp0,3)\/∃ s,Vq b=(s,0):=by
 unfold Vq
 split
 ·exact .inl rfl
 ·unfold Xd
  repeat' split
  all_goals first|exact .inl rfl|exact .inr ⟨_,rfl⟩
theorem Kj {s:RepV}{b:List UInt8}(h:Wl s=(b,0)):Yj s=true/\ZI (Ya s)=b:=by
 cases hr:Yj s with
 | false=>
  rw[XM hr]at h
  cases(Prod.mk.inj h).2
 | true=>
  rw[Qn hr]at h
  exact⟨rfl,(Prod.mk.inj h).1⟩
theorem BT (b:List UInt8)(hb:b.length<=100000):(IX b=(rp0,false)/\Vq b=(rp0,3))\/∃ s,IX b=(s,true)/\Vq b=(s,0):=by
 have hd:IX b=(rp0,false)\/∃ r,Yj r=true/\ZI (Ya r)=b/\IX b=(r,true):=by
  unfold IX
  cases hs:Y5 b with
  | false=>exact .inl rfl
  | true=>
   dsimp only
   rcases TF (Z8 b 0).1 with h|⟨r,hr,hi,h⟩
   ·exact .inl h
   ·exact .inr ⟨r,hr,by rw[hi,Og b hb hs],h⟩
 rcases hd with hd|⟨r,hr,hp,hd⟩
 ·rcases IY b with h|⟨s,h⟩
  ·exact .inl ⟨hd,h⟩
  ·exfalso
   obtain⟨hr,hp⟩:=Kj (Ov h)
   have hs:Y5 b=true:=by rw[<- hp];exact Mq (UW hr) (VS hr) (by rw[hp];exact hb)
   unfold IX at hd
   rw[hs]at hd
   dsimp only at hd
   have e:(Z8 b 0).1=Ya s:=by rw[<- hp,JK (UW hr) (VS hr)]
   rw[e,Mr hr]at hd
   cases(Prod.mk.inj hd).2
 ·exact .inr ⟨r,hd,by rw[<- hp];exact Uy hr⟩
theorem TG {x:EidV}{t q:Nat}(h:Yv x t q=true):Fit x:=UN (YG.1 h).1
theorem Ms (z:It):Fit (YF z).1:=by
 rcases Xb z with h|⟨x,t,q,hr,_,h⟩
 ·rw[h];exact(⟨by decide,by decide⟩:Fit Yi)
 ·rw[h];exact TG hr
theorem Mt [Known][KnownU8](b:List UInt8)(hb:b.length<=100000):AP Tryz.prog 23 [byE b] (.tup [.agg (Y6 (IX b).1),.bool (IX b).2]) []:=by
 have hI:=Xe b hb
 unfold IX
 rcases Qo b hb with⟨hs,hi⟩ | ⟨hs,hi,hr,hw⟩
 ·rw[hs,hi]at hI
  rw[hs]
  exact DI b 0 0 [] [] hI
 rw[hs,hi]at hI
 rw[hs]
 have hput:=Og b hb hs
 have hSame:=fun(r:RepV) (h:Yj r=true)=>VC (Ya r) (UW h) _ hw
 generalize (Z8 b 0).1=x at *
 dsimp only
 have hx2:∀ y ∈ x.l,(ZI y).length<=b.length:=fun y hy=>by
  obtain⟨k,n,bb,l⟩:=x
  have h1:=UQ hy
  have h2:=G1 k n bb l
  rw[hput]at h2
  dsimp only[It.l]at h1
  omega
 obtain⟨k,n,bb,l⟩:=x
 have hws:=hw.2.2.2
 have hlen:=Zw l
 replace hI:AP Tryz.prog 69 [byE b] (.tup [.agg [.int .i64 k,.int .u64 (n:Int),.sl .ext (bb.map E.byte),.sl .ext (Zv l)],.bool true]) []:=hI
 dsimp only[It.l]at hx2
 by_cases h2:l.length=2
 case neg=>
  have e:Oh (.mk k n bb l)=(rp0,false):=by
   unfold Oh
   split
   ·rename_i heq
    injection heq with _ _ _ e1
    rw[e1]at h2
    exact absurd rfl h2
   ·rfl
  rw[e]
  exact DJ b k n _ _ hI (by rw[hlen];simp;omega)
 case pos=>
 obtain⟨x0,⟨uk,un,ub,ul⟩,rfl⟩:∃ y c,l=[y,c]:=by
  match l,h2 with
  | [y,c],_=>exact⟨y,c,rfl⟩
 have hx3:∀ y ∈ ul,(ZI y).length<=b.length:=fun y hy=>by
  have h1:=UQ hy
  have h2:=G1 uk un ub ul
  have h3:=hx2 (.mk uk un ub ul) (by simp)
  omega
 have hwu:wfs ul:=hws.2.1.2.2.2
 have hU:=YE [x0,.mk uk un ub ul]
 have t2:(((Zv [x0,.mk uk un ub ul]).length:Int) != 2)=false:=by rw[Zw];rfl
 have hlu:=Zw ul
 have hv1:(Zv [x0,It.mk uk un ub ul])[(1:Int).toNat]?=some (.agg [.int .i64 uk,.int .u64 (un:Int),.sl (ub.map E.byte),.sl (Zv ul)]):=by obtain⟨a0,a1,a2,a3⟩:=x0;rfl
 by_cases h4:ul.length=4
 case neg=>
  have e:Oh (.mk k n bb [x0,.mk uk un ub ul])=(rp0,false):=by
   unfold Oh
   split
   ·rename_i heq
    injection heq with _ _ _ e1
    injection e1 with _ e1
    injection e1 with e1 _
    injection e1 with _ _ _ e1
    rw[e1]at h4
    exact absurd rfl h4
   ·rfl
  rw[e]
  exact DK b k uk n un _ _ _ _ hI hU t2 hv1 (by rw[hlu];simp;omega)
 case pos=>
 obtain⟨⟨vk,vn,vb,vl⟩,⟨r0,r1,r2,r3⟩,⟨s0,s1,s2,s3⟩,⟨yk,yn,yb,yl⟩,rfl⟩:∃ a c d e,ul=[a,c,d,e]:=by
  match ul,h4 with
  | [a,c,d,e],_=>exact⟨a,c,d,e,rfl⟩
 have hU1:=YE [.mk vk vn vb vl,.mk r0 r1 r2 r3,.mk s0 s1 s2 s3,.mk yk yn yb yl]
 have t4:(((Zv [.mk vk vn vb vl,.mk r0 r1 r2 r3,.mk s0 s1 s2 s3,.mk yk yn yb yl]).length:Int) != 4)=false:=by rw[Zw];rfl
 have hlv:=Zw vl
 by_cases h3:vl.length=3
 case neg=>
  have e:Oh (.mk k n bb [x0,.mk uk un ub [.mk vk vn vb vl,.mk r0 r1 r2 r3,.mk s0 s1 s2 s3,.mk yk yn yb yl]])=(rp0,false):=by
   unfold Oh
   split
   ·rename_i heq
    injection heq with _ _ _ e1
    injection e1 with _ e1
    injection e1 with e1 _
    injection e1 with _ _ _ e1
    injection e1 with e1 _
    injection e1 with _ _ _ e1
    rw[e1]at h3
    exact absurd rfl h3
   ·rfl
  rw[e]
  exact DL b k uk vk n un vn _ _ _ _ _ _ hI hU t2 hv1 hU1 t4 rfl (by rw[hlv];simp;omega)
 case pos=>
 obtain⟨⟨a0,a1,a2,a3⟩,⟨c0,c1,c2,c3⟩,⟨d0,d1,d2,d3⟩,rfl⟩:∃ a c d,vl=[a,c,d]:=by
  match vl,h3 with
  | [a,c,d],_=>exact⟨a,c,d,rfl⟩
 have hU2:=YE [.mk a0 a1 a2 a3,.mk c0 c1 c2 c3,.mk d0 d1 d2 d3]
 have t3:(((Zv [.mk a0 a1 a2 a3,.mk c0 c1 c2 c3,.mk d0 d1 d2 d3]).length:Int) != 3)=false:=by rw[Zw];rfl
 have hyy:=hx3 (.mk yk yn yb yl) (by simp)
 have hwy:wfI (.mk yk yn yb yl):=hwu.2.2.2.1
 have hD:=Tq (.mk yk yn yb yl) hwy (fun y hy z hz=>by
  have h1:=UQ hy
  have h2:=G1 yk yn yb yl
  obtain⟨q0,q1,q2,q3⟩:=y
  have h3:=UQ hz
  have h4:=G1 q0 q1 q2 q3
  have h5:=Dw z
  dsimp only[It.l]at h1 h3
  omega)
 have hf:=Ms (.mk yk yn yb yl)
 show AP Tryz.prog _ _ (.tup [.agg (Y6 (match(YF (.mk yk yn yb yl)).2.2.2&&(Yj (WA (.mk a0 a1 a2 a3) (.mk c0 c1 c2 c3) (.mk d0 d1 d2 d3) (.mk r0 r1 r2 r3) (.mk s0 s1 s2 s3) (.mk yk yn yb yl))&&It.beq (Ya (WA (.mk a0 a1 a2 a3) (.mk c0 c1 c2 c3) (.mk d0 d1 d2 d3) (.mk r0 r1 r2 r3) (.mk s0 s1 s2 s3) (.mk yk yn yb yl))) (.mk k n bb [x0,.mk uk un ub [.mk vk vn vb [.mk a0 a1 a2 a3,.mk c0 c1 c2 c3,.mk d0 d1 d2 d3],.mk r0 r1 r2 r3,.mk s0 s1 s2 s3,.mk yk yn yb yl]])) with
  | false=>(rp0,false)
  | true=>(WA (.mk a0 a1 a2 a3) (.mk c0 c1 c2 c3) (.mk d0 d1 d2 d3) (.mk r0 r1 r2 r3) (.mk s0 s1 s2 s3) (.mk yk yn yb yl),true)).1),.bool (match(YF (.mk yk yn yb yl)).2.2.2&&(Yj (WA (.mk a0 a1 a2 a3) (.mk c0 c1 c2 c3) (.mk d0 d1 d2 d3) (.mk r0 r1 r2 r3) (.mk s0 s1 s2 s3) (.mk yk yn yb yl))&&It.beq (Ya (WA (.mk a0 a1 a2 a3) (.mk c0 c1 c2 c3) (.mk d0 d1 d2 d3) (.mk r0 r1 r2 r3) (.mk s0 s1 s2 s3) (.mk yk yn yb yl))) (.mk k n bb [x0,.mk uk un ub [.mk vk vn vb [.mk a0 a1 a2 a3,.mk c0 c1 c2 c3,.mk d0 d1 d2 d3],.mk r0 r1 r2 r3,.mk s0 s1 s2 s3,.mk yk yn yb yl]])) with
  | false=>(rp0,false)
  | true=>(WA (.mk a0 a1 a2 a3) (.mk c0 c1 c2 c3) (.mk d0 d1 d2 d3) (.mk r0 r1 r2 r3) (.mk s0 s1 s2 s3) (.mk yk yn yb yl),true)).2]) []
 unfold WA
 generalize YF (.mk yk yn yb yl)=j at *
 obtain⟨j,jt,jq,ok⟩:=j
 dsimp only[It.n]at *
 have hR:=K7 ⟨(a1:Int)==1,(c1:Int)==1,(d1:Int)==1,r1,s1,j,jt,jq⟩ hf
 have hT:=fun h=>Ij ⟨(a1:Int)==1,(c1:Int)==1,(d1:Int)==1,r1,s1,j,jt,jq⟩ h
 have hM:=fun h=>hSame ⟨(a1:Int)==1,(c1:Int)==1,(d1:Int)==1,r1,s1,j,jt,jq⟩ h
 clear hSame hx2 hx3 hwu hws hw hput hwy hr hf hyy
 generalize Ya ⟨(a1:Int)==1,(c1:Int)==1,(d1:Int)==1,r1,s1,j,jt,jq⟩=w at *
 generalize Yj ⟨(a1:Int)==1,(c1:Int)==1,(d1:Int)==1,r1,s1,j,jt,jq⟩=ri at *
 obtain⟨wk,wn,wb,wl⟩:=w
 obtain⟨ji,jn,js,jh,jd⟩:=j
 cases ok with
 | false=>exact DM b k uk vk r0 s0 yk a0 c0 d0 n un vn r1 s1 yn a1 c1 d1 _ _ _ _ _ _ _ _ _ _ _ _ _ _ _ _ _ _ ji jn js jh jd jt jq hI hU t2 hv1 hU1 t4 rfl hU2 t3 rfl rfl rfl rfl rfl rfl hD
 | true=>
 cases ri with
 | false=>exact DN b k uk vk r0 s0 yk a0 c0 d0 n un vn r1 s1 yn a1 c1 d1 _ _ _ _ _ _ _ _ _ _ _ _ _ _ _ _ _ _ ji jn js jh jd jt jq hI hU t2 hv1 hU1 t4 rfl hU2 t3 rfl rfl rfl rfl rfl rfl hD hR
 | true=>
 replace hT:=hT rfl
 replace hM:=hM rfl
 cases hm:It.beq (.mk wk wn wb wl) (.mk k n bb [x0,.mk uk un ub [.mk vk vn vb [.mk a0 a1 a2 a3,.mk c0 c1 c2 c3,.mk d0 d1 d2 d3],.mk r0 r1 r2 r3,.mk s0 s1 s2 s3,.mk yk yn yb yl]]) with
 | false=>
  rw[hm]at hM
  exact DO b k uk vk r0 s0 yk a0 c0 d0 n un vn r1 s1 yn a1 c1 d1 _ _ _ _ _ _ _ _ _ _ _ _ _ _ _ _ _ _ ji jn js jh jd jt jq wk wn _ _ hI hU t2 hv1 hU1 t4 rfl hU2 t3 rfl rfl rfl rfl rfl rfl hD hR hT hM
 | true=>
  rw[hm]at hM
  exact DP b k uk vk r0 s0 yk a0 c0 d0 n un vn r1 s1 yn a1 c1 d1 _ _ _ _ _ _ _ _ _ _ _ _ _ _ _ _ _ _ ji jn js jh jd jt jq wk wn _ _ hI hU t2 hv1 hU1 t4 rfl hU2 t3 rfl rfl rfl rfl rfl rfl hD hR hT hM
def hN (p s:Nat):Nat:=(s >>> 1) ^^^ (if s.testBit 0 then p else 0)
def itN (p:Nat):Nat->Nat->Nat
 | 0,s=>s
 | k+1,s=>itN p k (hN p s)
def byN (p s c:Nat):Nat:=itN p 8 (s ^^^ c)
def ruN (p s:Nat)(b:List Nat):Nat:=b.foldl (byN p) s
theorem DV {p s:Nat}(hp:p<4294967296)(hs:s<4294967296):hN p s<4294967296:=by
 unfold hN
 refine Nat.xor_lt_two_pow (n:=32) ?_ ?_
 ·rw[Nat.shiftRight_eq_div_pow];omega
 ·split<;>omega
theorem Mu {p s:Nat}(hp:p<4294967296)(hs:s<4294967296):VA (s:Int) (p:Int)=(hN p s:Int):=by
 have h1:bits .and .u32 (s:Int) 1=((s &&& 1:Nat):Int):=u32_and_nat s 1 hs (by decide)
 have h2:R5 (s:Int)=((s >>> 1:Nat):Int):=by
  unfold R5
  rw[Nat.shiftRight_eq_div_pow,show min (Int.toNat 1) IntKind.u32.bits=1 from rfl,Int.fdiv_eq_ediv_of_nonneg _ (by decide)]
  rfl
 unfold VA hN
 rw[h1,h2,Nat.testBit_zero,Nat.and_one_is_mod]
 by_cases e:s % 2=1
 ·rw[e]
  show bits .xor .u32 _ _=_
  rw[u32_xor_nat _ _ (by rw[Nat.shiftRight_eq_div_pow];omega) hp]
  simp
 ·have e0:s % 2=0:=by omega
  rw[e0]
  show((s >>> 1:Nat):Int)=_
  simp
theorem Ri {p s:Nat}(c:UInt8)(hp:p<4294967296)(hs:s<4294967296):GH (s:Int) c (p:Int)=(byN p s c.toNat:Int)/\byN p s c.toNat<4294967296:=by
 have hc:=c.toNat_lt
 have h1:bits .xor .u32 (s:Int) (IntKind.u32.wrap (c.toNat:Int))=((s ^^^ c.toNat:Nat):Int):=by
  rw[IntWalk.u32_in _ (by omega)]
  exact u32_xor_nat s c.toNat hs (by omega)
 have h2:s ^^^ c.toNat<4294967296:=Nat.xor_lt_two_pow (n:=32) hs (by omega)
 unfold GH byN
 rw[h1]
 generalize s ^^^ c.toNat=x at *
 have key:∀ y:Nat,y<4294967296->VA (y:Int) (p:Int)=(hN p y:Int)/\hN p y<4294967296:=fun y hy=>⟨Mu hp hy,DV hp hy⟩
 obtain⟨k1,l1⟩:=key x h2
 obtain⟨k2,l2⟩:=key _ l1
 obtain⟨k3,l3⟩:=key _ l2
 obtain⟨k4,l4⟩:=key _ l3
 obtain⟨k5,l5⟩:=key _ l4
 obtain⟨k6,l6⟩:=key _ l5
 obtain⟨k7,l7⟩:=key _ l6
 obtain⟨k8,l8⟩:=key _ l7
 rw[k1,k2,k3,k4,k5,k6,k7,k8]
 exact⟨rfl,l8⟩
theorem IZ {p:Nat}(hp:p<4294967296):∀(b:List UInt8) (s:Nat),s<4294967296->IJ (s:Int) (p:Int) b=(ruN p s (b.map UInt8.toNat):Int)/\ruN p s (b.map UInt8.toNat)<4294967296
 | [],s,h=>⟨rfl,h⟩
 | c::b,s,h=>by
  obtain⟨h1,h2⟩:=Ri c hp h
  have ih:=IZ hp b (byN p s c.toNat) h2
  rw[<- h1]at ih
  exact ih
theorem I0 {p W:Nat}(hp2:p<2 ^ (W+1)):∀(k s:Nat),s<2 ^ (W+1)->itN p k s<2 ^ (W+1)
 | 0,s,h=>h
 | k+1,s,h=>I0 hp2 k _ (by
  unfold hN
  refine Nat.xor_lt_two_pow ?_ ?_
  ·rw[Nat.shiftRight_eq_div_pow]
   exact Nat.lt_of_le_of_lt (Nat.div_le_self ..) h
  ·split
   ·exact hp2
   ·exact Nat.two_pow_pos _)
theorem Hr {p W:Nat}(hp2:p<2 ^ (W+1))(hW:7<=W):∀(b:List UInt8) (s:Nat),s<2 ^ (W+1)->ruN p s (b.map UInt8.toNat)<2 ^ (W+1)
 | [],s,h=>h
 | c::b,s,h=>by
  have hc:=c.toNat_lt
  have:2 ^ 8<=2 ^ (W+1):=Nat.pow_le_pow_right (by omega) (by omega)
  exact Hr hp2 hW b _ (I0 hp2 8 _ (Nat.xor_lt_two_pow h (by omega)))
theorem Im (b:List UInt8):Qg b=((65535 ^^^ ruN 33800 65535 (b.map UInt8.toNat):Nat):Int)/\65535 ^^^ ruN 33800 65535 (b.map UInt8.toNat)<65536:=by
 have h1:=(IZ (p:=33800) (by decide) b 65535 (by decide)).1
 have h2:=Hr (p:=33800) (W:=15) (by decide) (by decide) b 65535 (by decide)
 unfold Qg
 rw[show IJ 65535 33800 b=_ from h1,IntWalk.u16_in _ (by omega)]
 exact⟨u16_xor_nat 65535 _ (by decide) h2,Nat.xor_lt_two_pow (n:=16) (by decide) h2⟩
theorem Hs (b:List UInt8):UJ b=((4294967295 ^^^ ruN 2197175160 4294967295 (b.map UInt8.toNat):Nat):Int)/\4294967295 ^^^ ruN 2197175160 4294967295 (b.map UInt8.toNat)<4294967296:=by
 have h1:=(IZ (p:=2197175160) (by decide) b 4294967295 (by decide)).1
 have h2:=Hr (p:=2197175160) (W:=31) (by decide) (by decide) b 4294967295 (by decide)
 unfold UJ
 rw[show IJ 4294967295 2197175160 b=_ from h1]
 exact⟨u32_xor_nat 4294967295 _ (by decide) h2,Nat.xor_lt_two_pow (n:=32) (by decide) h2⟩
theorem Ht {n x:Nat}(h:x<2 ^ n):(2 ^ n-1) ^^^ x=2 ^ n-1-x:=by
 apply Nat.eq_of_testBit_eq
 intro i
 rw[Nat.testBit_xor,Nat.testBit_two_pow_sub_one,show 2 ^ n-1-x=2 ^ n-(x+1) from by omega,Nat.testBit_two_pow_sub_succ h]
 by_cases hi:i<n
 ·simp[hi]
 ·have:x.testBit i=false:=Nat.testBit_lt_two_pow (Nat.lt_of_lt_of_le h (Nat.pow_le_pow_right (by omega) (by omega)))
  simp[hi,this]
theorem Nw [Known](b:List UInt8)(hb:b.length<=1099511627776)(f p W:Nat)(hp:p<2 ^ (W+1))(hf:f+1=2 ^ (W+1))(hW:7<=W)(hM:2 ^ (W+1)<=4294967296):AP Tryz.prog 183 [byE b,.int .u64 (f:Int),.int .u64 (p:Int)] (.int .u64 ((f-ruN p f (b.map UInt8.toNat):Nat):Int)) []:=by
 have hl:(b.map E.byte).length=b.length:=List.length_map ..
 have hU:=Yr b
 have h256:2 ^ 8<=2 ^ (W+1):=Nat.pow_le_pow_right (by omega) (by omega)
 have hf':f<2 ^ (W+1):=by omega
 have hx:∀ s c:Nat,s<2 ^ (W+1)->c<256->s ^^^ c<2 ^ (W+1):=fun s c h1 h2=>Nat.xor_lt_two_pow h1 (by omega)
 have hH:∀ s,s<2 ^ (W+1)->hN p s<2 ^ (W+1):=fun s h=>I0 hp 1 s h
 have hBy:∀ s c:Nat,s<2 ^ (W+1)->c<256->byN p s c<2 ^ (W+1):=fun s c h1 h2=>I0 hp 8 _ (hx s c h1 h2)
 generalize hfin:ruN p f (b.map UInt8.toNat)=fin
 refine AP.ofA (Zl Tryz.func183 U Tryz.ntmps183 U U ?_)
 repeat'(first|(apply Zg Za;exact U))
 refine ZJ (fun k tm bx fr=>∃(i s:Nat),k+i=b.length/\s<2 ^ (W+1)/\ruN p s ((b.drop i).map UInt8.toNat)=fin/\tm=[(0,byE b),(1,.int .u64 (f:Int)),(2,.int .u64 (p:Int)),(7,.int .u64 (s:Int)),(8,.int .i64 (i:Int))]/\bx=[]/\fr=[]) (b.length+1) (Lands.mk' (m:=b.length) (Nat.lt_succ_self _) ⟨0,f,by omega,hf',hfin,rfl,rfl,rfl⟩ ?_ rfl rfl rfl rfl rfl rfl) ?_
 ·exact .cons rfl (.cons rfl (.cons rfl (.cons rfl (.cons rfl .nil))))
 rintro k tm bx fr ⟨i,s,hk,hs,hq,rfl,rfl,rfl⟩
 rcases Nat.lt_or_ge i b.length with hlt|hge
 ·have hd:decide ((i:Int)<((b.map E.byte).length:Int))=true:=decide_eq_true (by omega)
  obtain⟨c,t,hdr,hv,ht⟩:=IQ hlt
  have hc:=c.toNat_lt
  rw[hdr,ht]at hq
  have hq2:ruN p (byN p s c.toNat) ((b.drop (i+1)).map UInt8.toNat)=fin:=hq
  have ei:IntKind.i64.wrap ((i:Int)+1)=((i+1:Nat):Int):=by rw[IntWalk.i64_in _ (by omega)];omega
  have e1:IntKind.u64.wrap (c.toNat:Int)=(c.toNat:Int):=by rw[IntKind.wrap_u64];omega
  have ex:bits .xor .u64 (s:Int) (c.toNat:Int)=((s ^^^ c.toNat:Nat):Int):=u64_xor_nat s c.toNat (by omega) (by omega)
  have hxc:=hx s c.toNat hs hc
  have hbs:=hBy s c.toNat hs hc
  have hb8:itN p 8 (s ^^^ c.toNat)=byN p s c.toNat:=rfl
  generalize s ^^^ c.toNat=x0 at *
  generalize byN p s c.toNat=y0 at *
  repeat'(first|rw[e1]|rw[ex]|(apply Zi Za;exact U)|(apply Zg Za;exact U)|(apply Zp Za;exact U)|refine Zd U Qt ?_|refine Zn Za U U U U ?_|(apply Zu Za;(iterate 6 exact U);(first|exact Qt|rotate_left);(first|with_reducible assumption|decide +kernel|exact U);(first|exact Zk rfl|with_reducible assumption|decide +kernel|rotate_left)))
  refine ZJ (fun k2 tm bx fr=>∃(j s':Nat),k2+j=8/\s'<2 ^ (W+1)/\itN p (8-j) s'=y0/\tm=[(0,byE b),(1,.int .u64 (f:Int)),(2,.int .u64 (p:Int)),(7,.int .u64 (s':Int)),(8,.int .i64 (i:Int)),(9,.int .i64 (j:Int))]/\bx=[]/\fr=[]) 9 (Lands.mk' (m:=8) (Nat.lt_succ_self _) ⟨0,x0,rfl,hxc,hb8,rfl,rfl,rfl⟩ ?_ rfl rfl rfl rfl rfl rfl) ?_
  ·exact .cons rfl (.cons rfl (.cons rfl (.cons rfl (.cons rfl (.cons rfl .nil)))))
  rintro k2 tm bx fr ⟨j,s',hj,hs',hit,rfl,rfl,rfl⟩
  rcases Nat.lt_or_ge j 8 with h8|h8
  ·have hd8:decide ((j:Int)<8)=true:=decide_eq_true (by omega)
   have ej:IntKind.i64.wrap ((j:Int)+1)=((j+1:Nat):Int):=by rw[IntWalk.i64_in _ (by omega)];omega
   have er:((s':Nat):Int).tmod 2=((s' % 2:Nat):Int):=by rw[Int.tmod_eq_emod_of_nonneg (Int.natCast_nonneg _)];omega
   have eq:IntKind.u64.wrap (((s':Nat):Int).tdiv 2)=((s'/2:Nat):Int):=by rw[Int.tdiv_eq_ediv_of_nonneg (Int.natCast_nonneg _),IntKind.wrap_u64];omega
   have hh:=hH s' hs'
   have hit2:itN p (8-(j+1)) (hN p s')=y0:=by rw[<- hit,show 8-j=(8-(j+1))+1 from by omega];rfl
   have hdef:hN p s'=(s'/2) ^^^ (if s' % 2=1 then p else 0):=by
    unfold hN
    rw[Nat.shiftRight_eq_div_pow,Nat.testBit_zero]
    simp
   have exx:bits .xor .u64 ((s'/2:Nat):Int) (p:Int)=(((s'/2) ^^^ p:Nat):Int):=u64_xor_nat _ _ (by omega) (by omega)
   rcases Nat.mod_two_eq_zero_or_one s' with h2|h2
   ·rw[h2,if_neg (by omega),Nat.xor_zero]at hdef
    rw[h2]at er
    rw[hdef]at hit2 hh
    repeat'(first|rw[er]|rw[eq]|rw[ej]|(apply Zi Za;exact U)|(apply Zg Za;exact U)|refine Zd U Qt ?_|refine Zf U Qt ?_|(apply Vt;exact U;exact U;(first|exact Qt|rotate_left);exact U)|(apply Vu;exact U;exact U;(first|exact Qt|rotate_left);exact U))
    refine Lands.mk' (m:=k2-1) (by omega) ⟨j+1,s'/2,by omega,hh,hit2,rfl,rfl,rfl⟩ ?_ rfl rfl rfl rfl rfl rfl
    exact .cons rfl (.cons rfl (.cons rfl (.cons rfl (.cons rfl (.cons rfl .nil)))))
   ·rw[h2,if_pos rfl]at hdef
    rw[h2]at er
    rw[hdef]at hit2 hh
    repeat'(first|rw[er]|rw[eq]|rw[exx]|rw[ej]|(apply Zi Za;exact U)|(apply Zg Za;exact U)|refine Zd U Qt ?_|(apply Vt;exact U;exact U;(first|exact Qt|rotate_left);exact U)|(apply Vu;exact U;exact U;(first|exact Qt|rotate_left);exact U))
    refine Lands.mk' (m:=k2-1) (by omega) ⟨j+1,(s'/2) ^^^ p,by omega,hh,hit2,rfl,rfl,rfl⟩ ?_ rfl rfl rfl rfl rfl rfl
    exact .cons rfl (.cons rfl (.cons rfl (.cons rfl (.cons rfl (.cons rfl .nil)))))
  ·obtain rfl:j=8:=by omega
   have hd8:decide (((8:Nat):Int)<8)=false:=rfl
   have hy:s'=y0:=hit
   subst hy
   repeat'(first|rw[ei]|(apply Zg Za;exact U)|refine Zf U Qt ?_)
   refine Lands.mk' (m:=k-1) (by omega) ⟨i+1,s',by omega,hs',hq2,rfl,rfl,rfl⟩ ?_ rfl rfl rfl rfl rfl rfl
   exact .cons rfl (.cons rfl (.cons rfl (.cons rfl (.cons rfl .nil))))
 ·have hd:decide ((i:Int)<((b.map E.byte).length:Int))=false:=decide_eq_false (by omega)
  rw[List.drop_eq_nil_of_le hge]at hq
  have hq:s=fin:=hq
  subst hq
  have es:IntKind.u64.wrap ((f:Int)-(s:Int))=((f-s:Nat):Int):=by rw[IntKind.wrap_u64];omega
  repeat'(first|rw[es]|(apply Zi Za;exact U)|(apply Zg Za;exact U)|(apply Zp Za;exact U)|refine Zf U Qt ?_|refine Zn Za U U U U ?_)
  all_goals exact Qe
theorem Mv [Known](b:List UInt8)(hb:b.length<=1099511627776):AP Tryz.prog 157 [byE b] (.int .u16 (Qg b)) []:=by
 have h:=Nw b hb 65535 33800 15 (by decide) (by decide) (by decide) (by decide)
 obtain⟨h1,h2⟩:=Im b
 have hr:=Hr (p:=33800) (W:=15) (by decide) (by decide) b 65535 (by decide)
 have hx:65535 ^^^ ruN 33800 65535 (b.map UInt8.toNat)=65535-ruN 33800 65535 (b.map UInt8.toNat):=Ht (n:=16) hr
 rw[hx]at h1 h2
 rw[h1]
 generalize 65535-ruN 33800 65535 (b.map UInt8.toNat)=z at *
 have e:IntKind.u16.wrap (z:Int)=(z:Int):=IntWalk.u16_in _ (by omega)
 refine AP.ofA (Zl Tryz.func157 U Tryz.ntmps157 U U ?_)
 repeat'(first|rw[e]|(apply Zb (h);kernel_rfl;(iterate 4 exact U))|(apply Zi Za;exact U)|(apply Zg Za;exact U))
 all_goals exact Qe
theorem Rj [Known](b:List UInt8)(hb:b.length<=1099511627776):AP Tryz.prog 158 [byE b] (.int .u32 (UJ b)) []:=by
 have h:=Nw b hb 4294967295 2197175160 31 (by decide) (by decide) (by decide) (by decide)
 obtain⟨h1,h2⟩:=Hs b
 have hr:=Hr (p:=2197175160) (W:=31) (by decide) (by decide) b 4294967295 (by decide)
 have hx:4294967295 ^^^ ruN 2197175160 4294967295 (b.map UInt8.toNat)=4294967295-ruN 2197175160 4294967295 (b.map UInt8.toNat):=Ht (n:=32) hr
 rw[hx]at h1 h2
 rw[h1]
 generalize 4294967295-ruN 2197175160 4294967295 (b.map UInt8.toNat)=z at *
 have e:IntKind.u32.wrap (z:Int)=(z:Int):=IntWalk.u32_in _ (by omega)
 refine AP.ofA (Zl Tryz.func158 U Tryz.ntmps158 U U ?_)
 repeat'(first|rw[e]|(apply Zb (h);kernel_rfl;(iterate 4 exact U))|(apply Zi Za;exact U)|(apply Zg Za;exact U))
 all_goals exact Qe
theorem XN [Known](L:List E):AP Tryz.prog 122 [.sl .ext L] (.agg [.int .i64 4,.int .u64 0,.sl .ext [],.sl .ext L]) []:=by
 refine AP.ofA (Zl Tryz.func122 U Tryz.ntmps122 U U ?_)
 repeat'(first|(apply Zg Za;exact U))
 all_goals exact Qe
theorem Hu [Known](l:List It)(hl:l.length<=2199023255488)(c:List E):AP Tryz.prog 156 [.sl .ext (Zv l),.sl .ext c] (.agg [.int .i64 4,.int .u64 0,.sl .ext [],.sl .ext (Zv l++[.agg [.int .i64 2,.int .u64 0,.sl c,.sl []]])]) []:=by
 have hlen:=Zw l
 have hU:=YE l
 have hL:=XN (Zv l++[.agg [.int .i64 2,.int .u64 0,.sl c,.sl []]])
 cases l with
 | nil=>
  refine AP.ofA (Zl Tryz.func156 U Tryz.ntmps156 U U ?_)
  repeat'(first|(apply Zb (hL);kernel_rfl;(iterate 4 exact U))|refine Z7 Za U U U U U U (Zk rfl) (List.cons_ne_nil _ _) U Qd Qd U U U ?_|(apply Zi Za;exact U)|(apply Zg Za;exact U)|refine ZM Za U U U U U U U U U U U U ?_|refine ZX Za U U U U U U ?_)
  all_goals exact Qe
 | cons x l=>
  have hne:Zv (x::l) ≠ []:=by rw[Zv];exact List.cons_ne_nil _ _
  generalize Zv (x::l)=L at *
  have hLl:L.length<=2199023255488:=by omega
  refine AP.ofA (Zl Tryz.func156 U Tryz.ntmps156 U U ?_)
  repeat'(first|(apply Zb (hL);kernel_rfl;(iterate 4 exact U))|(apply Zi Za;exact U)|(apply Zg Za;exact U)|refine ZM Za U U U U U U U U U U U U ?_|(apply ZR Za;(iterate 6 exact U);(first|with_reducible assumption|decide +kernel|exact U|rotate_left);exact U;exact U;(first|exact Zk rfl|with_reducible assumption|decide +kernel|rotate_left);(first|exact Zk rfl|with_reducible assumption|decide +kernel|rotate_left);(first|exact Qt|rotate_left);(first|exact Qt|rotate_left);(first|exact Qt|rotate_left);exact U;exact U)|(apply Ws Za;(iterate 6 exact U);(first|exact Zk rfl|with_reducible assumption|decide +kernel|rotate_left);(first|exact Qt|rotate_left);(first|exact Qt|rotate_left);(first|exact Qt|rotate_left);(iterate 3 exact U)))
  all_goals first|((apply Zq [];(apply Zc Za;exact U);(iterate 4 exact U)))|skip
  all_goals first|rfl|(first|rfl|(simp only[List.length_append,List.length_cons,List.length_nil,List.length_map,Zw];done)|(simp only[List.length_append,List.length_cons,List.length_nil,List.length_map,Zw]at *;(try unfold maxLen);(try simp only[Nat.add_mul]);omega))|(simp;done)|(simp;omega)|(simp;unfold maxLen;omega)
def Wg (l:List It)(s:Nat):It × Bool:=match s with
 | 0=>(.mk 4 0 [] l,ZC (.mk 4 0 [] l))
 | s+1=>match ZC (ZV (s+1) l) with
  | true=>(UK (s+1) l,true)
  | false=>(z0,false)
theorem XO (z:Nat):IntKind.u8.wrap (((z:Nat):Int).tmod 256)=((z % 256:Nat):Int):=by
 rw[Int.tmod_eq_emod_of_nonneg (Int.natCast_nonneg _),IntKind.wrap_u8];omega
theorem XP (z:Nat)(h:z<4294967296):IntKind.u32.wrap (((z:Nat):Int).tdiv 256)=((z/256:Nat):Int):=by
 rw[Int.tdiv_eq_ediv_of_nonneg (Int.natCast_nonneg _),IntKind.wrap_u32];omega
theorem SC (b:List UInt8):∃ z:Nat,z<65536/\Qg b=(z:Int)/\[E.int .u8 ((z/256 % 256:Nat):Int),E.int .u8 ((z % 256:Nat):Int)]=(Uw 1 b).map E.byte:=by
 obtain⟨h1,h2⟩:=Im b
 generalize (65535 ^^^ ruN 33800 65535 (b.map UInt8.toNat))=z at *
 refine⟨z,h2,h1,?_⟩
 rw[H7]
 unfold Sb shU
 rw[if_pos rfl,h1,show min (8:Int).toNat IntKind.u16.bits=8 from rfl,Int.fdiv_eq_ediv_of_nonneg _ (by decide),IntKind.wrap_u8,IntKind.wrap_u8]
 have e1:((z/256 % 256:Nat):Int)=(z:Int)/2 ^ 8 % 256:=by omega
 have e2:((z % 256:Nat):Int)=(z:Int) % 256:=by omega
 rw[e1,e2]
theorem SD (b:List UInt8):∃ z:Nat,z<4294967296/\UJ b=(z:Int)/\[E.int .u8 ((z/256/256/256 % 256:Nat):Int),E.int .u8 ((z/256/256 % 256:Nat):Int),E.int .u8 ((z/256 % 256:Nat):Int),E.int .u8 ((z % 256:Nat):Int)]=(Uw 2 b).map E.byte:=by
 obtain⟨h1,h2⟩:=Hs b
 generalize (4294967295 ^^^ ruN 2197175160 4294967295 (b.map UInt8.toNat))=z at *
 refine⟨z,h2,h1,?_⟩
 rw[H7]
 unfold Sb shU
 rw[if_neg (by decide),h1,show min (24:Int).toNat IntKind.u32.bits=24 from rfl,show min (16:Int).toNat IntKind.u32.bits=16 from rfl,show min (8:Int).toNat IntKind.u32.bits=8 from rfl,Int.fdiv_eq_ediv_of_nonneg _ (by decide),Int.fdiv_eq_ediv_of_nonneg _ (by decide),Int.fdiv_eq_ediv_of_nonneg _ (by decide),IntKind.wrap_u8,IntKind.wrap_u8,IntKind.wrap_u8,IntKind.wrap_u8]
 have e1:((z/256/256/256 % 256:Nat):Int)=(z:Int)/2 ^ 24 % 256:=by omega
 have e2:((z/256/256 % 256:Nat):Int)=(z:Int)/2 ^ 16 % 256:=by omega
 have e3:((z/256 % 256:Nat):Int)=(z:Int)/2 ^ 8 % 256:=by omega
 have e4:((z % 256:Nat):Int)=(z:Int) % 256:=by omega
 rw[e1,e2,e3,e4]
theorem Oi [Known][KnownU8](l:List It)(s:Nat)(hs:s<=2)(hws:wfs l)(hl:l.length<=1000000)(hsz:Yg l<=900)(hlim:(ZI (ZV s l)).length<=1000000000) :
  AP Tryz.prog 123 [.sl .ext (Zv l),.int .i64 (s:Int)] (.tup [itD (Wg l s).1,.bool (Wg l s).2]) []:=by
 have hlen:=Zw l
 have hL:=XN (Zv l)
 unfold Wg
 match s,hs with
 | 0,_=>
  have hw:wfI (.mk 4 0 [] l):=⟨by decide,by simp,by omega,hws⟩
  have hR:=Xc (.mk 4 0 [] l) hw (by rw[YD];omega)
  dsimp only
  generalize ZC (.mk 4 0 [] l)=R at *
  replace hR:AP Tryz.prog 155 [.agg [.int .i64 4,.int .u64 0,.sl .ext [],.sl .ext (Zv l)]] (.bool R) []:=hR
  show AP Tryz.prog _ _ (.tup [.agg [.int .i64 4,.int .u64 0,.sl .ext [],.sl .ext (Zv l)],.bool R]) []
  refine AP.ofA (Zl Tryz.func123 U Tryz.ntmps123 U U ?_)
  repeat'(first|(apply Zb (hL);kernel_rfl;(iterate 4 exact U))|(apply Zb (hR);kernel_rfl;(iterate 4 exact U))|(apply Zi Za;exact U)|(apply Zg Za;exact U)|refine Zd U Qt ?_)
  all_goals exact Qe
 | s+1,hs=>
  have hs':s+1=1\/s+1=2:=by omega
  have hwz:=Nb hs' hws hl
  have hszz:YD (ZV (s+1) l)<=1000:=by
   have h:∀(l r:List It),Yg (l++r)=Yg l+Yg r:=fun l r=>by
    induction l with
    | nil=>simp[Yg]
    | cons x l ih=>rw[List.cons_append,Yg,ih,Yg];omega
   unfold ZV
   simp only[YD,h,Yg]
   omega
  have hR:=Xc (ZV (s+1) l) hwz hszz
  have hW1:=Hu l (by omega) (List.replicate (2*(s+1)) (.int .u8 0))
  have eZ:itD (ZV (s+1) l)=.agg [.int .i64 4,.int .u64 0,.sl .ext [],.sl .ext (Zv l++[.agg [.int .i64 2,.int .u64 0,.sl (List.replicate (2*(s+1)) (.int .u8 0)),.sl []]])]:=by
   unfold ZV
   show D.agg [.int .i64 4,.int .u64 0,.sl .ext [],.sl .ext (Zv (l++[.mk 2 0 (List.replicate (2*(s+1)) 0) []]))]=_
   rw[WP]
   have:(List.replicate (2*(s+1)) (0:UInt8)).map E.byte=List.replicate (2*(s+1)) (.int .u8 0):=by rw[List.map_replicate];rfl
   show D.agg [.int .i64 4,.int .u64 0,.sl .ext [],.sl .ext (Zv l++[.agg [.int .i64 2,.int .u64 0,.sl ((List.replicate (2*(s+1)) (0:UInt8)).map E.byte),.sl []]])]=_
   rw[this]
  rw[eZ]at hR
  dsimp only
  cases hr:ZC (ZV (s+1) l) with
  | false=>
   rw[hr]at hR
   clear hszz hwz hlim eZ hr
   generalize Zv l=L at *
   obtain rfl|rfl:s=0\/s=1:=by omega
   all_goals
    refine AP.ofA (Zl Tryz.func123 U Tryz.ntmps123 U U ?_)
    repeat'(first|(apply VL Za (l:=2);(iterate 12 exact U))|(apply VL Za (l:=4);(iterate 12 exact U))|(apply Zb (hW1);kernel_rfl;(iterate 4 exact U))|(apply Zb (hR);kernel_rfl;(iterate 4 exact U))|(apply Zi Za;exact U)|(apply Zg Za;exact U)|(apply Zp Za;exact U)|refine Zd U Qt ?_|refine Zf U Qt ?_)
    all_goals exact Qe
  | true=>
   rw[hr]at hR
   have hf:Yz (ZV (s+1) l)=true:=by
    have:=hr
    rw[YY]at this
    simp only[Bool.and_eq_true]at this
    exact this.2.2
   have hP:=UX (ZV (s+1) l) hwz hf (by omega)
   rw[eZ]at hP
   have hSh:=Mv (ZI (ZV (s+1) l)) (by omega)
   have hLo:=Rj (ZI (ZV (s+1) l)) (by omega)
   have eO:itD (UK (s+1) l)=.agg [.int .i64 4,.int .u64 0,.sl .ext [],.sl .ext (Zv l++[.agg [.int .i64 2,.int .u64 0,.sl ((Uw (s+1) (ZI (ZV (s+1) l))).map E.byte),.sl []]])]:=by
    unfold UK
    show D.agg [.int .i64 4,.int .u64 0,.sl .ext [],.sl .ext (Zv (l++[.mk 2 0 (Uw (s+1) (ZI (ZV (s+1) l))) []]))]=_
    rw[WP]
    rfl
   dsimp only
   rw[eO]
   have hW2:=Hu l (by omega) ((Uw (s+1) (ZI (ZV (s+1) l))).map E.byte)
   generalize ZI (ZV (s+1) l)=P at *
   clear hszz hwz hlim eZ hr hf eO
   obtain⟨z1,hz1,es1,ec1⟩:=SC P
   obtain⟨z2,hz2,es2,ec2⟩:=SD P
   rw[es1]at hSh
   rw[es2]at hLo
   have w1:IntKind.u32.wrap (z1:Int)=(z1:Int):=IntWalk.u32_in _ (by omega)
   generalize Zv l=L at *
   obtain rfl|rfl:s=0\/s=1:=by omega
   ·rw[show(0+1:Nat)=1 from rfl,<- ec1]at hW2 ⊢
    have r0:=XO z1
    have q0:=XP z1 (by omega)
    have r1:=XO (z1/256)
    have q1:=XP (z1/256) (by omega)
    refine AP.ofA (Zl Tryz.func123 U Tryz.ntmps123 U U ?_)
    repeat'(first|(apply VL Za (l:=2);(iterate 12 exact U))|(apply Zb (hW1);kernel_rfl;(iterate 4 exact U))|(apply Zb (hW2);kernel_rfl;(iterate 4 exact U))|(apply Zb (hR);kernel_rfl;(iterate 4 exact U))|(apply Zb (hP);kernel_rfl;(iterate 4 exact U))|(apply Zb (hSh);kernel_rfl;(iterate 4 exact U))|rw[w1]|rw[r0]|rw[q0]|rw[r1]|rw[q1]|refine Yu 20 ?_|refine YI ?_|refine Wu Za U U U U U U U U U U U (Zk rfl) (Zk rfl) (List.cons_ne_nil _ _) Qd Qd U U ?_|(apply Zi Za;exact U)|(apply Zg Za;exact U)|(apply Zp Za;exact U)|refine Zd U Qt ?_|refine Zf U Qt ?_|refine ZM Za U U U U U U U U U U U U ?_|refine ZX Za U U U U U U ?_|(apply Vt;exact U;exact U;(first|exact Qt|rotate_left);exact U)|(apply Vu;exact U;exact U;(first|exact Qt|rotate_left);exact U))
    all_goals exact Qe
   ·rw[show(1+1:Nat)=2 from rfl,<- ec2]at hW2 ⊢
    have r0:=XO z2
    have q0:=XP z2 (by omega)
    have r1:=XO (z2/256)
    have q1:=XP (z2/256) (by omega)
    have r2:=XO (z2/256/256)
    have q2:=XP (z2/256/256) (by omega)
    have r3:=XO (z2/256/256/256)
    have q3:=XP (z2/256/256/256) (by omega)
    refine AP.ofA (Zl Tryz.func123 U Tryz.ntmps123 U U ?_)
    repeat'(first|(apply VL Za (l:=4);(iterate 12 exact U))|(apply Zb (hW1);kernel_rfl;(iterate 4 exact U))|(apply Zb (hW2);kernel_rfl;(iterate 4 exact U))|(apply Zb (hR);kernel_rfl;(iterate 4 exact U))|(apply Zb (hP);kernel_rfl;(iterate 4 exact U))|(apply Zb (hSh);kernel_rfl;(iterate 4 exact U))|(apply Zb (hLo);kernel_rfl;(iterate 4 exact U))|rw[w1]|rw[r0]|rw[q0]|rw[r1]|rw[q1]|rw[r2]|rw[q2]|rw[r3]|rw[q3]|refine Yu 20 ?_|refine YI ?_|refine Wu Za U U U U U U U U U U U (Zk rfl) (Zk rfl) (List.cons_ne_nil _ _) Qd Qd U U ?_|(apply Zi Za;exact U)|(apply Zg Za;exact U)|(apply Zp Za;exact U)|refine Zd U Qt ?_|refine Zf U Qt ?_|refine ZM Za U U U U U U U U U U U U ?_|refine ZX Za U U U U U U ?_|(apply Vt;exact U;exact U;(first|exact Qt|rotate_left);exact U)|(apply Vu;exact U;exact U;(first|exact Qt|rotate_left);exact U))
    all_goals exact Qe
theorem UZ:∀(l r:List It),Yg (l++r)=Yg l+Yg r
 | [],r=>by simp[Yg]
 | x::l,r=>by rw[List.cons_append,Yg,UZ l r,Yg];omega
theorem U0:∀(l r:List It) (d:Nat),YN (l++r) d=(YN l d&&YN r d)
 | [],r,d=>by simp[YN]
 | x::l,r,d=>by rw[List.cons_append,YN,U0 l r d,YN,Bool.and_assoc]
theorem U1:∀(l r:List It),Y9 (l++r)=(Y9 l&&Y9 r)
 | [],r=>by simp[Y9]
 | x::l,r=>by rw[List.cons_append,Y9,U1 l r,Y9,Bool.and_assoc]
theorem Oj (l:List It)(b c:List UInt8):ZC (.mk 4 0 [] (l++[.mk 2 0 b []]))=ZC (.mk 4 0 [] (l++[.mk 2 0 c []])):=by
 rw[YY,YY]
 have o:∀ x:List UInt8,Wp 4 0 [] (l++[.mk 2 0 x []])=true:=fun x=>by simp[Wp]
 have h1:YU (.mk 4 0 [] (l++[.mk 2 0 b []])) 6=YU (.mk 4 0 [] (l++[.mk 2 0 c []])) 6:=by
  rw[YU,YU,U0,U0];rfl
 have h2:YD (.mk 4 0 [] (l++[.mk 2 0 b []]))=YD (.mk 4 0 [] (l++[.mk 2 0 c []])):=by
  rw[YD,YD,UZ,UZ];rfl
 have h3:Yz (.mk 4 0 [] (l++[.mk 2 0 b []]))=Yz (.mk 4 0 [] (l++[.mk 2 0 c []])):=by
  rw[Yz,Yz,o,o,U1,U1];rfl
 rw[h1,h2,h3]
theorem Io {n:Nat}{b:List UInt8}{l:List It}(h:ZC (.mk 4 n b l)=true):l.all ZC=true:=by
 rw[YY]at h
 simp only[Bool.and_eq_true,decide_eq_true_eq]at h
 obtain⟨h1,h2,h3⟩:=h
 rw[YU]at h1
 rw[YD]at h2
 rw[Yz,Bool.and_eq_true]at h3
 refine List.all_eq_true.2 fun y hy=>?_
 rw[YY]
 simp only[Bool.and_eq_true,decide_eq_true_eq]
 have:=XH y hy
 exact⟨KS y 5 6 (O8 h1 y hy) (by omega),by omega,XJ h3.2 y hy⟩
theorem Ok {l:List It}{b:List UInt8}(h:ZC (.mk 4 0 [] (l++[.mk 2 0 b []]))=true):l.all ZC=true:=by
 have:=Io h
 rw[List.all_append,Bool.and_eq_true]at this
 exact this.1
def Nx (l:List It)(a:Int):It × Int:=match decide (a<0)||decide (a ≥ (l.length:Int)) with
 | true=>(z0,1)
 | false=>match decide (Wv l a ≥ 0) with
  | false=>(z0,3)
  | true=>match(Wg l (Wv l a).toNat).2 with
   | true=>((Wg l (Wv l a).toNat).1,0)
   | false=>(z0,3)
theorem dS1 (l:List It):Wg l 1=match ZC (ZV 1 l) with|true=>(UK 1 l,true)|false=>(z0,false):=rfl
theorem dS2 (l:List It):Wg l 2=match ZC (ZV 2 l) with|true=>(UK 2 l,true)|false=>(z0,false):=rfl
theorem Ny (l:List It)(a:Int):VO l a=Nx l a:=by
 unfold VO Nx
 cases decide (a<0)||decide (a ≥ (l.length:Int)) with
 | true=>rfl
 | false=>
 dsimp only
 rcases QN l a with h|⟨h,_⟩
 ·rw[h,show decide ((-1:Int) ≥ 0)=false from rfl,Bool.and_false]
 rcases h with h|h|h
 ·rw[h,show decide ((0:Int) ≥ 0)=true from rfl,Bool.and_true,show decide ((0:Int)>0)=false from rfl]
  dsimp only[Wg,Int.toNat_zero]
  cases hr:ZC (.mk 4 0 [] l) with
  | true=>rw[Io hr];first|done|rfl
  | false=>cases l.all ZC<;>simp[Wg,hr]
 ·rw[h,show decide ((1:Int) ≥ 0)=true from rfl,Bool.and_true,show decide ((1:Int)>0)=true from rfl]
  show(match l.all ZC with|false=>(z0,(3:Int))|true=>(match ZC (ZV 1 l) with|false=>(z0,3)|true=>match ZC (UK 1 l) with|false=>(z0,3)|true=>(UK 1 l,0)))=match(Wg l 1).2 with|true=>((Wg l 1).1,0)|false=>(z0,3)
  have ho:ZC (UK 1 l)=ZC (ZV 1 l):=Oj l _ _
  rw[ho,dS1]
  cases hr:ZC (ZV 1 l) with
  | true=>rw[show l.all ZC=true from Ok hr]
  | false=>cases l.all ZC<;>rfl
 ·rw[h,show decide ((2:Int) ≥ 0)=true from rfl,Bool.and_true,show decide ((2:Int)>0)=true from rfl]
  show(match l.all ZC with|false=>(z0,(3:Int))|true=>(match ZC (ZV 2 l) with|false=>(z0,3)|true=>match ZC (UK 2 l) with|false=>(z0,3)|true=>(UK 2 l,0)))=match(Wg l 2).2 with|true=>((Wg l 2).1,0)|false=>(z0,3)
  have ho:ZC (UK 2 l)=ZC (ZV 2 l):=Oj l _ _
  rw[ho,dS2]
  cases hr:ZC (ZV 2 l) with
  | true=>rw[show l.all ZC=true from Ok hr]
  | false=>cases l.all ZC<;>rfl
end Go.Proofs.YtmljabhmajehnaaGreatDoor
end
section
open Go.RowKit Go.Pl
namespace Go.Av
section
variable {P:Program} {Q:X->St->Prop} {n:Nat} {ee:Nat × Nat} {tm:List (Nat × D)} {bx bx':List (List D)} {fr fr':List Fr} {b0:Bs} {g:G} {w:World} {a:Act} {T:Tab}
variable {ops:Array Oper} {rest:List Oper} {t ty:Nat} {pos:String} {after:Array Edge}
end
end Go.Av
end
section
open Go.RowKit Go.Pl Go.Av
namespace Go.Proofs.YtmljabhmajehnaaGreatDoor
set_option maxHeartbeats 4000000
end Go.Proofs.YtmljabhmajehnaaGreatDoor
end
