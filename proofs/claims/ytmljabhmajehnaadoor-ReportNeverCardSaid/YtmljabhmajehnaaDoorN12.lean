/- Laws of items: what is written is read back, what is read may be and is written no longer, what is cut is too short. -/
import Derived.Test.YtmljabhmajehnaaDoorN11
import Derived.Test.YtmljabhmajehnaaDoorN10
set_option linter.unusedVariables false
set_option linter.unusedSimpArgs false
section
open Go.RowKit Go.Pl
namespace Go.Proofs.YtmljabhmajehnaaDoor
theorem JC {s r:List UInt8}{h:Hd}(e:rdS s=.ok (h,r)):∃ pre,s=pre++r/\0<pre.length:=by
 cases s with
 | nil=>simp[rdS]at e
 | cons c t=>
  simp only[rdS]at e
  split at e
  ·injection e with e;injection e with e1 e2;subst e2;exact⟨[c],rfl,by simp⟩
  split at e
  ·injection e with e;injection e with e1 e2;subst e2;exact⟨[c],rfl,by simp⟩
  split at e
  ·cases e
  split at e
  ·cases e
  ·injection e with e;injection e with e1 e2;subst e2
   exact⟨c::t.take (2 ^ (c.toNat % 32-24)),by simp,by simp⟩
theorem QG (b:List UInt8)(p:Nat)(hp:p<=b.length):Yx b p=match rdS (b.drop p) with
  | .error e=>((0,0,false),0,e)
  | .ok (h,r)=>(h,b.length-r.length,0):=by
 unfold Yx
 have hl:(b.drop p).length=b.length-p:=List.length_drop ..
 cases hs:b.drop p with
 | nil=>simp[rdS]
 | cons c r=>
  rw[hs]at hl
  simp at hl
  simp only[rdS]
  by_cases h1:c.toNat % 32<24
  ·simp[h1];omega
  by_cases h2:c.toNat % 32=31/\QF (c.toNat/32:Nat)=true
  ·rw[if_neg h1,if_pos h2,if_neg h1,if_pos h2]
   simp;omega
  by_cases h3:27<c.toNat % 32
  ·rw[if_neg h1,if_neg h2,if_pos h3,if_neg h1,if_neg h2,if_pos h3]
  by_cases h4:r.length<2 ^ (c.toNat % 32-24)
  ·rw[if_neg h1,if_neg h2,if_neg h3,if_pos h4,if_neg h1,if_neg h2,if_neg h3,if_pos h4]
  ·rw[if_neg h1,if_neg h2,if_neg h3,if_neg h4,if_neg h1,if_neg h2,if_neg h3,if_neg h4]
   generalize 2 ^ (c.toNat % 32-24)=k at h4 ⊢
   simp;omega
theorem Xr (h:Hd)(hr:ZV h=true)(hn:h.2.1<18446744073709551616)(s:List UInt8):rdS (ZQ h++s)=.ok (h,s):=by
 have e:=OL h hr hn [] s
 simp only[List.nil_append,List.length_nil,Nat.zero_add]at e
 rw[QG _ 0 (Nat.zero_le _),List.drop_zero]at e
 cases hx:rdS (ZQ h++s) with
 | error c => rw [hx] at e; simp at e; have := e.2.1; have := YA h hr; have : 0 < Ua h := by unfold Ua; rw [if_pos hr]; split <;> omega
              omega
 | ok y=>
  obtain⟨h',r⟩:=y
  rw[hx]at e
  simp only[Prod.mk.injEq,and_true]at e
  obtain⟨e1,e2⟩:=e
  obtain⟨pre,hp,_⟩:=JC hx
  have hl:=congrArg List.length hp
  simp at hl e2
  have:pre.length=(ZQ h).length:=by omega
  have:=List.append_inj hp this.symm
  rw[<- this.2,e1]
theorem X8 {s r:List UInt8}{h:Hd}(e:rdS s=.ok (h,r)):ZV h=true/\h.2.1<18446744073709551616/\∃ pre,s=pre++r/\(ZQ h).length<=pre.length/\0<pre.length:=by
 have e0:=QG s 0 (Nat.zero_le _)
 rw[List.drop_zero,e]at e0
 dsimp only at e0
 have w:=OM s 0 (by rw[e0])
 have bd:=KK s 0
 rw[e0]at w bd
 obtain⟨pre,hp,h0⟩:=JC e
 have hl:=congrArg List.length hp
 simp at hl
 exact⟨w.1,bd.2.1,pre,hp,by have:=w.2.1;dsimp only at this;omega,h0⟩
theorem TK (h:Hd)(hr:ZV h=true)(hn:h.2.1<18446744073709551616)(c:Nat)(hc:c<(ZQ h).length):rdS ((ZQ h).take c)=.error 8:=by
 cases c with
 | zero=>rfl
 | succ c=>
  obtain⟨m,n,o⟩:=h
  obtain⟨hm0,hm7⟩:=QX hr
  cases o with
  | true=>simp[ZQ]at hc
  | false=>
   have hw:ZQ (m,n,false)=WL m.toNat (Yr n)::beN n (ZA n):=rfl
   rw[hw]at hc ⊢
   simp only[List.length_cons,Yw]at hc
   dsimp only at hm0 hm7 hn
   rw[List.take_succ_cons]
   have hi:=KJ n
   have ht:(WL m.toNat (Yr n)).toNat=32*m.toNat+Yr n:=YW _ _ (by omega) (by omega)
   rcases Qa n hn with⟨_,hf,_⟩ | ⟨_,hf,h24,h27,_⟩
   ·omega
   ·simp only[rdS,ht]
    have e:(32*m.toNat+Yr n) % 32=Yr n:=by omega
    rw[e,if_neg (by omega),if_neg (by omega),if_neg (by omega),if_pos]
    rw[List.length_take,Yw,<- hf]
    omega
theorem JD {k:Int}{n:Nat}{b:List UInt8}{l:List It}(h:WV k n b l=true):(k=0/\b=[]/\l=[])\/(k=2/\n=0/\l=[])\/(k=3/\n=0/\l=[]/\ZD b=true)\/(k=4/\n=0/\b=[]):=by
 unfold WV at h
 by_cases h0:k=0
 ·simp[h0]at h;exact .inl ⟨h0,h⟩
 by_cases h2:k=2
 ·simp[h2]at h;exact .inr (.inl ⟨h2,h⟩)
 by_cases h3:k=3
 ·simp[h3]at h;exact .inr (.inr (.inl ⟨h3,h⟩))
 by_cases h4:k=4
 ·simp[h4]at h;exact .inr (.inr (.inr ⟨h4,h⟩))
 ·simp[h0,h2,h3,h4]at h
theorem Hx {x:It}(h:0<=x.k/\x.k<=7):0<(ZG x).length:=by
 obtain⟨k,n,b,l⟩:=x
 simp only[It.k]at h
 have hr:ZV (k,(It.mk k n b l).hn,false)=true:=by simp[ZV];exact h
 rw[ZG,if_pos hr,List.length_append,YA _ hr]
 unfold Ua;rw[if_pos hr];simp;omega
theorem VL {k:Int}{n:Nat}{b:List UInt8}{l:List It}{d m m':Nat}(h:YS (.mk k n b l) d m=some m'):d<=6/\1<=m/\WV k n b l=true/\Ym l (d+1) (m-1)=some m':=by
 rw[YS]at h
 split at h
 ·cases h
 split at h
 ·cases h
 split at h
 ·cases h
 ·rename_i h3;exact⟨by omega,by omega,h3,h⟩
theorem Jf {k:Int}{n:Nat}{b:List UInt8}{l:List It}(h:WV k n b l=true):0<=k/\k<=7:=by
 rcases JD h with⟨h,_⟩ | ⟨h,_⟩ | ⟨h,_⟩ | ⟨h,_⟩<;>omega
theorem WM {x:It}{l:List It}{d m m':Nat}(h:Ym (x::l) d m=some m'):∃ m1,YS x d m=some m1/\Ym l d m1=some m':=by
 rw[Ym]at h
 split at h
 ·cases h
 ·rename_i m1 h1;exact⟨m1,h1,h⟩
theorem KP:∀ {l:List It} {d m m':Nat},Ym l d m=some m'->l.length<=(ZJ l).length
 | [],_,_,_,_=>by simp
 | x::l,d,m,m',h=>by
  obtain⟨m1,h1,h2⟩:=WM h
  have:=KP h2
  obtain⟨k,n,b,lx⟩:=x
  have:=Hx (x:=.mk k n b lx) (Jf (VL h1).2.2.1)
  rw[ZJ];simp;omega
theorem IC {k:Int}{n:Nat}{b:List UInt8}{l:List It}(h:WV k n b l=true):okK k=true:=by
 rcases JD h with⟨h,_⟩ | ⟨h,_⟩ | ⟨h,_⟩ | ⟨h,_⟩<;>subst h<;>rfl
theorem KQ {k:Int}{n:Nat}{b:List UInt8}{l:List It}(h:WV k n b l=true)(hw:wfI (.mk k n b l)):ZV (k,(It.mk k n b l).hn,false)=true/\(It.mk k n b l).hn<18446744073709551616:=by
 refine⟨by simp[ZV];exact Jf h,?_⟩
 obtain⟨h1,h2,h3,_⟩:=hw
 rcases JD h with⟨h,_⟩ | ⟨h,_⟩ | ⟨h,_⟩ | ⟨h,_⟩<;>subst h<;>simp[It.hn]<;>omega
mutual
theorem JE:∀(x:It) (d m m':Nat) (r:List UInt8),wfI x->d<=6->YS x (7-d) m=some m'->ZZ d m (ZG x++r)=.ok (x,r,m')
 | .mk k n b l,d,m,m',r,hw,hd,h=>by
  obtain⟨h1,h2,h3,h4⟩:=VL h
  obtain⟨hr,hn⟩:=KQ h3 hw
  obtain⟨d,rfl⟩:∃ e,d=e+1:=⟨d-1,by omega⟩
  have e7:7-(d+1)+1=7-d:=by omega
  rw[e7]at h4
  rw[ZG,if_pos hr,List.append_assoc,ZZ,Xr _ hr hn]
  dsimp only
  rw[IC h3,if_neg (by simp),if_neg (by omega)]
  obtain⟨w1,w2,w3,w4⟩:=hw
  rcases JD h3 with⟨rfl,rfl,rfl⟩ | ⟨rfl,rfl,rfl⟩ | ⟨rfl,rfl,rfl,hv⟩ | ⟨rfl,rfl,rfl⟩
  ·simp only[Ym,Option.some.injEq]at h4
   simp[Wq,ZJ,It.hn,h4]
  ·simp only[Ym,Option.some.injEq]at h4
   simp[Wq,ZJ,It.hn,Qf,We,h4]
  ·simp only[Ym,Option.some.injEq]at h4
   simp[Wq,ZJ,It.hn,Qf,We,h4,hv]
  ·have hl:=KP h4
   have hq:=KR l d (m-1) m' [] r w4 (by omega) h4
   show Wq (ZZ d) (4,l.length,false) (m-1) ([]++ZJ l++r)=_
   rw[Wq,if_neg (by simp),if_pos rfl]
   simp only[Jz,List.nil_append]
   rw[if_pos (by rw[List.length_append];omega),hq]
   rfl
theorem KR:∀(l:List It) (d m m':Nat) (acc:List It) (r:List UInt8),wfs l->d<=6->Ym l (7-d) m=some m'->UH (ZZ d) l.length acc m (ZJ l++r)=.ok (acc++l,r,m')
 | [],d,m,m',acc,r,_,_,h=>by
  simp only[Ym,Option.some.injEq]at h
  simp[UH,ZJ,h]
 | x::l,d,m,m',acc,r,hw,hd,h=>by
  obtain⟨m1,h1,h2⟩:=WM h
  rw[ZJ,List.append_assoc,List.length_cons,UH,JE x d m m1 _ hw.1 hd h1]
  dsimp only
  rw[KR l d m1 m' (acc++[x]) r hw.2 hd h2]
  simp
end
mutual
theorem Hy:∀(x:It) (d m m' c:Nat),wfI x->d<=6->YS x (7-d) m=some m'->c<(ZG x).length->ZZ d m ((ZG x).take c)=.error 8
 | .mk k n b l,d,m,m',c,hw,hd,h,hc=>by
  obtain⟨h1,h2,h3,h4⟩:=VL h
  obtain⟨hr,hn⟩:=KQ h3 hw
  obtain⟨d,rfl⟩:∃ e,d=e+1:=⟨d-1,by omega⟩
  have e7:7-(d+1)+1=7-d:=by omega
  rw[e7]at h4
  rw[ZG,if_pos hr]at hc ⊢
  rw[ZZ]
  rcases Nat.lt_or_ge c (ZQ (k,(It.mk k n b l).hn,false)).length with hlt|hge
  ·rw[List.take_append_of_le_length (by omega),TK _ hr hn _ hlt]
  ·rw[List.take_append,List.take_of_length_le hge,Xr _ hr hn]
   dsimp only
   rw[IC h3,if_neg (by simp),if_neg (by omega)]
   obtain⟨w1,w2,w3,w4⟩:=hw
   generalize hc':c-(ZQ (k,(It.mk k n b l).hn,false)).length=c'
   have hlt:c'<(b++ZJ l).length:=by rw[List.length_append]at hc;omega
   rcases JD h3 with⟨rfl,rfl,rfl⟩ | ⟨rfl,rfl,rfl⟩ | ⟨rfl,rfl,rfl,hv⟩ | ⟨rfl,rfl,rfl⟩
   ·simp[ZJ]at hlt
   ·simp[ZJ]at hlt
    show Wq (ZZ d) (2,b.length,false) (m-1) ((b++[]).take c')=_
    have hx:¬ b.length<=min c' b.length:=by omega
    simp[Wq,Qf,We,List.length_take,hx]
   ·simp[ZJ]at hlt
    show Wq (ZZ d) (3,b.length,false) (m-1) ((b++[]).take c')=_
    have hx:¬ b.length<=min c' b.length:=by omega
    simp[Wq,Qf,We,List.length_take,hx]
   ·simp only[List.nil_append]at hlt
    have hq:=KS l d (m-1) m' c' [] w4 (by omega) h4 hlt
    show Wq (ZZ d) (4,l.length,false) (m-1) (([]++ZJ l).take c')=_
    rw[Wq,if_neg (by simp),if_pos rfl]
    simp only[Jz,List.nil_append]
    by_cases hx:l.length<=((ZJ l).take c').length
    ·rw[if_pos hx,hq]
    ·rw[if_neg hx]
theorem KS:∀(l:List It) (d m m' c:Nat) (acc:List It),wfs l->d<=6->Ym l (7-d) m=some m'->c<(ZJ l).length->UH (ZZ d) l.length acc m ((ZJ l).take c)=.error 8
 | [],d,m,m',c,acc,_,_,h,hc=>by simp[ZJ]at hc
 | x::l,d,m,m',c,acc,hw,hd,h,hc=>by
  obtain⟨m1,h1,h2⟩:=WM h
  rw[ZJ]at hc ⊢
  rw[List.length_cons,UH]
  rcases Nat.lt_or_ge c (ZG x).length with hlt|hge
  ·rw[List.take_append_of_le_length (by omega),Hy x d m m1 c hw.1 hd h1 hlt]
  ·rw[List.take_append,List.take_of_length_le hge,JE x d m m1 _ hw.1 hd h1]
   dsimp only
   exact KS l d m1 m' _ _ hw.2 hd h2 (by rw[List.length_append]at hc;omega)
end
theorem QH {h:Hd}{s c r:List UInt8}(e:We h s=.ok (c,r)):s=c++r/\c.length=h.2.1/\(h.1=3->ZD c=true):=by
 unfold We at e
 split at e
 ·split at e
  ·cases e
  ·rename_i h1 h2
   injection e with e;injection e with e1 e2
   subst e1 e2
   refine⟨by simp,by simp;omega,fun h3=>?_⟩
   simpa[h3]using h2
 ·cases e
theorem TL (a b:Nat)(h:a+b<4294967296):ZA (a+b)<=ZA a+ZA b+2:=by
 unfold ZA
 repeat' split
 all_goals omega
theorem ID {m:Int}:∀(f:Nat) (acc s c r:List UInt8),Jx m f acc s=.ok (c,r)->(m=3->ZD acc=true)->∃(pre d:List UInt8) (q:Nat),s=pre++r/\c=acc++d/\(m=3->ZD c=true)/\pre.length=1+d.length+q /\
  (s.length<4294967296->ZA d.length<=1+q/\(d=[]\/ZA d.length+1<=q\/2<=q))
 | 0,_,_,_,_,h,_=>by simp[Jx]at h
 | f+1,acc,s,c,r,h,ha=>by
  rw[Jx]at h
  cases he:UG s with
  | true=>
   rw[he]at h
   injection h with h;injection h with h1 h2;subst h1 h2
   obtain⟨x,t,rfl⟩:∃ x t,s=x::t:=by cases s with|nil=>simp[UG]at he|cons x t=>exact⟨x,t,rfl⟩
   exact⟨[x],[],0,rfl,by simp,ha,by simp,fun _=>⟨by simp[ZA],.inl rfl⟩⟩
  | false=>
   rw[he]at h
   dsimp only at h
   cases hr:rdS s with
   | error e=>rw[hr]at h;cases h
   | ok y=>
    obtain⟨p,t⟩:=y
    rw[hr]at h
    dsimp only at h
    obtain⟨k1,k2,pre,k3,k4,k5⟩:=X8 hr
    by_cases hp:p.1=m/\p.2.2=false
    ·rw[if_pos hp]at h
     cases hc:We p t with
     | error e=>rw[hc]at h;cases h
     | ok y=>
      obtain⟨c1,r2⟩:=y
      rw[hc]at h
      dsimp only at h
      obtain⟨q1,q2,q3⟩:=QH hc
      have hv:m=3->ZD (acc++c1)=true:=fun h3=>by
       rw[UM _ _ _ (Nat.le_refl _) (ha h3)]
       exact q3 (hp.1.trans h3)
      obtain⟨pre2,d2,q,e1,e2,e3,e4,e5⟩:=ID f _ _ _ _ h hv
      have hw:(ZQ p).length=1+ZA c1.length:=by
       rw[YA p k1];unfold Ua;rw[if_pos k1,hp.2,<- q2];simp
      refine⟨pre++(c1++pre2),c1++d2,pre.length+q,by rw[k3,q1,e1];simp,by rw[e2];simp,e3,by simp;omega,fun hl=>?_⟩
      have hlen:=congrArg List.length k3
      have hlen2:=congrArg List.length q1
      have hlen3:=congrArg List.length e1
      simp only[List.length_append]at hlen hlen2 hlen3 ⊢
      obtain⟨f1,f2⟩:=e5 (by omega)
      have hadd:=TL c1.length d2.length (by omega)
      have h4:ZA (c1.length+d2.length)<=4:=by
       unfold ZA
       repeat' split
       all_goals omega
      have hz:d2=[]->ZA (c1.length+d2.length)=ZA c1.length:=fun e=>by rw[e];rfl
      rcases f2 with e|f2|f2
      ·rw[hz e];omega
      ·omega
      ·omega
    ·rw[if_neg hp]at h;cases h
theorem Um (s:List UInt8)(h:UG s=true):∃ x,s=x::s.tail:=by
 cases s with
 | nil=>simp[UG]at h
 | cons x t=>exact⟨x,rfl⟩
def Hz (it:Nat->List UInt8->Res (It × List UInt8 × Nat))(D:Nat):Prop:=∀(m:Nat) (s:List UInt8) (x:It) (r:List UInt8) (m':Nat),it m s=.ok (x,r,m')->s.length<=140737488351232/\m<=256->YS x D m=some m'/\wfI x/\∃ pre,s=pre++r/\0<pre.length/\(m<=256/\s.length<4294967296->(ZG x).length<=pre.length)/\(ZG x).length+8*m'<=pre.length+8*m
mutual
theorem VM:∀ {x:It} {d m m':Nat},YS x d m=some m'->m'+1<=m
 | .mk k n b l,d,m,m',h=>by
  obtain⟨_,h2,_,h4⟩:=VL h
  have:=Qg h4
  omega
theorem Qg:∀ {l:List It} {d m m':Nat},Ym l d m=some m'->m'+l.length<=m
 | [],d,m,m',h=>by simp only[Ym,Option.some.injEq]at h;simp[h]
 | x::l,d,m,m',h=>by
  obtain⟨m1,h1,h2⟩:=WM h
  have:=VM h1
  have:=Qg h2
  simp;omega
end
theorem UV:∀ {l:List It} {x:It} {D m m1 m2:Nat},Ym l D m=some m1->YS x D m1=some m2->Ym (l++[x]) D m=some m2
 | [],x,D,m,m1,m2,h1,h2=>by
  simp only[Ym,Option.some.injEq]at h1
  subst h1
  simp[Ym,h2]
 | y::l,x,D,m,m1,m2,h1,h2=>by
  obtain⟨m3,h3,h4⟩:=WM h1
  rw[List.cons_append,Ym,h3]
  exact UV h4 h2
theorem JF:∀ {l:List It} {x:It},wfs l->wfI x->wfs (l++[x])
 | [],x,_,h=>⟨h,trivial⟩
 | y::l,x,⟨h1,h2⟩,h=>⟨h1,JF h2 h⟩
theorem Un:∀(l l':List It),ZJ (l++l')=ZJ l++ZJ l'
 | [],l'=>rfl
 | x::l,l'=>by rw[List.cons_append,ZJ,ZJ,Un l l',List.append_assoc]
theorem IE {it:Nat->List UInt8->Res (It × List UInt8 × Nat)}{D:Nat}(hit:Hz it D):∀(f:Nat) (acc:List It) (m0 m:Nat) (s:List UInt8) (l:List It) (r:List UInt8) (m':Nat),UH it f acc m s=.ok (l,r,m')->s.length<=140737488351232/\m<=256->Ym acc D m0=some m->wfs acc ->
  Ym l D m0=some m'/\wfs l/\l.length=acc.length+f/\∃ pre,s=pre++r/\(m<=256/\s.length<4294967296->(ZJ l).length<=(ZJ acc).length+pre.length)/\(ZJ l).length+8*m'<=(ZJ acc).length+pre.length+8*m
 | 0,acc,m0,m,s,l,r,m',h,hs,ha,hw=>by
  rw[UH]at h
  injection h with h;injection h with h1 h2;injection h2 with h2 h3
  subst h1 h2 h3
  exact⟨ha,hw,rfl,[],rfl,fun _=>by simp,by simp⟩
 | f+1,acc,m0,m,s,l,r,m',h,hs,ha,hw=>by
  rw[UH]at h
  cases hx:it m s with
  | error e=>rw[hx]at h;cases h
  | ok y=>
   obtain⟨x,r1,m1⟩:=y
   rw[hx]at h
   dsimp only at h
   obtain⟨k1,k2,pre,k3,k4,k5,k6⟩:=hit _ _ _ _ _ hx hs
   have hl:=congrArg List.length k3
   rw[List.length_append]at hl
   have hlt:=VM k1
   obtain⟨q1,q2,q3,pre2,q4,q5,q6⟩:=IE hit f _ m0 _ _ _ _ _ h (by omega) (UV ha k1) (JF hw k2)
   rw[Un]at q5 q6
   simp only[ZJ,List.append_nil,List.length_append]at q5 q6
   refine⟨q1,q2,by rw[q3];simp;omega,pre++pre2,by rw[k3,q4];simp,fun h4=>?_,by rw[List.length_append];omega⟩
   have:=q5 (by omega)
   have:=k5 h4
   rw[List.length_append]
   omega
theorem IF {it:Nat->List UInt8->Res (It × List UInt8 × Nat)}{D:Nat}(hit:Hz it D):∀(f:Nat) (acc:List It) (m0 m:Nat) (s:List UInt8) (l:List It) (r:List UInt8) (m':Nat),Jy it f acc m s=.ok (l,r,m')->s.length<=140737488351232/\m<=256->Ym acc D m0=some m->wfs acc ->
  Ym l D m0=some m'/\wfs l/\acc.length<=l.length/\∃ pre,s=pre++r/\l.length+1<=acc.length+pre.length/\(m<=256/\s.length<4294967296->(ZJ l).length+1<=(ZJ acc).length+pre.length)/\(ZJ l).length+8*m'<=(ZJ acc).length+pre.length+8*m
 | 0,acc,m0,m,s,l,r,m',h,hs,ha,hw=>by rw[Jy]at h;cases h
 | f+1,acc,m0,m,s,l,r,m',h,hs,ha,hw=>by
  rw[Jy]at h
  cases he:UG s with
  | true=>
   rw[he]at h
   injection h with h;injection h with h1 h2;injection h2 with h2 h3
   subst h1 h2 h3
   obtain⟨x,hx⟩:=Um s he
   exact⟨ha,hw,Nat.le_refl _,[x],hx,by simp,fun _=>by simp,by simp⟩
  | false=>
   rw[he]at h
   dsimp only at h
   cases hx:it m s with
   | error e=>rw[hx]at h;cases h
   | ok y=>
    obtain⟨x,r1,m1⟩:=y
    rw[hx]at h
    dsimp only at h
    obtain⟨k1,k2,pre,k3,k4,k5,k6⟩:=hit _ _ _ _ _ hx hs
    have hl:=congrArg List.length k3
    rw[List.length_append]at hl
    have hlt:=VM k1
    obtain⟨q1,q2,q3,pre2,q4,q5,q6,q7⟩:=IF hit f _ m0 _ _ _ _ _ h (by omega) (UV ha k1) (JF hw k2)
    rw[Un]at q6 q7
    simp only[ZJ,List.append_nil,List.length_append]at q6 q7
    refine⟨q1,q2,by simp at q3;omega,pre++pre2,by rw[k3,q4];simp,by simp at q5 ⊢;omega,fun h4=>?_,by rw[List.length_append];omega⟩
    have:=q6 (by omega)
    have:=k5 h4
    rw[List.length_append]
    omega
theorem Wl {k:Int}{n:Nat}{b:List UInt8}{l:List It}(hr:ZV (k,(It.mk k n b l).hn,false)=true):(ZG (.mk k n b l)).length=1+ZA (It.mk k n b l).hn+(b.length+(ZJ l).length):=by
 rw[ZG,if_pos hr]
 simp only[List.length_append]
 rw[YA _ hr]
 unfold Ua;rw[if_pos hr];simp
theorem KT (a:Nat):ZA a<=8:=by
 unfold ZA
 repeat' split
 all_goals omega
theorem Ux {h:Hd}(hr:ZV h=true)(ho:h.2.2=false):(ZQ h).length=1+ZA h.2.1:=by
 rw[YA h hr];unfold Ua;rw[if_pos hr,ho];rfl
theorem Xs {k:Int}(h:okK k=true):k=0\/k=2\/k=3\/k=4:=by
 simpa[okK]using h
theorem Qh:∀(d:Nat),d<=6->Hz (ZZ d) (7-d)
 | 0,_=>fun m s x r m' h hs=>by
  rw[ZZ]at h
  cases hr:rdS s with
  | error e=>rw[hr]at h;cases h
  | ok y=>obtain⟨hd,t⟩:=y;rw[hr]at h;dsimp only at h;split at h<;>cases h
 | d+1,hd=>fun m s x r m' h hs=>by
  rw[ZZ]at h
  cases hr:rdS s with
  | error e=>rw[hr]at h;cases h
  | ok y=>
   obtain⟨⟨k,n,o⟩,t⟩:=y
   rw[hr]at h
   dsimp only at h
   obtain⟨k1,k2,pre,k3,k4,k5⟩:=X8 hr
   dsimp only at k2
   have hlen:=congrArg List.length k3
   rw[List.length_append]at hlen
   cases hk:okK k with
   | false=>rw[hk,if_pos rfl]at h;cases h
   | true=>
    rw[hk,if_neg (by simp)]at h
    by_cases hm:m=0
    ·rw[if_pos hm]at h;cases h
    ·rw[if_neg hm]at h
     have hwk:∀(k:Int) (n:Nat) (b:List UInt8) (l:List It),WV k n b l=true->Ym l (7-d) (m-1)=some m'->YS (.mk k n b l) (7-(d+1)) m=some m':=fun k n b l ho hl=>by
      rw[YS,if_neg (by omega),if_neg (by omega),ho,show 7-(d+1)+1=7-d by omega]
      exact hl
     have hr0:∀(k:Int) (n:Nat) (b:List UInt8) (l:List It),WV k n b l=true->ZV (k,(It.mk k n b l).hn,false)=true:=fun k n b l ho=>by
      have:=Jf ho
      simp[ZV];exact this
     unfold Wq at h
     dsimp only at h
     by_cases h0:k=0
     ·subst h0
      rw[if_pos rfl]at h
      injection h with h;injection h with h1 h2;injection h2 with h2 h3
      subst h1 h2 h3
      have ho:WV 0 n [] []=true:=rfl
      have hf8:=KT n
      refine⟨hwk _ _ _ _ ho (by simp[Ym]),⟨k2,by simp,by simp,trivial⟩,pre,k3,k5,fun _=>?_,by rw[Wl (hr0 _ _ _ _ ho)];simp only[It.hn,ZJ,List.length_nil];simp;omega⟩
      rw[Wl (hr0 _ _ _ _ ho)]
      have hof:o=false:=by cases o with
       | false=>rfl
       | true=>have:=(Qc k1).2;simp[QF]at this
      subst hof
      have:=Ux k1 rfl
      simp[It.hn,ZJ]at this ⊢
      omega
     rw[if_neg h0]at h
     by_cases h4:k=4
     ·subst h4
      rw[if_pos rfl]at h
      cases hl:Jz (ZZ d) (4,n,o) (m-1) t with
      | error e=>rw[hl]at h;cases h
      | ok y=>
       obtain⟨l,r2,m2⟩:=y
       rw[hl]at h
       dsimp only at h
       injection h with h;injection h with h1 h2;injection h2 with h2 h3
       subst h1 h2 h3
       have ho:WV 4 0 [] l=true:=rfl
       have hR:=Qh d (by omega)
       unfold Jz at hl
       dsimp only at hl
       cases o with
       | true=>
        dsimp only at hl
        obtain⟨q1,q2,q3,pre2,q4,q5,q6,q7⟩:=IF hR _ _ (m-1) _ _ _ _ _ hl (by omega) rfl trivial
        have hl2:=congrArg List.length q4
        rw[List.length_append]at hl2
        simp at q5
        have hc:=Qg q1
        have hf8:=KT l.length
        simp only[ZJ,List.length_nil,Nat.zero_add]at q7
        refine⟨hwk _ _ _ _ ho q1,⟨by omega,by simp,by omega,q2⟩,pre++pre2,by rw[k3,q4];simp,by simp;omega,fun h4=>?_,by rw[Wl (hr0 _ _ _ _ ho)];simp[It.hn];omega⟩
        have:=q6 (by omega)
        rw[Wl (hr0 _ _ _ _ ho)]
        have hf:ZA l.length<=1:=by
         unfold ZA
         repeat' split
         all_goals omega
        simp[It.hn,ZJ]at this ⊢
        omega
       | false=>
        dsimp only at hl
        split at hl
        ·obtain⟨q1,q2,q3,pre2,q4,q5,q7⟩:=IE hR _ _ (m-1) _ _ _ _ _ hl (by omega) rfl trivial
         have hl2:=congrArg List.length q4
         rw[List.length_append]at hl2
         simp at q3
         have hc:=Qg q1
         have hf8:=KT l.length
         simp only[ZJ,List.length_nil,Nat.zero_add]at q7
         refine⟨hwk _ _ _ _ ho q1,⟨by omega,by simp,by omega,q2⟩,pre++pre2,by rw[k3,q4];simp,by simp;omega,fun h4=>?_,by rw[Wl (hr0 _ _ _ _ ho)];simp[It.hn];omega⟩
         have:=q5 (by omega)
         rw[Wl (hr0 _ _ _ _ ho)]
         have:=Ux k1 rfl
         simp[It.hn,ZJ,q3]at this ⊢
         simp[ZJ]at *
         omega
        ·cases hl
     ·rw[if_neg h4]at h
      cases hl:Qf (k,n,o) t with
      | error e=>rw[hl]at h;cases h
      | ok y=>
       obtain⟨c,r2⟩:=y
       rw[hl]at h
       dsimp only at h
       injection h with h;injection h with h1 h2;injection h2 with h2 h3
       subst h1 h2 h3
       have hk':k=2\/k=3:=by rcases Xs hk with h|h|h|h<;>simp_all
       have hhn:(It.mk k 0 c []).hn=c.length:=by rcases hk' with rfl|rfl<;>rfl
       have ho:(k=3->ZD c=true)->WV k 0 c []=true:=fun hv=>by
        rcases hk' with rfl|rfl
        ·rfl
        ·simp[WV,hv]
       unfold Qf at hl
       dsimp only at hl
       cases o with
       | true=>
        dsimp only at hl
        obtain⟨pre2,d2,q,e1,e2,e3,e4,e5⟩:=ID _ _ _ _ _ hl (fun _=>rfl)
        simp only[List.nil_append]at e2
        subst e2
        have hl2:=congrArg List.length e1
        rw[List.length_append]at hl2
        have hf8:=KT c.length
        refine⟨hwk _ _ _ _ (ho e3) rfl,⟨by omega,by omega,by simp,trivial⟩,pre++pre2,by rw[k3,e1];simp,by simp;omega,fun h4=>?_,by rw[Wl (hr0 _ _ _ _ (ho e3)),hhn];simp[ZJ];omega⟩
        have:=e5 (by omega)
        rw[Wl (hr0 _ _ _ _ (ho e3)),hhn]
        simp[ZJ]
        omega
       | false=>
        dsimp only at hl
        obtain⟨q1,q2,q3⟩:=QH hl
        dsimp only at q2 q3
        have hl2:=congrArg List.length q1
        rw[List.length_append]at hl2
        have hf8:=KT c.length
        refine⟨hwk _ _ _ _ (ho q3) rfl,⟨by omega,by omega,by simp,trivial⟩,pre++c,by rw[k3,q1];simp,by simp;omega,fun h4=>?_,by rw[Wl (hr0 _ _ _ _ (ho q3)),hhn];simp[ZJ];omega⟩
        rw[Wl (hr0 _ _ _ _ (ho q3)),hhn]
        have:=Ux k1 rfl
        dsimp only at this
        have e:ZA c.length=ZA n:=by rw[q2]
        simp[ZJ]
        omega
end Go.Proofs.YtmljabhmajehnaaDoor
end
section
open Go.RowKit Go.Pl Go.Av
namespace Go.Proofs.YtmljabhmajehnaaDoor
set_option maxHeartbeats 4000000
theorem Uy [Known](b:List UInt8)(hb:b.length<=140737488351232):AP Tryd.prog 24 [byE b] (byE b) []:=by
 have hU:=YK b
 cases b with
 | nil=>
  refine AP.ofA (Zl Tryd.func24 Z Tryd.ntmps24 Z Z ?_)
  repeat'(first|(apply X2 Za;(iterate 5 exact Z);intro b hbn)|(apply Zg Za;exact Z)|(apply Zf Za;exact Z)|(apply Zs Za;exact Z)|(apply Wr;exact Z;all_goals intro hb)|refine Jq Za Z Z Z Z Z Z Z Z Z Z Z Z ?_|refine Y6 Za Z Z Z Z Z Z ?_)
  all_goals exact Qe
 | cons c b=>
  refine AP.ofA (Zl Tryd.func24 Z Tryd.ntmps24 Z Z ?_)
  repeat'(first|(apply X2 Za;(iterate 5 exact Z);intro b hbn;(have hbn2:=hbn (List.cons_ne_nil _ _));subst hbn2;clear hbn)|(apply Zg Za;exact Z)|(apply Zf Za;exact Z)|(apply Zs Za;exact Z)|(apply Zh;exact Z;(first|with_reducible assumption|(solve|simp only[bn])))|refine Jq Za Z Z Z Z Z Z Z Z Z Z Z Z ?_|(apply ZY Za;(iterate 6 exact Z);(first|with_reducible assumption|exact Z|rotate_left);exact Z;exact Z;(first|exact Zj rfl|with_reducible assumption|rotate_left);(first|exact Zj rfl|with_reducible assumption|rotate_left);(first|exact Qb|rotate_left);(first|exact Qb|rotate_left);(first|exact Qb|rotate_left);exact Z;exact Z))
  all_goals first|(apply Zr [];(apply Zc Za;exact Z);(iterate 4 exact Z))|skip
  all_goals first|rfl|(simp at hb ⊢;(try unfold maxLen);omega)
theorem OR [Known](a b:List UInt8):AP Tryd.prog 33 [byE a,byE b] (.bool (a==b)) []:=by
 refine AP.ofA (Zl Tryd.func33 Z Tryd.ntmps33 Z Z ?_)
 repeat'(first|(apply Zg Za;exact Z)|(apply Zf Za;exact Z)|refine G6 Za Z Z Z Z Z Z Z Z Z ?_)
 all_goals exact Qe
end Go.Proofs.YtmljabhmajehnaaDoor
end
section
open Go.RowKit Go.Pl Go.Av
namespace Go.Proofs.YtmljabhmajehnaaDoor
set_option maxHeartbeats 4000000
theorem It.ind {P:It->Prop}(h:∀ k n b l,(∀ y ∈ l,P y)->P (.mk k n b l)):∀ x,P x:=by
 intro x
 refine It.rec (motive_1:=P) (motive_2:=fun l=>∀ y ∈ l,P y) (fun k n b l ih=>h k n b l ih) (by simp) (fun x l hx hl y hy=>?_) x
 rcases List.mem_cons.1 hy with rfl|hy
 ·exact hx
 ·exact hl y hy
mutual
def itE:It->E
 | .mk k n b l=>.agg [.int .i64 k,.int .u64 (n:Int),.sl (b.map E.byte),.sl (Zz l)]
def Zz:List It->List E
 | []=>[]
 | x::l=>itE x::Zz l
end
theorem Yi:∀ l:List It,Zz l=l.map itE
 | []=>rfl
 | x::l=>by rw[Zz,List.map_cons,Yi l]
theorem Vg (a b:List It):Zz (a++b)=Zz a++Zz b:=by rw[Yi,Yi,Yi,List.map_append]
theorem Zw (l:List It):(Zz l).length=l.length:=by rw[Yi,List.length_map]
abbrev itC (k:Int)(n:Nat)(b:List UInt8)(l:List It):List D:=[.int .i64 k,.int .u64 (n:Int),byE b,.sl .ext (Zz l)]
def itD:It->D
 | .mk k n b l=>.agg (itC k n b l)
theorem Gk (x:It):(itE x).cells.length=4:=by obtain⟨k,n,b,l⟩:=x;rfl
theorem Y2 (l:List It):Uni 4 (Zz l):=by rw[Yi];exact Uni.map Gk l
theorem Wa:∀ {l:List It},wfs l->∀ y ∈ l,wfI y
 | x::l,⟨h1,h2⟩,y,hy=>by
  rcases List.mem_cons.1 hy with rfl|hy
  ·exact h1
  ·exact Wa h2 y hy
theorem Xt [Known]:∀(x:It),wfI x->AP Tryd.prog 47 [itD x] (itD x) []:=by
 refine It.ind fun k n b l ih hw=>?_
 obtain⟨hn,hb,hl,hws⟩:=hw
 have ih':∀ y ∈ l,AP Tryd.prog 47 [itD y] (itD y) []:=fun y hy=>ih y hy (Wa hws y hy)
 clear ih
 have hlen:=Zw l
 refine AP.ofA (Zl Tryd.func47 Z Tryd.ntmps47 Z Z ?_)
 repeat'(first|(apply Zb (Uy b hb);kernel_rfl;(iterate 4 exact Z))|(apply Zg Za;exact Z)|(apply Zf Za;exact Z)|refine Zn Za Z Z Z Z ?_)
 refine Z4 (fun k' tm bx fr=>∃(i c:Nat) (L:List E),k'+i=l.length/\c=L.length/\L=Zz (l.take i)/\tm=[(1,.ptr 0 0),(2,.ptr 1 0),(13,.sl .ext (Zz l)),(14,.int .i64 ((Zz l).length:Int)),(15,.int .i64 (i:Int))] /\
  ((i=0/\bx=[[.int .i64 k,.int .u64 (n:Int),byE b,.sl .nil []],[.int .i64 0,.int .u64 0,.sl .nil [],.sl .nil []]]/\fr=[]) \/
  (bx=[[.int .i64 k,.int .u64 (n:Int),byE b,.sl (.own 0) L],[.int .i64 0,.int .u64 0,.sl .nil [],.sl .nil []]]/\fr=[⟨c,4,60⟩]))) (l.length+1) (Lands.mk' (m:=l.length) (Nat.lt_succ_self _) ⟨0,0,[],rfl,rfl,rfl,rfl,.inl ⟨rfl,rfl,rfl⟩⟩ ?_ rfl rfl rfl rfl rfl rfl) ?_
 ·exact .cons rfl (.cons rfl (.cons rfl (.cons rfl (.cons rfl .nil))))
 rintro k' tm bx fr ⟨i,c,L,hi,hc,hL,rfl,⟨rfl,rfl,rfl⟩ | ⟨rfl,rfl⟩⟩
 ·cases l with
  | nil=>
   repeat'(first|(apply Zf Za;exact Z)|refine Zh Z Qt ?_)
   all_goals exact Qe
  | cons y l=>
   have hc:=ih' y (List.mem_cons_self ..)
   have hU:=Y2 (y::l)
   have hd:decide (((0:Nat):Int)<((Zz (y::l)).length:Int))=true:=decide_eq_true (by rw[Zz];simp)
   obtain⟨k1,n1,b1,l1⟩:=y
   repeat'(first|(apply Zb (hc);kernel_rfl;(iterate 4 exact Z))|refine Ya Za Z Z Z Z Z Z (Zj rfl) (List.cons_ne_nil _ _) Z Qd Qd Z Z Z ?_|(apply Zg Za;exact Z)|(apply Zf Za;exact Z)|(apply Zs Za;exact Z)|refine Zd Z Qt ?_|refine ZX Za Z Z Z Z Z Z Z Z Z Z Z Z ?_|(apply Zm 5 ZF;decide +kernel;kernel_rfl;kernel_rfl;kernel_rfl;exact Z;exact Z)|(apply Zq;(iterate 4 exact Z))|exact AE.nil _ _ _ _|(apply Zu;exact Z)|(apply ZB;exact Z;exact Z;decide +kernel;exact Z)|(apply ZC;exact Z)|exact AO.nil _ _ _|(apply Zp;(decide +kernel))|exact AOs.nil|exact ZH rfl rfl|exact Wj rfl rfl rfl rfl rfl|(apply Zx Za;(iterate 6 exact Z);(first|exact Qt|rotate_left);(first|with_reducible assumption|decide +kernel|exact Z);(first|exact Zj rfl|with_reducible assumption|decide +kernel|rotate_left)))
   refine Lands.mk' (m:=k'-1) (by simp at hi;omega) ⟨1,1,Zz [It.mk k1 n1 b1 l1],by simp at hi ⊢;omega,rfl,rfl,rfl,.inr ⟨rfl,rfl⟩⟩ ?_ rfl rfl rfl rfl rfl rfl
   exact .cons rfl (.cons rfl (.cons rfl (.cons rfl (.cons rfl .nil))))
 ·have hU:=Y2 l
  have hU2:Uni 4 L:=hL ▸ Y2 (l.take i)
  have el:=Zw (l.take i)
  rw[<- hL]at el
  subst hc
  rcases Nat.lt_or_ge i l.length with hlt|hge
  ·have hd:decide ((i:Int)<((Zz l).length:Int))=true:=decide_eq_true (by omega)
   obtain⟨⟨k1,n1,b1,l1⟩,hy⟩:∃ y,l[i]?=some y:=⟨_,List.getElem?_eq_getElem hlt⟩
   have hv:(Zz l)[((i:Nat):Int).toNat]?=some (.agg [.int .i64 k1,.int .u64 (n1:Int),.sl (b1.map E.byte),.sl (Zz l1)]):=by
    rw[Int.toNat_natCast,Yi,List.getElem?_map,hy];rfl
   have hc:=ih' _ (List.mem_of_getElem? hy)
   have ei:IntKind.i64.wrap ((i:Int)+1)=((i+1:Nat):Int):=by rw[IntWalk.i64_in _ (by omega)];omega
   have hs:L++[E.agg [.int .i64 k1,.int .u64 (n1:Int),.sl (b1.map E.byte),.sl (Zz l1)]]=Zz (l.take (i+1)):=by
    rw[hL,List.take_add_one,hy];exact(Vg _ [It.mk k1 n1 b1 l1]).symm
   rw[List.length_take]at el
   repeat'(first|(apply Zb (hc);kernel_rfl;(iterate 4 exact Z))|rw[ei]|(apply Zg Za;exact Z)|(apply Zf Za;exact Z)|(apply Zs Za;exact Z)|refine Zd Z Qt ?_|refine ZX Za Z Z Z Z Z Z Z Z Z Z Z Z ?_|(apply Zm 5 ZF;decide +kernel;kernel_rfl;kernel_rfl;kernel_rfl;exact Z;exact Z)|(apply Zq;(iterate 4 exact Z))|exact AE.nil _ _ _ _|(apply Zu;exact Z)|(apply ZB;exact Z;exact Z;decide +kernel;exact Z)|(apply ZC;exact Z)|exact AO.nil _ _ _|(apply Zp;(decide +kernel))|exact AOs.nil|exact ZH rfl rfl|exact Wj rfl rfl rfl rfl rfl|(apply ZY Za;(iterate 6 exact Z);(first|with_reducible assumption|decide +kernel|exact Z|rotate_left);exact Z;exact Z;(first|exact Zj rfl|with_reducible assumption|decide +kernel|rotate_left);(first|exact Zj rfl|with_reducible assumption|decide +kernel|rotate_left);(first|exact Qt|rotate_left);(first|exact Qt|rotate_left);(first|exact Qt|rotate_left);exact Z;exact Z)|(apply Zx Za;(iterate 6 exact Z);(first|exact Qt|rotate_left);(first|with_reducible assumption|decide +kernel|exact Z);(first|exact Zj rfl|with_reducible assumption|decide +kernel|rotate_left)))
   ·refine Lands.mk' (m:=k'-1) (by omega) ⟨i+1,L.length+1,_,by omega,by rw[List.length_append];rfl,hs,rfl,.inr ⟨rfl,rfl⟩⟩ ?_ rfl rfl rfl rfl rfl rfl
    exact .cons rfl (.cons rfl (.cons rfl (.cons rfl (.cons rfl .nil))))
   all_goals(first|rfl|(simp only[List.length_append,List.length_cons,List.length_nil,List.length_map,Zw];done)|(simp only[List.length_append,List.length_cons,List.length_nil,List.length_map,Zw]at *;(try unfold maxLen);(try simp only[Nat.add_mul]);omega))
  ·have hd:decide ((i:Int)<((Zz l).length:Int))=false:=decide_eq_false (by omega)
   rw[List.take_of_length_le hge]at hL
   subst hL
   repeat'(first|(apply Zf Za;exact Z)|refine Zh Z Qt ?_)
   all_goals exact Qe
theorem Yq [Known](n:Nat):AP Tryd.prog 29 [.int .u64 (n:Int)] (itD (.mk 0 n [] [])) []:=by
 refine AP.ofA (Zl Tryd.func29 Z Tryd.ntmps29 Z Z ?_)
 repeat'(first|(apply Zf Za;exact Z))
 all_goals exact Qe
theorem TM [Known](b:List UInt8):AP Tryd.prog 65 [.str b] (itD (.mk 3 0 b [])) []:=by
 refine AP.ofA (Zl Tryd.func65 Z Tryd.ntmps65 Z Z ?_)
 repeat'(first|refine NO Za Z Z Z Z Z Z Z Z ?_|(apply Zg Za;exact Z)|(apply Zf Za;exact Z))
 all_goals exact Qe
theorem JG [Known](b:List UInt8)(hb:b.length<=140737488351232):AP Tryd.prog 53 [byE b] (itD (.mk 2 0 b [])) []:=by
 refine AP.ofA (Zl Tryd.func53 Z Tryd.ntmps53 Z Z ?_)
 repeat'(first|(apply Zb (Uy b hb);kernel_rfl;(iterate 4 exact Z))|(apply Zg Za;exact Z)|(apply Zf Za;exact Z))
 all_goals exact Qe
theorem WS [Known](l:List It)(hl:l.length<=2199023255488)(hws:wfs l):AP Tryd.prog 28 [.sl .ext (Zz l)] (itD (.mk 4 0 [] l)) []:=by
 have ih':∀ y ∈ l,AP Tryd.prog 47 [itD y] (itD y) []:=fun y hy=>Xt y (Wa hws y hy)
 have hlen:=Zw l
 refine AP.ofA (Zl Tryd.func28 Z Tryd.ntmps28 Z Z ?_)
 repeat'(first|(apply Zg Za;exact Z)|(apply Zf Za;exact Z)|refine Zn Za Z Z Z Z ?_)
 refine Z4 (fun k' tm bx fr=>∃(i c:Nat) (L:List E),k'+i=l.length/\c=L.length/\L=Zz (l.take i)/\tm=[(3,.ptr 1 0),(2,.ptr 0 0),(7,.sl .ext (Zz l)),(8,.int .i64 ((Zz l).length:Int)),(9,.int .i64 (i:Int))] /\
  ((i=0/\bx=[[.int .i64 0,.int .u64 0,.sl .nil [],.sl .nil []],[.int .i64 4,.int .u64 0,.sl .nil [],.sl .nil []]]/\fr=[]) \/
  (bx=[[.int .i64 0,.int .u64 0,.sl .nil [],.sl .nil []],[.int .i64 4,.int .u64 0,.sl .nil [],.sl (.own 0) L]]/\fr=[⟨c,4,60⟩]))) (l.length+1) (Lands.mk' (m:=l.length) (Nat.lt_succ_self _) ⟨0,0,[],rfl,rfl,rfl,rfl,.inl ⟨rfl,rfl,rfl⟩⟩ ?_ rfl rfl rfl rfl rfl rfl) ?_
 ·exact .cons rfl (.cons rfl (.cons rfl (.cons rfl (.cons rfl .nil))))
 rintro k' tm bx fr ⟨i,c,L,hi,hc,hL,rfl,⟨rfl,rfl,rfl⟩ | ⟨rfl,rfl⟩⟩
 ·cases l with
  | nil=>
   repeat'(first|(apply Zf Za;exact Z)|refine Zh Z Qt ?_)
   all_goals exact Qe
  | cons y l=>
   have hc:=ih' y (List.mem_cons_self ..)
   have hU:=Y2 (y::l)
   have hd:decide (((0:Nat):Int)<((Zz (y::l)).length:Int))=true:=decide_eq_true (by rw[Zz];simp)
   obtain⟨k1,n1,b1,l1⟩:=y
   repeat'(first|(apply Zb (hc);kernel_rfl;(iterate 4 exact Z))|refine Ya Za Z Z Z Z Z Z (Zj rfl) (List.cons_ne_nil _ _) Z Qd Qd Z Z Z ?_|(apply Zg Za;exact Z)|(apply Zf Za;exact Z)|(apply Zs Za;exact Z)|refine Zd Z Qt ?_|refine ZX Za Z Z Z Z Z Z Z Z Z Z Z Z ?_|(apply Zm 5 ZF;decide +kernel;kernel_rfl;kernel_rfl;kernel_rfl;exact Z;exact Z)|(apply Zq;(iterate 4 exact Z))|exact AE.nil _ _ _ _|(apply Zu;exact Z)|(apply ZB;exact Z;exact Z;decide +kernel;exact Z)|(apply ZC;exact Z)|exact AO.nil _ _ _|(apply Zp;(decide +kernel))|exact AOs.nil|exact ZH rfl rfl|exact Wj rfl rfl rfl rfl rfl|(apply Zx Za;(iterate 6 exact Z);(first|exact Qt|rotate_left);(first|with_reducible assumption|decide +kernel|exact Z);(first|exact Zj rfl|with_reducible assumption|decide +kernel|rotate_left)))
   refine Lands.mk' (m:=k'-1) (by simp at hi;omega) ⟨1,1,Zz [It.mk k1 n1 b1 l1],by simp at hi ⊢;omega,rfl,rfl,rfl,.inr ⟨rfl,rfl⟩⟩ ?_ rfl rfl rfl rfl rfl rfl
   exact .cons rfl (.cons rfl (.cons rfl (.cons rfl (.cons rfl .nil))))
 ·have hU:=Y2 l
  have hU2:Uni 4 L:=hL ▸ Y2 (l.take i)
  have el:=Zw (l.take i)
  rw[<- hL]at el
  subst hc
  rcases Nat.lt_or_ge i l.length with hlt|hge
  ·have hd:decide ((i:Int)<((Zz l).length:Int))=true:=decide_eq_true (by omega)
   obtain⟨⟨k1,n1,b1,l1⟩,hy⟩:∃ y,l[i]?=some y:=⟨_,List.getElem?_eq_getElem hlt⟩
   have hv:(Zz l)[((i:Nat):Int).toNat]?=some (.agg [.int .i64 k1,.int .u64 (n1:Int),.sl (b1.map E.byte),.sl (Zz l1)]):=by
    rw[Int.toNat_natCast,Yi,List.getElem?_map,hy];rfl
   have hc:=ih' _ (List.mem_of_getElem? hy)
   have ei:IntKind.i64.wrap ((i:Int)+1)=((i+1:Nat):Int):=by rw[IntWalk.i64_in _ (by omega)];omega
   have hs:L++[E.agg [.int .i64 k1,.int .u64 (n1:Int),.sl (b1.map E.byte),.sl (Zz l1)]]=Zz (l.take (i+1)):=by
    rw[hL,List.take_add_one,hy];exact(Vg _ [It.mk k1 n1 b1 l1]).symm
   rw[List.length_take]at el
   repeat'(first|(apply Zb (hc);kernel_rfl;(iterate 4 exact Z))|rw[ei]|(apply Zg Za;exact Z)|(apply Zf Za;exact Z)|(apply Zs Za;exact Z)|refine Zd Z Qt ?_|refine ZX Za Z Z Z Z Z Z Z Z Z Z Z Z ?_|(apply Zm 5 ZF;decide +kernel;kernel_rfl;kernel_rfl;kernel_rfl;exact Z;exact Z)|(apply Zq;(iterate 4 exact Z))|exact AE.nil _ _ _ _|(apply Zu;exact Z)|(apply ZB;exact Z;exact Z;decide +kernel;exact Z)|(apply ZC;exact Z)|exact AO.nil _ _ _|(apply Zp;(decide +kernel))|exact AOs.nil|exact ZH rfl rfl|exact Wj rfl rfl rfl rfl rfl|(apply ZY Za;(iterate 6 exact Z);(first|with_reducible assumption|decide +kernel|exact Z|rotate_left);exact Z;exact Z;(first|exact Zj rfl|with_reducible assumption|decide +kernel|rotate_left);(first|exact Zj rfl|with_reducible assumption|decide +kernel|rotate_left);(first|exact Qt|rotate_left);(first|exact Qt|rotate_left);(first|exact Qt|rotate_left);exact Z;exact Z)|(apply Zx Za;(iterate 6 exact Z);(first|exact Qt|rotate_left);(first|with_reducible assumption|decide +kernel|exact Z);(first|exact Zj rfl|with_reducible assumption|decide +kernel|rotate_left)))
   ·refine Lands.mk' (m:=k'-1) (by omega) ⟨i+1,L.length+1,_,by omega,by rw[List.length_append];rfl,hs,rfl,.inr ⟨rfl,rfl⟩⟩ ?_ rfl rfl rfl rfl rfl rfl
    exact .cons rfl (.cons rfl (.cons rfl (.cons rfl (.cons rfl .nil))))
   all_goals(first|rfl|(simp only[List.length_append,List.length_cons,List.length_nil,List.length_map,Zw];done)|(simp only[List.length_append,List.length_cons,List.length_nil,List.length_map,Zw]at *;(try unfold maxLen);(try simp only[Nat.add_mul]);omega))
  ·have hd:decide ((i:Int)<((Zz l).length:Int))=false:=decide_eq_false (by omega)
   rw[List.take_of_length_le hge]at hL
   subst hL
   repeat'(first|(apply Zf Za;exact Z)|refine Zh Z Qt ?_)
   all_goals exact Qe
end Go.Proofs.YtmljabhmajehnaaDoor
end
