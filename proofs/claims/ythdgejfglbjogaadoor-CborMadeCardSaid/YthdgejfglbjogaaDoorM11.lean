/- Items: which may be, their bytes, their reading; plain laws, no program in sight. -/
import Derived.Test.YthdgejfglbjogaaDoorM10
import Derived.Test.YthdgejfglbjogaaDoorM09
set_option linter.unusedVariables false
set_option linter.unusedSimpArgs false
section
open Go.RowKit Go.Pl
namespace Go.Proofs.YthdgejfglbjogaaDoor
def inB (c lo hi:Nat):Bool:=decide (lo<=c)&&decide (c<=hi)
def ptN (c:Nat):Nat:=if c<128 then 1 else if inB c 194 223 then 2 else if inB c 224 239 then 3 else if inB c 240 244 then 4 else 0
def Ys (c:Nat):Nat:=if c=224 then 160 else if c=240 then 144 else 128
def Yt (c:Nat):Nat:=if c=237 then 159 else if c=244 then 143 else 191
def pt:List UInt8->Nat
 | []=>0
 | c::r=>match ptN c.toNat with
  | 1=>1
  | 2=>(match r with|c1::_=>if inB c1.toNat (Ys c.toNat) (Yt c.toNat) then 2 else 0|_=>0)
  | 3=>(match r with|c1::c2::_=>if inB c1.toNat (Ys c.toNat) (Yt c.toNat)&&inB c2.toNat 128 191 then 3 else 0|_=>0)
  | 4=>(match r with|c1::c2::c3::_=>if inB c1.toNat (Ys c.toNat) (Yt c.toNat)&&(inB c2.toNat 128 191&&inB c3.toNat 128 191) then 4 else 0|_=>0)
  | _=>0
def WV:Nat->List UInt8->Bool
 | _,[]=>true
 | 0,_=>false
 | f+1,c::r=>match pt (c::r) with
  | 0=>false
  | k+1=>WV f (r.drop k)
def Zn (b:List UInt8):Bool:=WV b.length b
theorem V7:∀(f g:Nat) (b:List UInt8),b.length<=f->b.length<=g->WV f b=WV g b
 | _,_,[],_,_=>by simp[WV]
 | 0,_,c::r,h,_=>by simp at h
 | _+1,0,c::r,_,h=>by simp at h
 | f+1,g+1,c::r,h1,h2=>by
  simp only[WV]
  split
  ·rfl
  ·rename_i k _
   simp at h1 h2
   exact V7 f g _ (by simp;omega) (by simp;omega)
theorem Z2 (c:UInt8)(r:List UInt8):Zn (c::r)=match pt (c::r) with|0=>false|k+1=>Zn (r.drop k):=by
 show WV (r.length+1) (c::r)=_
 rw[WV]
 split
 ·rfl
 ·exact V7 _ _ _ (by simp) (Nat.le_refl _)
theorem Iz (b:List UInt8):pt b<=b.length:=by
 unfold pt
 repeat' split
 all_goals simp
theorem XQ (a b:List UInt8)(h:pt a ≠ 0):pt (a++b)=pt a:=by
 match a with
 | []=>simp[pt]at h
 | [c]=>simp only[pt]at h ⊢;revert h;simp only[List.singleton_append,List.cons_append,List.nil_append];split<;>simp
 | [c,c1]=>simp only[pt]at h ⊢;revert h;simp only[List.cons_append,List.nil_append];split<;>simp
 | [c,c1,c2]=>simp only[pt]at h ⊢;revert h;simp only[List.cons_append,List.nil_append];split<;>simp
 | c::c1::c2::c3::r=>simp only[pt,List.cons_append]
theorem Vf:∀(n:Nat) (a b:List UInt8),a.length<=n->Zn a=true->Zn (a++b)=Zn b
 | n,[],b,_,_=>rfl
 | 0,c::r,b,h,_=>by simp at h
 | n+1,c::r,b,h,ha=>by
  rw[Z2]at ha
  have hp:pt (c::r) ≠ 0:=by intro e;rw[e]at ha;simp at ha
  have hl:=Iz (c::r)
  rw[List.cons_append,Z2,<- List.cons_append,XQ _ _ hp]
  obtain⟨k,hk⟩:∃ k,pt (c::r)=k+1:=⟨pt (c::r)-1,by omega⟩
  rw[hk]at ha hl ⊢
  simp at h hl ha ⊢
  rw[List.drop_append_of_le_length (by omega)]
  exact Vf n _ b (by simp;omega) ha
inductive It where
 | mk (k:Int) (n:Nat) (b:List UInt8) (l:List It)
 deriving Inhabited
def It.k:It->Int | .mk k _ _ _=>k
def It.n:It->Nat | .mk _ n _ _=>n
def It.b:It->List UInt8 | .mk _ _ b _=>b
def It.l:It->List It | .mk _ _ _ l=>l
mutual
def It.beq:It->It->Bool
 | .mk k n b l,.mk k' n' b' l'=>(k==k')&&((n==n')&&((b==b')&&It.beqs l l'))
def It.beqs:List It->List It->Bool
 | [],[]=>true
 | x::l,y::l'=>match It.beq x y with|true=>It.beqs l l' | false=>false
 | _,_=>false
end
mutual
theorem It.beq_iff:∀ {x y:It},It.beq x y=true ↔ x=y
 | .mk k n b l,.mk k' n' b' l'=>by
  simp only[It.beq,Bool.and_eq_true,beq_iff_eq,It.mk.injEq]
  rw[It.beqs_iff]
theorem It.beqs_iff:∀ {l l':List It},It.beqs l l'=true ↔ l=l'
 | [],[]=>by simp[It.beqs]
 | [],y::l'=>by simp[It.beqs]
 | x::l,[]=>by simp[It.beqs]
 | x::l,y::l'=>by
  simp only[It.beqs,List.cons.injEq]
  cases h:It.beq x y with
  | true=>simp only[It.beq_iff.1 h,true_and];exact It.beqs_iff
  | false=>simp only[Bool.false_eq_true,false_iff,not_and];intro e;rw[It.beq_iff.2 e]at h;cases h
end
instance:DecidableEq It:=fun x y=>if h:It.beq x y=true then .isTrue (It.beq_iff.1 h) else .isFalse fun e=>h (It.beq_iff.2 e)
def Wu (k:Int)(n:Nat)(b:List UInt8)(l:List It):Bool:=
 if k=0 then b.isEmpty&&l.isEmpty else if k=2 then decide (n=0)&&l.isEmpty else if k=3 then decide (n=0)&&(l.isEmpty&&Zn b) else if k=4 then decide (n=0)&&b.isEmpty else false
mutual
def YP:It->Nat->Nat->Option Nat
 | .mk k n b l,d,m=>if 6<d then none else if m<1 then none else match Wu k n b l with
  | false=>none
  | true=>Yc l (d+1) (m-1)
def Yc:List It->Nat->Nat->Option Nat
 | [],_,m=>some m
 | y::l,d,m=>match YP y d m with
  | none=>none
  | some r=>Yc l d r
end
def Vl (x:It):Bool:=(YP x 1 256).isSome
mutual
def wfI:It->Prop
 | .mk _ n b l=>n<18446744073709551616/\b.length<=140737488351232/\l.length<=2199023255488/\wfs l
def wfs:List It->Prop
 | []=>True
 | x::l=>wfI x/\wfs l
end
def It.hn:It->Nat | .mk k n b l=>if k=2 then b.length else if k=3 then b.length else if k=4 then l.length else n
mutual
def Yo:It->List UInt8
 | .mk k n b l=>(if ZI (k,(It.mk k n b l).hn,false) then ZE (k,(It.mk k n b l).hn,false) else [])++(b++ZR l)
def ZR:List It->List UInt8
 | []=>[]
 | x::l=>Yo x++ZR l
end
abbrev Res (α:Type):=Except Nat α
def rdS:List UInt8->Res (Hd × List UInt8)
 | []=>.error 8
 | c::r=>
  if c.toNat % 32<24 then .ok (((c.toNat/32:Nat),c.toNat % 32,false),r)
  else if c.toNat % 32=31/\VT (c.toNat/32:Nat)=true then .ok (((c.toNat/32:Nat),0,true),r)
  else if 27<c.toNat % 32 then .error 3
  else if r.length<2 ^ (c.toNat % 32-24) then .error 8
  else .ok (((c.toNat/32:Nat),YB (r.take (2 ^ (c.toNat % 32-24))),false),r.drop (2 ^ (c.toNat % 32-24)))
def YA (h:Hd)(s:List UInt8):Res (List UInt8 × List UInt8):=
 if h.2.1<=s.length then(if h.1=3/\Zn (s.take h.2.1)=false then .error 3 else .ok (s.take h.2.1,s.drop h.2.1)) else .error 8
def W8:List UInt8->Bool
 | c::_=>c==255
 | []=>false
def Uw (m:Int):Nat->List UInt8->List UInt8->Res (List UInt8 × List UInt8)
 | 0,_,_=>.error 99
 | f+1,acc,s=>match W8 s with
  | true=>.ok (acc,s.tail)
  | false=>match rdS s with
   | .error e=>.error e
   | .ok (p,r)=>if p.1=m/\p.2.2=false then(match YA p r with
     | .error e=>.error e
     | .ok (c,r2)=>Uw m f (acc++c) r2) else .error 3
def W9 (it:Nat->List UInt8->Res (It × List UInt8 × Nat)):Nat->List It->Nat->List UInt8->Res (List It × List UInt8 × Nat)
 | 0,acc,m,s=>.ok (acc,s,m)
 | f+1,acc,m,s=>match it m s with
  | .error e=>.error e
  | .ok (x,r,m')=>W9 it f (acc++[x]) m' r
def Ux (it:Nat->List UInt8->Res (It × List UInt8 × Nat)):Nat->List It->Nat->List UInt8->Res (List It × List UInt8 × Nat)
 | 0,_,_,_=>.error 99
 | f+1,acc,m,s=>match W8 s with
  | true=>.ok (acc,s.tail,m)
  | false=>match it m s with
   | .error e=>.error e
   | .ok (x,r,m')=>Ux it f (acc++[x]) m' r
def okK (k:Int):Bool:=k==0||(k==2||(k==3||k==4))
def VC (h:Hd)(r:List UInt8):Res (List UInt8 × List UInt8):=match h.2.2 with
 | true=>Uw h.1 (r.length+1) [] r
 | false=>YA h r
def Uy (it:Nat->List UInt8->Res (It × List UInt8 × Nat))(h:Hd)(m:Nat)(r:List UInt8):Res (List It × List UInt8 × Nat):=match h.2.2 with
 | true=>Ux it (r.length+1) [] m r
 | false=>if h.2.1<=r.length then W9 it h.2.1 [] m r else .error 8
def YJ (it:Nat->List UInt8->Res (It × List UInt8 × Nat))(h:Hd)(m:Nat)(r:List UInt8):Res (It × List UInt8 × Nat):=
 if h.1=0 then .ok (.mk 0 h.2.1 [] [],r,m)
 else if h.1=4 then(match Uy it h m r with
  | .error e=>.error e
  | .ok (l,r2,m2)=>.ok (.mk 4 0 [] l,r2,m2))
 else match VC h r with
  | .error e=>.error e
  | .ok (c,r2)=>.ok (.mk h.1 0 c [],r2,m)
def ZS:Nat->Nat->List UInt8->Res (It × List UInt8 × Nat)
 | 0,m,s=>match rdS s with
  | .error e=>.error e
  | .ok (h,r)=>if okK h.1=false then .error 3 else .error 9
 | d+1,m,s=>match rdS s with
  | .error e=>.error e
  | .ok (h,r)=>if okK h.1=false then .error 3 else if m=0 then .error 2 else YJ (ZS d) h (m-1) r
def Vg (b:List UInt8)(p:Int):It × Nat × Nat:=
 if p<0\/(b.length:Int)<p then(.mk 0 0 [] [],0,1) else match ZS 6 256 (b.drop p.toNat) with
  | .error e=>(.mk 0 0 [] [],0,e)
  | .ok (x,r,_)=>(x,b.length-r.length,0)
def Qx (b:List UInt8):Bool:=match ZS 6 256 b with
 | .error _=>false
 | .ok (x,r,_)=>r.isEmpty&&Yo x==b
end Go.Proofs.YthdgejfglbjogaaDoor
end
section
open Go.RowKit Go.Pl
namespace Go.Proofs.YthdgejfglbjogaaDoor
theorem Uz {s r:List UInt8}{h:Hd}(e:rdS s=.ok (h,r)):∃ pre,s=pre++r/\0<pre.length:=by
 cases s with
 | nil=>simp[rdS]at e
 | cons c t=>
  simp only[rdS]at e
  split at e
  ·injection e with e;injection e with e1 e2;subst e2;exact⟨[c],rfl,by simp⟩
  split at e
  ·injection e with e;injection e with e1 e2;subst e2;exact⟨[c],rfl,by simp⟩
  split at e
  ·cases e
  split at e
  ·cases e
  ·injection e with e;injection e with e1 e2;subst e2
   exact⟨c::t.take (2 ^ (c.toNat % 32-24)),by simp,by simp⟩
theorem VU (b:List UInt8)(p:Nat)(hp:p<=b.length):Z7 b p=match rdS (b.drop p) with
  | .error e=>((0,0,false),0,e)
  | .ok (h,r)=>(h,b.length-r.length,0):=by
 unfold Z7
 have hl:(b.drop p).length=b.length-p:=List.length_drop ..
 cases hs:b.drop p with
 | nil=>simp[rdS]
 | cons c r=>
  rw[hs]at hl
  simp at hl
  simp only[rdS]
  by_cases h1:c.toNat % 32<24
  ·simp[h1];omega
  by_cases h2:c.toNat % 32=31/\VT (c.toNat/32:Nat)=true
  ·rw[if_neg h1,if_pos h2,if_neg h1,if_pos h2]
   simp;omega
  by_cases h3:27<c.toNat % 32
  ·rw[if_neg h1,if_neg h2,if_pos h3,if_neg h1,if_neg h2,if_pos h3]
  by_cases h4:r.length<2 ^ (c.toNat % 32-24)
  ·rw[if_neg h1,if_neg h2,if_neg h3,if_pos h4,if_neg h1,if_neg h2,if_neg h3,if_pos h4]
  ·rw[if_neg h1,if_neg h2,if_neg h3,if_neg h4,if_neg h1,if_neg h2,if_neg h3,if_neg h4]
   generalize 2 ^ (c.toNat % 32-24)=k at h4 ⊢
   simp;omega
theorem U0 (h:Hd)(hr:ZI h=true)(hn:h.2.1<18446744073709551616)(s:List UInt8):rdS (ZE h++s)=.ok (h,s):=by
 have e:=JO h hr hn [] s
 simp only[List.nil_append,List.length_nil,Nat.zero_add]at e
 rw[VU _ 0 (Nat.zero_le _),List.drop_zero]at e
 cases hx:rdS (ZE h++s) with
 | error c => rw [hx] at e; simp at e; have := e.2.1; have := Z9 h hr; have : 0 < WM h := by unfold WM; rw [if_pos hr]; split <;> omega
              omega
 | ok y=>
  obtain⟨h',r⟩:=y
  rw[hx]at e
  simp only[Prod.mk.injEq,and_true]at e
  obtain⟨e1,e2⟩:=e
  obtain⟨pre,hp,_⟩:=Uz hx
  have hl:=congrArg List.length hp
  simp at hl e2
  have:pre.length=(ZE h).length:=by omega
  have:=List.append_inj hp this.symm
  rw[<- this.2,e1]
theorem Qy {s r:List UInt8}{h:Hd}(e:rdS s=.ok (h,r)):ZI h=true/\h.2.1<18446744073709551616/\∃ pre,s=pre++r/\(ZE h).length<=pre.length/\0<pre.length:=by
 have e0:=VU s 0 (Nat.zero_le _)
 rw[List.drop_zero,e]at e0
 dsimp only at e0
 have w:=JP s 0 (by rw[e0])
 have bd:=Q5 s 0
 rw[e0]at w bd
 obtain⟨pre,hp,h0⟩:=Uz e
 have hl:=congrArg List.length hp
 simp at hl
 exact⟨w.1,bd.2.1,pre,hp,by have:=w.2.1;dsimp only at this;omega,h0⟩
theorem Om (h:Hd)(hr:ZI h=true)(hn:h.2.1<18446744073709551616)(c:Nat)(hc:c<(ZE h).length):rdS ((ZE h).take c)=.error 8:=by
 cases c with
 | zero=>rfl
 | succ c=>
  obtain⟨m,n,o⟩:=h
  obtain⟨hm0,hm7⟩:=V6 hr
  cases o with
  | true=>simp[ZE]at hc
  | false=>
   have hw:ZE (m,n,false)=YY m.toNat (Z3 n)::beN n (Zm n):=rfl
   rw[hw]at hc ⊢
   simp only[List.length_cons,Z5]at hc
   dsimp only at hm0 hm7 hn
   rw[List.take_succ_cons]
   have hi:=Q4 n
   have ht:(YY m.toNat (Z3 n)).toNat=32*m.toNat+Z3 n:=Yr _ _ (by omega) (by omega)
   rcases VA n hn with⟨_,hf,_⟩ | ⟨_,hf,h24,h27,_⟩
   ·omega
   ·simp only[rdS,ht]
    have e:(32*m.toNat+Z3 n) % 32=Z3 n:=by omega
    rw[e,if_neg (by omega),if_neg (by omega),if_neg (by omega),if_pos]
    rw[List.length_take,Z5,<- hf]
    omega
theorem UA {k:Int}{n:Nat}{b:List UInt8}{l:List It}(h:Wu k n b l=true):(k=0/\b=[]/\l=[])\/(k=2/\n=0/\l=[])\/(k=3/\n=0/\l=[]/\Zn b=true)\/(k=4/\n=0/\b=[]):=by
 unfold Wu at h
 by_cases h0:k=0
 ·simp[h0]at h;exact .inl ⟨h0,h⟩
 by_cases h2:k=2
 ·simp[h2]at h;exact .inr (.inl ⟨h2,h⟩)
 by_cases h3:k=3
 ·simp[h3]at h;exact .inr (.inr (.inl ⟨h3,h⟩))
 by_cases h4:k=4
 ·simp[h4]at h;exact .inr (.inr (.inr ⟨h4,h⟩))
 ·simp[h0,h2,h3,h4]at h
theorem KG {x:It}(h:0<=x.k/\x.k<=7):0<(Yo x).length:=by
 obtain⟨k,n,b,l⟩:=x
 simp only[It.k]at h
 have hr:ZI (k,(It.mk k n b l).hn,false)=true:=by simp[ZI];exact h
 rw[Yo,if_pos hr,List.length_append,Z9 _ hr]
 unfold WM;rw[if_pos hr];simp;omega
theorem Wz {k:Int}{n:Nat}{b:List UInt8}{l:List It}{d m m':Nat}(h:YP (.mk k n b l) d m=some m'):d<=6/\1<=m/\Wu k n b l=true/\Yc l (d+1) (m-1)=some m':=by
 rw[YP]at h
 split at h
 ·cases h
 split at h
 ·cases h
 split at h
 ·cases h
 ·rename_i h3;exact⟨by omega,by omega,h3,h⟩
theorem Uh {k:Int}{n:Nat}{b:List UInt8}{l:List It}(h:Wu k n b l=true):0<=k/\k<=7:=by
 rcases UA h with⟨h,_⟩ | ⟨h,_⟩ | ⟨h,_⟩ | ⟨h,_⟩<;>omega
theorem YZ {x:It}{l:List It}{d m m':Nat}(h:Yc (x::l) d m=some m'):∃ m1,YP x d m=some m1/\Yc l d m1=some m':=by
 rw[Yc]at h
 split at h
 ·cases h
 ·rename_i m1 h1;exact⟨m1,h1,h⟩
theorem Q6:∀ {l:List It} {d m m':Nat},Yc l d m=some m'->l.length<=(ZR l).length
 | [],_,_,_,_=>by simp
 | x::l,d,m,m',h=>by
  obtain⟨m1,h1,h2⟩:=YZ h
  have:=Q6 h2
  obtain⟨k,n,b,lx⟩:=x
  have:=KG (x:=.mk k n b lx) (Uh (Wz h1).2.2.1)
  rw[ZR];simp;omega
theorem Xj {k:Int}{n:Nat}{b:List UInt8}{l:List It}(h:Wu k n b l=true):okK k=true:=by
 rcases UA h with⟨h,_⟩ | ⟨h,_⟩ | ⟨h,_⟩ | ⟨h,_⟩<;>subst h<;>rfl
theorem Q7 {k:Int}{n:Nat}{b:List UInt8}{l:List It}(h:Wu k n b l=true)(hw:wfI (.mk k n b l)):ZI (k,(It.mk k n b l).hn,false)=true/\(It.mk k n b l).hn<18446744073709551616:=by
 refine⟨by simp[ZI];exact Uh h,?_⟩
 obtain⟨h1,h2,h3,_⟩:=hw
 rcases UA h with⟨h,_⟩ | ⟨h,_⟩ | ⟨h,_⟩ | ⟨h,_⟩<;>subst h<;>simp[It.hn]<;>omega
mutual
theorem Q8:∀(x:It) (d m m':Nat) (r:List UInt8),wfI x->d<=6->YP x (7-d) m=some m'->ZS d m (Yo x++r)=.ok (x,r,m')
 | .mk k n b l,d,m,m',r,hw,hd,h=>by
  obtain⟨h1,h2,h3,h4⟩:=Wz h
  obtain⟨hr,hn⟩:=Q7 h3 hw
  obtain⟨d,rfl⟩:∃ e,d=e+1:=⟨d-1,by omega⟩
  have e7:7-(d+1)+1=7-d:=by omega
  rw[e7]at h4
  rw[Yo,if_pos hr,List.append_assoc,ZS,U0 _ hr hn]
  dsimp only
  rw[Xj h3,if_neg (by simp),if_neg (by omega)]
  obtain⟨w1,w2,w3,w4⟩:=hw
  rcases UA h3 with⟨rfl,rfl,rfl⟩ | ⟨rfl,rfl,rfl⟩ | ⟨rfl,rfl,rfl,hv⟩ | ⟨rfl,rfl,rfl⟩
  ·simp only[Yc,Option.some.injEq]at h4
   simp[YJ,ZR,It.hn,h4]
  ·simp only[Yc,Option.some.injEq]at h4
   simp[YJ,ZR,It.hn,VC,YA,h4]
  ·simp only[Yc,Option.some.injEq]at h4
   simp[YJ,ZR,It.hn,VC,YA,h4,hv]
  ·have hl:=Q6 h4
   have hq:=Q9 l d (m-1) m' [] r w4 (by omega) h4
   show YJ (ZS d) (4,l.length,false) (m-1) ([]++ZR l++r)=_
   rw[YJ,if_neg (by simp),if_pos rfl]
   simp only[Uy,List.nil_append]
   rw[if_pos (by rw[List.length_append];omega),hq]
   rfl
theorem Q9:∀(l:List It) (d m m':Nat) (acc:List It) (r:List UInt8),wfs l->d<=6->Yc l (7-d) m=some m'->W9 (ZS d) l.length acc m (ZR l++r)=.ok (acc++l,r,m')
 | [],d,m,m',acc,r,_,_,h=>by
  simp only[Yc,Option.some.injEq]at h
  simp[W9,ZR,h]
 | x::l,d,m,m',acc,r,hw,hd,h=>by
  obtain⟨m1,h1,h2⟩:=YZ h
  rw[ZR,List.append_assoc,List.length_cons,W9,Q8 x d m m1 _ hw.1 hd h1]
  dsimp only
  rw[Q9 l d m1 m' (acc++[x]) r hw.2 hd h2]
  simp
end
mutual
theorem KH:∀(x:It) (d m m' c:Nat),wfI x->d<=6->YP x (7-d) m=some m'->c<(Yo x).length->ZS d m ((Yo x).take c)=.error 8
 | .mk k n b l,d,m,m',c,hw,hd,h,hc=>by
  obtain⟨h1,h2,h3,h4⟩:=Wz h
  obtain⟨hr,hn⟩:=Q7 h3 hw
  obtain⟨d,rfl⟩:∃ e,d=e+1:=⟨d-1,by omega⟩
  have e7:7-(d+1)+1=7-d:=by omega
  rw[e7]at h4
  rw[Yo,if_pos hr]at hc ⊢
  rw[ZS]
  rcases Nat.lt_or_ge c (ZE (k,(It.mk k n b l).hn,false)).length with hlt|hge
  ·rw[List.take_append_of_le_length (by omega),Om _ hr hn _ hlt]
  ·rw[List.take_append,List.take_of_length_le hge,U0 _ hr hn]
   dsimp only
   rw[Xj h3,if_neg (by simp),if_neg (by omega)]
   obtain⟨w1,w2,w3,w4⟩:=hw
   generalize hc':c-(ZE (k,(It.mk k n b l).hn,false)).length=c'
   have hlt:c'<(b++ZR l).length:=by rw[List.length_append]at hc;omega
   rcases UA h3 with⟨rfl,rfl,rfl⟩ | ⟨rfl,rfl,rfl⟩ | ⟨rfl,rfl,rfl,hv⟩ | ⟨rfl,rfl,rfl⟩
   ·simp[ZR]at hlt
   ·simp[ZR]at hlt
    show YJ (ZS d) (2,b.length,false) (m-1) ((b++[]).take c')=_
    have hx:¬ b.length<=min c' b.length:=by omega
    simp[YJ,VC,YA,List.length_take,hx]
   ·simp[ZR]at hlt
    show YJ (ZS d) (3,b.length,false) (m-1) ((b++[]).take c')=_
    have hx:¬ b.length<=min c' b.length:=by omega
    simp[YJ,VC,YA,List.length_take,hx]
   ·simp only[List.nil_append]at hlt
    have hq:=Ja l d (m-1) m' c' [] w4 (by omega) h4 hlt
    show YJ (ZS d) (4,l.length,false) (m-1) (([]++ZR l).take c')=_
    rw[YJ,if_neg (by simp),if_pos rfl]
    simp only[Uy,List.nil_append]
    by_cases hx:l.length<=((ZR l).take c').length
    ·rw[if_pos hx,hq]
    ·rw[if_neg hx]
theorem Ja:∀(l:List It) (d m m' c:Nat) (acc:List It),wfs l->d<=6->Yc l (7-d) m=some m'->c<(ZR l).length->W9 (ZS d) l.length acc m ((ZR l).take c)=.error 8
 | [],d,m,m',c,acc,_,_,h,hc=>by simp[ZR]at hc
 | x::l,d,m,m',c,acc,hw,hd,h,hc=>by
  obtain⟨m1,h1,h2⟩:=YZ h
  rw[ZR]at hc ⊢
  rw[List.length_cons,W9]
  rcases Nat.lt_or_ge c (Yo x).length with hlt|hge
  ·rw[List.take_append_of_le_length (by omega),KH x d m m1 c hw.1 hd h1 hlt]
  ·rw[List.take_append,List.take_of_length_le hge,Q8 x d m m1 _ hw.1 hd h1]
   dsimp only
   exact Ja l d m1 m' _ _ hw.2 hd h2 (by rw[List.length_append]at hc;omega)
end
theorem VV {h:Hd}{s c r:List UInt8}(e:YA h s=.ok (c,r)):s=c++r/\c.length=h.2.1/\(h.1=3->Zn c=true):=by
 unfold YA at e
 split at e
 ·split at e
  ·cases e
  ·rename_i h1 h2
   injection e with e;injection e with e1 e2
   subst e1 e2
   refine⟨by simp,by simp;omega,fun h3=>?_⟩
   simpa[h3]using h2
 ·cases e
theorem On (a b:Nat)(h:a+b<4294967296):Zm (a+b)<=Zm a+Zm b+2:=by
 unfold Zm
 repeat' split
 all_goals omega
theorem Xk {m:Int}:∀(f:Nat) (acc s c r:List UInt8),Uw m f acc s=.ok (c,r)->(m=3->Zn acc=true)->∃(pre d:List UInt8) (q:Nat),s=pre++r/\c=acc++d/\(m=3->Zn c=true)/\pre.length=1+d.length+q /\
  (s.length<4294967296->Zm d.length<=1+q/\(d=[]\/Zm d.length+1<=q\/2<=q))
 | 0,_,_,_,_,h,_=>by simp[Uw]at h
 | f+1,acc,s,c,r,h,ha=>by
  rw[Uw]at h
  cases he:W8 s with
  | true=>
   rw[he]at h
   injection h with h;injection h with h1 h2;subst h1 h2
   obtain⟨x,t,rfl⟩:∃ x t,s=x::t:=by cases s with|nil=>simp[W8]at he|cons x t=>exact⟨x,t,rfl⟩
   exact⟨[x],[],0,rfl,by simp,ha,by simp,fun _=>⟨by simp[Zm],.inl rfl⟩⟩
  | false=>
   rw[he]at h
   dsimp only at h
   cases hr:rdS s with
   | error e=>rw[hr]at h;cases h
   | ok y=>
    obtain⟨p,t⟩:=y
    rw[hr]at h
    dsimp only at h
    obtain⟨k1,k2,pre,k3,k4,k5⟩:=Qy hr
    by_cases hp:p.1=m/\p.2.2=false
    ·rw[if_pos hp]at h
     cases hc:YA p t with
     | error e=>rw[hc]at h;cases h
     | ok y=>
      obtain⟨c1,r2⟩:=y
      rw[hc]at h
      dsimp only at h
      obtain⟨q1,q2,q3⟩:=VV hc
      have hv:m=3->Zn (acc++c1)=true:=fun h3=>by
       rw[Vf _ _ _ (Nat.le_refl _) (ha h3)]
       exact q3 (hp.1.trans h3)
      obtain⟨pre2,d2,q,e1,e2,e3,e4,e5⟩:=Xk f _ _ _ _ h hv
      have hw:(ZE p).length=1+Zm c1.length:=by
       rw[Z9 p k1];unfold WM;rw[if_pos k1,hp.2,<- q2];simp
      refine⟨pre++(c1++pre2),c1++d2,pre.length+q,by rw[k3,q1,e1];simp,by rw[e2];simp,e3,by simp;omega,fun hl=>?_⟩
      have hlen:=congrArg List.length k3
      have hlen2:=congrArg List.length q1
      have hlen3:=congrArg List.length e1
      simp only[List.length_append]at hlen hlen2 hlen3 ⊢
      obtain⟨f1,f2⟩:=e5 (by omega)
      have hadd:=On c1.length d2.length (by omega)
      have h4:Zm (c1.length+d2.length)<=4:=by
       unfold Zm
       repeat' split
       all_goals omega
      have hz:d2=[]->Zm (c1.length+d2.length)=Zm c1.length:=fun e=>by rw[e];rfl
      rcases f2 with e|f2|f2
      ·rw[hz e];omega
      ·omega
      ·omega
    ·rw[if_neg hp]at h;cases h
theorem WW (s:List UInt8)(h:W8 s=true):∃ x,s=x::s.tail:=by
 cases s with
 | nil=>simp[W8]at h
 | cons x t=>exact⟨x,rfl⟩
def KI (it:Nat->List UInt8->Res (It × List UInt8 × Nat))(D:Nat):Prop:=∀(m:Nat) (s:List UInt8) (x:It) (r:List UInt8) (m':Nat),it m s=.ok (x,r,m')->s.length<=140737488351232/\m<=256->YP x D m=some m'/\wfI x/\∃ pre,s=pre++r/\0<pre.length/\(m<=256/\s.length<4294967296->(Yo x).length<=pre.length)/\(Yo x).length+8*m'<=pre.length+8*m
mutual
theorem WA:∀ {x:It} {d m m':Nat},YP x d m=some m'->m'+1<=m
 | .mk k n b l,d,m,m',h=>by
  obtain⟨_,h2,_,h4⟩:=Wz h
  have:=VD h4
  omega
theorem VD:∀ {l:List It} {d m m':Nat},Yc l d m=some m'->m'+l.length<=m
 | [],d,m,m',h=>by simp only[Yc,Option.some.injEq]at h;simp[h]
 | x::l,d,m,m',h=>by
  obtain⟨m1,h1,h2⟩:=YZ h
  have:=WA h1
  have:=VD h2
  simp;omega
end
theorem Vm:∀ {l:List It} {x:It} {D m m1 m2:Nat},Yc l D m=some m1->YP x D m1=some m2->Yc (l++[x]) D m=some m2
 | [],x,D,m,m1,m2,h1,h2=>by
  simp only[Yc,Option.some.injEq]at h1
  subst h1
  simp[Yc,h2]
 | y::l,x,D,m,m1,m2,h1,h2=>by
  obtain⟨m3,h3,h4⟩:=YZ h1
  rw[List.cons_append,Yc,h3]
  exact Vm h4 h2
theorem UB:∀ {l:List It} {x:It},wfs l->wfI x->wfs (l++[x])
 | [],x,_,h=>⟨h,trivial⟩
 | y::l,x,⟨h1,h2⟩,h=>⟨h1,UB h2 h⟩
theorem WX:∀(l l':List It),ZR (l++l')=ZR l++ZR l'
 | [],l'=>rfl
 | x::l,l'=>by rw[List.cons_append,ZR,ZR,WX l l',List.append_assoc]
theorem Xl {it:Nat->List UInt8->Res (It × List UInt8 × Nat)}{D:Nat}(hit:KI it D):∀(f:Nat) (acc:List It) (m0 m:Nat) (s:List UInt8) (l:List It) (r:List UInt8) (m':Nat),W9 it f acc m s=.ok (l,r,m')->s.length<=140737488351232/\m<=256->Yc acc D m0=some m->wfs acc ->
  Yc l D m0=some m'/\wfs l/\l.length=acc.length+f/\∃ pre,s=pre++r/\(m<=256/\s.length<4294967296->(ZR l).length<=(ZR acc).length+pre.length)/\(ZR l).length+8*m'<=(ZR acc).length+pre.length+8*m
 | 0,acc,m0,m,s,l,r,m',h,hs,ha,hw=>by
  rw[W9]at h
  injection h with h;injection h with h1 h2;injection h2 with h2 h3
  subst h1 h2 h3
  exact⟨ha,hw,rfl,[],rfl,fun _=>by simp,by simp⟩
 | f+1,acc,m0,m,s,l,r,m',h,hs,ha,hw=>by
  rw[W9]at h
  cases hx:it m s with
  | error e=>rw[hx]at h;cases h
  | ok y=>
   obtain⟨x,r1,m1⟩:=y
   rw[hx]at h
   dsimp only at h
   obtain⟨k1,k2,pre,k3,k4,k5,k6⟩:=hit _ _ _ _ _ hx hs
   have hl:=congrArg List.length k3
   rw[List.length_append]at hl
   have hlt:=WA k1
   obtain⟨q1,q2,q3,pre2,q4,q5,q6⟩:=Xl hit f _ m0 _ _ _ _ _ h (by omega) (Vm ha k1) (UB hw k2)
   rw[WX]at q5 q6
   simp only[ZR,List.append_nil,List.length_append]at q5 q6
   refine⟨q1,q2,by rw[q3];simp;omega,pre++pre2,by rw[k3,q4];simp,fun h4=>?_,by rw[List.length_append];omega⟩
   have:=q5 (by omega)
   have:=k5 h4
   rw[List.length_append]
   omega
theorem Xm {it:Nat->List UInt8->Res (It × List UInt8 × Nat)}{D:Nat}(hit:KI it D):∀(f:Nat) (acc:List It) (m0 m:Nat) (s:List UInt8) (l:List It) (r:List UInt8) (m':Nat),Ux it f acc m s=.ok (l,r,m')->s.length<=140737488351232/\m<=256->Yc acc D m0=some m->wfs acc ->
  Yc l D m0=some m'/\wfs l/\acc.length<=l.length/\∃ pre,s=pre++r/\l.length+1<=acc.length+pre.length/\(m<=256/\s.length<4294967296->(ZR l).length+1<=(ZR acc).length+pre.length)/\(ZR l).length+8*m'<=(ZR acc).length+pre.length+8*m
 | 0,acc,m0,m,s,l,r,m',h,hs,ha,hw=>by rw[Ux]at h;cases h
 | f+1,acc,m0,m,s,l,r,m',h,hs,ha,hw=>by
  rw[Ux]at h
  cases he:W8 s with
  | true=>
   rw[he]at h
   injection h with h;injection h with h1 h2;injection h2 with h2 h3
   subst h1 h2 h3
   obtain⟨x,hx⟩:=WW s he
   exact⟨ha,hw,Nat.le_refl _,[x],hx,by simp,fun _=>by simp,by simp⟩
  | false=>
   rw[he]at h
   dsimp only at h
   cases hx:it m s with
   | error e=>rw[hx]at h;cases h
   | ok y=>
    obtain⟨x,r1,m1⟩:=y
    rw[hx]at h
    dsimp only at h
    obtain⟨k1,k2,pre,k3,k4,k5,k6⟩:=hit _ _ _ _ _ hx hs
    have hl:=congrArg List.length k3
    rw[List.length_append]at hl
    have hlt:=WA k1
    obtain⟨q1,q2,q3,pre2,q4,q5,q6,q7⟩:=Xm hit f _ m0 _ _ _ _ _ h (by omega) (Vm ha k1) (UB hw k2)
    rw[WX]at q6 q7
    simp only[ZR,List.append_nil,List.length_append]at q6 q7
    refine⟨q1,q2,by simp at q3;omega,pre++pre2,by rw[k3,q4];simp,by simp at q5 ⊢;omega,fun h4=>?_,by rw[List.length_append];omega⟩
    have:=q6 (by omega)
    have:=k5 h4
    rw[List.length_append]
    omega
theorem YC {k:Int}{n:Nat}{b:List UInt8}{l:List It}(hr:ZI (k,(It.mk k n b l).hn,false)=true):(Yo (.mk k n b l)).length=1+Zm (It.mk k n b l).hn+(b.length+(ZR l).length):=by
 rw[Yo,if_pos hr]
 simp only[List.length_append]
 rw[Z9 _ hr]
 unfold WM;rw[if_pos hr];simp
theorem Jb (a:Nat):Zm a<=8:=by
 unfold Zm
 repeat' split
 all_goals omega
theorem VW {h:Hd}(hr:ZI h=true)(ho:h.2.2=false):(ZE h).length=1+Zm h.2.1:=by
 rw[Z9 h hr];unfold WM;rw[if_pos hr,ho];rfl
theorem U1 {k:Int}(h:okK k=true):k=0\/k=2\/k=3\/k=4:=by
 simpa[okK]using h
theorem Qz:∀(d:Nat),d<=6->KI (ZS d) (7-d)
 | 0,_=>fun m s x r m' h hs=>by
  rw[ZS]at h
  cases hr:rdS s with
  | error e=>rw[hr]at h;cases h
  | ok y=>obtain⟨hd,t⟩:=y;rw[hr]at h;dsimp only at h;split at h<;>cases h
 | d+1,hd=>fun m s x r m' h hs=>by
  rw[ZS]at h
  cases hr:rdS s with
  | error e=>rw[hr]at h;cases h
  | ok y=>
   obtain⟨⟨k,n,o⟩,t⟩:=y
   rw[hr]at h
   dsimp only at h
   obtain⟨k1,k2,pre,k3,k4,k5⟩:=Qy hr
   dsimp only at k2
   have hlen:=congrArg List.length k3
   rw[List.length_append]at hlen
   cases hk:okK k with
   | false=>rw[hk,if_pos rfl]at h;cases h
   | true=>
    rw[hk,if_neg (by simp)]at h
    by_cases hm:m=0
    ·rw[if_pos hm]at h;cases h
    ·rw[if_neg hm]at h
     have hwk:∀(k:Int) (n:Nat) (b:List UInt8) (l:List It),Wu k n b l=true->Yc l (7-d) (m-1)=some m'->YP (.mk k n b l) (7-(d+1)) m=some m':=fun k n b l ho hl=>by
      rw[YP,if_neg (by omega),if_neg (by omega),ho,show 7-(d+1)+1=7-d by omega]
      exact hl
     have hr0:∀(k:Int) (n:Nat) (b:List UInt8) (l:List It),Wu k n b l=true->ZI (k,(It.mk k n b l).hn,false)=true:=fun k n b l ho=>by
      have:=Uh ho
      simp[ZI];exact this
     unfold YJ at h
     dsimp only at h
     by_cases h0:k=0
     ·subst h0
      rw[if_pos rfl]at h
      injection h with h;injection h with h1 h2;injection h2 with h2 h3
      subst h1 h2 h3
      have ho:Wu 0 n [] []=true:=rfl
      have hf8:=Jb n
      refine⟨hwk _ _ _ _ ho (by simp[Yc]),⟨k2,by simp,by simp,trivial⟩,pre,k3,k5,fun _=>?_,by rw[YC (hr0 _ _ _ _ ho)];simp only[It.hn,ZR,List.length_nil];simp;omega⟩
      rw[YC (hr0 _ _ _ _ ho)]
      have hof:o=false:=by cases o with
       | false=>rfl
       | true=>have:=(VB k1).2;simp[VT]at this
      subst hof
      have:=VW k1 rfl
      simp[It.hn,ZR]at this ⊢
      omega
     rw[if_neg h0]at h
     by_cases h4:k=4
     ·subst h4
      rw[if_pos rfl]at h
      cases hl:Uy (ZS d) (4,n,o) (m-1) t with
      | error e=>rw[hl]at h;cases h
      | ok y=>
       obtain⟨l,r2,m2⟩:=y
       rw[hl]at h
       dsimp only at h
       injection h with h;injection h with h1 h2;injection h2 with h2 h3
       subst h1 h2 h3
       have ho:Wu 4 0 [] l=true:=rfl
       have hR:=Qz d (by omega)
       unfold Uy at hl
       dsimp only at hl
       cases o with
       | true=>
        dsimp only at hl
        obtain⟨q1,q2,q3,pre2,q4,q5,q6,q7⟩:=Xm hR _ _ (m-1) _ _ _ _ _ hl (by omega) rfl trivial
        have hl2:=congrArg List.length q4
        rw[List.length_append]at hl2
        simp at q5
        have hc:=VD q1
        have hf8:=Jb l.length
        simp only[ZR,List.length_nil,Nat.zero_add]at q7
        refine⟨hwk _ _ _ _ ho q1,⟨by omega,by simp,by omega,q2⟩,pre++pre2,by rw[k3,q4];simp,by simp;omega,fun h4=>?_,by rw[YC (hr0 _ _ _ _ ho)];simp[It.hn];omega⟩
        have:=q6 (by omega)
        rw[YC (hr0 _ _ _ _ ho)]
        have hf:Zm l.length<=1:=by
         unfold Zm
         repeat' split
         all_goals omega
        simp[It.hn,ZR]at this ⊢
        omega
       | false=>
        dsimp only at hl
        split at hl
        ·obtain⟨q1,q2,q3,pre2,q4,q5,q7⟩:=Xl hR _ _ (m-1) _ _ _ _ _ hl (by omega) rfl trivial
         have hl2:=congrArg List.length q4
         rw[List.length_append]at hl2
         simp at q3
         have hc:=VD q1
         have hf8:=Jb l.length
         simp only[ZR,List.length_nil,Nat.zero_add]at q7
         refine⟨hwk _ _ _ _ ho q1,⟨by omega,by simp,by omega,q2⟩,pre++pre2,by rw[k3,q4];simp,by simp;omega,fun h4=>?_,by rw[YC (hr0 _ _ _ _ ho)];simp[It.hn];omega⟩
         have:=q5 (by omega)
         rw[YC (hr0 _ _ _ _ ho)]
         have:=VW k1 rfl
         simp[It.hn,ZR,q3]at this ⊢
         simp[ZR]at *
         omega
        ·cases hl
     ·rw[if_neg h4]at h
      cases hl:VC (k,n,o) t with
      | error e=>rw[hl]at h;cases h
      | ok y=>
       obtain⟨c,r2⟩:=y
       rw[hl]at h
       dsimp only at h
       injection h with h;injection h with h1 h2;injection h2 with h2 h3
       subst h1 h2 h3
       have hk':k=2\/k=3:=by rcases U1 hk with h|h|h|h<;>simp_all
       have hhn:(It.mk k 0 c []).hn=c.length:=by rcases hk' with rfl|rfl<;>rfl
       have ho:(k=3->Zn c=true)->Wu k 0 c []=true:=fun hv=>by
        rcases hk' with rfl|rfl
        ·rfl
        ·simp[Wu,hv]
       unfold VC at hl
       dsimp only at hl
       cases o with
       | true=>
        dsimp only at hl
        obtain⟨pre2,d2,q,e1,e2,e3,e4,e5⟩:=Xk _ _ _ _ _ hl (fun _=>rfl)
        simp only[List.nil_append]at e2
        subst e2
        have hl2:=congrArg List.length e1
        rw[List.length_append]at hl2
        have hf8:=Jb c.length
        refine⟨hwk _ _ _ _ (ho e3) rfl,⟨by omega,by omega,by simp,trivial⟩,pre++pre2,by rw[k3,e1];simp,by simp;omega,fun h4=>?_,by rw[YC (hr0 _ _ _ _ (ho e3)),hhn];simp[ZR];omega⟩
        have:=e5 (by omega)
        rw[YC (hr0 _ _ _ _ (ho e3)),hhn]
        simp[ZR]
        omega
       | false=>
        dsimp only at hl
        obtain⟨q1,q2,q3⟩:=VV hl
        dsimp only at q2 q3
        have hl2:=congrArg List.length q1
        rw[List.length_append]at hl2
        have hf8:=Jb c.length
        refine⟨hwk _ _ _ _ (ho q3) rfl,⟨by omega,by omega,by simp,trivial⟩,pre++c,by rw[k3,q1];simp,by simp;omega,fun h4=>?_,by rw[YC (hr0 _ _ _ _ (ho q3)),hhn];simp[ZR];omega⟩
        rw[YC (hr0 _ _ _ _ (ho q3)),hhn]
        have:=VW k1 rfl
        dsimp only at this
        have e:Zm c.length=Zm n:=by rw[q2]
        simp[ZR]
        omega
end Go.Proofs.YthdgejfglbjogaaDoor
end
section
open Go.RowKit Go.Pl Go.Av
namespace Go.Proofs.YthdgejfglbjogaaDoor
set_option maxHeartbeats 4000000
theorem VX [Known](b:List UInt8)(hb:b.length<=140737488351232):AP Tryd.prog 12 [byE b] (byE b) []:=by
 have hU:=Yv b
 cases b with
 | nil=>
  refine AP.ofA (Zs Tryd.func12 Z Tryd.ntmps12 Z Z ?_)
  repeat'(first|(apply Xd Za;(iterate 5 exact Z);intro b hbn)|(apply Zh Za;exact Z)|(apply Zd Za;exact Z)|(apply Zv Za;exact Z)|(apply Y5;exact Z;all_goals intro hb)|refine QY Za Z Z Z Z Z Z Z Z Z Z Z Z ?_|refine Yj Za Z Z Z Z Z Z ?_)
  all_goals exact Qe
 | cons c b=>
  refine AP.ofA (Zs Tryd.func12 Z Tryd.ntmps12 Z Z ?_)
  repeat'(first|(apply Xd Za;(iterate 5 exact Z);intro b hbn;(have hbn2:=hbn (List.cons_ne_nil _ _));subst hbn2;clear hbn)|(apply Zh Za;exact Z)|(apply Zd Za;exact Z)|(apply Zv Za;exact Z)|(apply Ze;exact Z;(first|with_reducible assumption|(solve|simp only[bn])))|refine QY Za Z Z Z Z Z Z Z Z Z Z Z Z ?_|(apply Yi Za;(iterate 6 exact Z);(first|with_reducible assumption|exact Z|rotate_left);exact Z;exact Z;(first|exact Zi rfl|with_reducible assumption|rotate_left);(first|exact Zi rfl|with_reducible assumption|rotate_left);(first|exact Qb|rotate_left);(first|exact Qb|rotate_left);(first|exact Qb|rotate_left);exact Z;exact Z))
  all_goals first|(apply ZW [];(apply Zf Za;exact Z);(iterate 4 exact Z))|skip
  all_goals first|rfl|(simp at hb ⊢;(try unfold maxLen);omega)
theorem Ia [Known](a b:List UInt8):AP Tryd.prog 18 [byE a,byE b] (.bool (a==b)) []:=by
 refine AP.ofA (Zs Tryd.func18 Z Tryd.ntmps18 Z Z ?_)
 repeat'(first|(apply Zh Za;exact Z)|(apply Zd Za;exact Z)|refine Uo Za Z Z Z Z Z Z Z Z Z ?_)
 all_goals exact Qe
end Go.Proofs.YthdgejfglbjogaaDoor
end
